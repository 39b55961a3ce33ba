import PyProof.Rows.All
import Wide.All
import OpenK.AllK
import Wide.FinOn
import HandS.ForMost
import HandS.IsInst
import HandS.TupAny
import HandS.TupMul
import HandS.Walk
import HandS.Zip
import HandS.Flow
import HandS.Wide
import HandS.Exc
import HandS.Slots
import HandS.SlotsOwn
import HandS.WordsExc
import HandS.Star
import HandS.Text
import HandS.RaiseMore
import HandS.FStr
import HandS.Style
import HandS.MakeKwOnly
import HandS.ClsMeth
import HandS.OwnEq
import HandS.Lambda
import HandS.EndTab
import HandS.HotCalls
import HandS.ExcInit
import KE.GoesEnum
import HandS.SortKw
import KE.KDictZip
import HandS.EndBits
import HandS.SetFor
import HandS.Strs
import HandS.SortInts
import PyProof.Rows.SetFrom
import HandS.Codes
import HandS.List
import HandS.Deep
import PySem.Challenge.RW_alltriangular_k17_whole_units_and_zeros
set_option Elab.async false
set_option linter.all false
set_option maxRecDepth 100000
/-! A0: data, syntax, evaluator. -/
namespace M
open PySem

/-- data: lists by value -/
inductive D where
  | non | bl (b : Bool) | int (i : Int) | str (s : Str)
  | tup (xs : List D) | lst (xs : List D)
  | ins (c : Nat) (fs : List D)
  | cls (c : Nat)
  | exn (c : Nat) (fs : List D)
  | dct (kvs : List (Str × Int))
  deriving Inhabited

mutual
def D.py : D → Option PyData
  | .non => some .none
  | .bl b => some (.bool b)
  | .int i => some (.int i)
  | .str s => some (.str s)
  | .tup xs => match D.pys xs with | some ys => some (.tuple ys) | none => none
  | .lst xs => match D.pys xs with | some ys => some (.list ys) | none => none
  | .ins _ _ => none
  | .cls _ => none
  | .exn _ _ => none
  | .dct kvs => some (.dict (kvs.map fun p => (.str p.1, .int p.2)))
def D.pys : List D → Option (List PyData)
  | [] => some []
  | x :: xs => match D.py x, D.pys xs with | some y, some ys => some (y :: ys) | _, _ => none
end

/-- a slot of a frame: unset; shared (never written); owned (the one way to this list). bor: the caller's -/
inductive Slot where
  | no | sh (bor : Bool) (d : D) | ow (bor : Bool) (d : D) | pin
  deriving Inhabited
abbrev Fm := List Slot
def Slot.isBor : Slot → Bool
  | .no => false | .sh b _ => b | .ow b _ => b | .pin => true
def Slot.isOw : Slot → Bool
  | .ow _ _ => true | _ => false

/-- what an expression gives: a shared value, a new list (owned by none as yet), or the slot that holds an owned one -/
inductive RV where
  | val (d : D) | new (d : D) | slot (i : Nat)

inductive Res (α : Type) where
  | ok (a : α) (r : Fm) | exc (c : Nat) (ds : List D) (r : Fm) | bad

inductive SRes where
  | nx (r : Fm) | ret (v : RV) (r : Fm) | brk (r : Fm) | cnt (r : Fm) | exc (c : Nat) (ds : List D) (r : Fm) | bad

/-- primitives -/
inductive P where
  | add | sub | mul | fdiv | mod | pow | neg
  | lt | le | gt | ge | eq | ne | isN | notN
  | idx | slo (lo hi : Bool)
  | len | abs | int | tuple | list | sum | all | any | max1 | min1 | max2 | min2 | divmod
  | isi (t : String) | isiC (c : Nat)
  | strI | join | split
  | addI | mulI | repr | isIn | notIn | revL | index | intT
  | asStr | asLen | asTru | asBl | notBl | asIns (c : Nat)
  | srt | srtS
  | isX (l : List Nat) | fldX (l : List Nat) | countT | indexT | eqU | neU | eqE | neE | lrng | cntI
  deriving DecidableEq

mutual
inductive E where
  | var (i : Nat)
  | con (d : D)
  | glo (x : Str) (d : D)
  | prm (p : P) (es : Es)
  | tup (es : As)
  | lst (es : As)
  | ife (t : T) (a b : E)
  | andV (a b : E) | orV (a b : E) | notV (e : E)
  | chain (o1 o2 : P) (a b c : E)
  | call (f : Nat) (gs : Gs)
  | callO (f : Nat) (e : E)
  | make (c : Nat) (gs : Gs)
  | callP (f : Nat) (pm : List Nat) (gs : Gs)
  | makeP (c : Nat) (pm : List Nat) (gs : Gs)
  | mthC (c f : Nat) (pm : List Nat) (e : E) (gs : Gs)
  | callI (c f : Nat) (gs : Gs)
  | srtK (f : Nat) (e : E)
  | pop (i : Nat) (e : E)
  | fst (pre : Str) (e : E) (post : Str)
  | fld (c : Nat) (k : Nat) (e : E)
  | prop (c f : Nat) (e : E)
  | lc (vs : List Nat) (g : LV) (it : I) (t : T) (e : E)
  | lc2 (vs vs1 : List Nat) (g : LV) (it : I) (t : T) (g1 : LV) (it1 : I) (t1 : T) (e : E)
  | app (i : Nat) (e : E)
  | ext (i : Nat) (e : E)
  | zipS (e : E)
  | mth (p : P) (a b : E)
  | answ (A : Nat) (e : E)
inductive Es where
  | nil | cons (e : E) (r : Es)
inductive As where
  | nil | one (e : E) (r : As) | star (e : E) (r : As)
inductive Gs where
  | nil | v (e : E) (r : Gs) | b (i : Nat) (r : Gs)
inductive T where
  | val (e : E) | yes | all (a b : T) | any (a b : T) | not (t : T)
inductive I where
  | seq (e : E) | rng1 (a : E) | rng2 (a b : E) | rng3 (a b c : E) | enm (e : E) | zip (a b : E)
inductive LV where
  | nm (i : Nat) | tp (r : LVs) | sub (i : Nat) (k : E)
inductive LVs where
  | nil | cons (l : LV) (r : LVs)
end
mutual
inductive S where
  | expr (e : E)
  | asg (l : LV) (e : E)
  | par (i j : Nat) (a b : E)
  | par2 (i j : Nat) (a b : E)
  | par3 (i j k : Nat) (a b c : E)
  | asgS (l : LV) (e : E)
  | retS (e : E)
  | kil (is : List Nat)
  | shr (is : List Nat)
  | aug (i : Nat) (p : P) (e : E)
  | ift (t : T) (a b : Ss)
  | for (l : LV) (it : I) (b : Ss)
  | whl (t : T) (b : Ss)
  | ret (e : E) | retN | pas | brk | cnt | nev
  | augS (i : Nat) (p : P) (k e : E)
  | nz (ic fi ai bi : Nat) (e : E)
  | rai (c : Nat) (e : E)
  | rai0 (c : Nat)
inductive Ss where
  | nil | cons (s : S) (r : Ss)
end

/-! ### primitives by values -/
def mulOk (i j : Int) : Bool := decide (i.natAbs.log2 + j.natAbs.log2 < 134000000)
def cmpI (f : Int → Int → Bool) : List D → Option (Bool × D)
  | [.int a, .int b] => some (false, .bl (f a b))
  | _ => none
def opI (f : Int → Int → Option Int) : List D → Option (Bool × D)
  | [.int a, .int b] => match f a b with | some c => some (false, .int c) | none => none
  | _ => none
def dEq : D → D → Option Bool := fun a b => match a.py, b.py with
  | some x, some y => if SeqAt.shaped x && SeqAt.shaped y then some (PyData.eqv x y) else none
  | _, _ => none
def isNon : D → Bool
  | .non => true | _ => false
def intsOf : List D → Option (List Int)
  | [] => some []
  | .int i :: r => match intsOf r with | some l => some (i :: l) | none => none
  | _ :: _ => none
def blsOf : List D → Option (List Bool)
  | [] => some []
  | .bl i :: r => match blsOf r with | some l => some (i :: l) | none => none
  | _ :: _ => none
def strsOf : List D → Option (List Str)
  | [] => some []
  | .str i :: r => match strsOf r with | some l => some (i :: l) | none => none
  | _ :: _ => none
def joinD (a : Str) (ys : List D) : Option (Bool × D) := match strsOf ys with
  | some l => if (l.map (·.length)).sum + l.length * a.length ≤ 16777216 then some (false, .str (PySem.Txt.join a l)) else none
  | none => none
def maxOf : Int → List Int → Int
  | a, [] => a
  | a, b :: r => maxOf (if b > a then b else a) r
def minOf : Int → List Int → Int
  | a, [] => a
  | a, b :: r => minOf (if b < a then b else a) r
def maxL : List Int → Option (Bool × D)
  | [] => none
  | a :: l => some (false, .int (maxOf a l))
def minL : List Int → Option (Bool × D)
  | [] => none
  | a :: l => some (false, .int (minOf a l))
def sumL (l : List Int) : Option (Bool × D) := some (false, .int l.sum)
def allL (l : List Bool) : Option (Bool × D) := some (false, .bl (l.all id))
def anyL (l : List Bool) : Option (Bool × D) := some (false, .bl (l.any id))
def onLst {α : Type} (f : List D → Option α) (g : α → Option (Bool × D)) : List D → Option (Bool × D)
  | [.lst xs] => (f xs).bind g
  | _ => none
def isiD (t : String) : D → Option Bool
  | .non => some false
  | .bl _ => some (t == "int" || t == "bool")
  | .int _ => some (t == "int")
  | .str _ => some (t == "str")
  | .tup _ => some (t == "tuple")
  | .lst _ => some (t == "list")
  | .ins _ _ => some false
  | .cls _ => none
  | .exn _ _ => none
  | .dct _ => some false
def cutL (xs : List D) (lo hi : Option Int) : List D :=
  (xs.drop (HT.sIx xs.length 0 lo)).take (HT.sIx xs.length xs.length hi - HT.sIx xs.length 0 lo)
def sloD (x : D) (lo hi : Option Int) : Option (Bool × D) := match x with
  | .lst xs => some (true, .lst (cutL xs lo hi))
  | .tup xs => some (false, .tup (cutL xs lo hi))
  | .str z => if z.length ≤ sizeLine then some (false, .str (L2.cutS z lo hi)) else none
  | _ => none
/-- what repr tells of data -/
def reprD (d : D) : Option (Bool × D) := match d.py with
  | some p => if p.showable = true ∧ p.depth ≤ 64 ∧ p.shown.length ≤ sizeLine then some (false, .str p.shown) else none
  | none => none
def shapedD (d : D) : Option PyData := match d.py with
  | some p => if SeqAt.shaped p then some p else none
  | none => none
def shapedL (ds : List D) : Option (List PyData) := match D.pys ds with
  | some ps => if SeqAt.shaped (.list ps) then some ps else none
  | none => none
/-- x in y -/
def inD : D → D → Option Bool
  | .str a, .str b => some (!(Builtin.Str.occurrences b a 0 b.length 1).isEmpty)
  | x, .lst ds => match shapedD x, shapedL ds with
    | some p, some ps => some (ps.any fun z => PyData.eqv z p)
    | _, _ => none
  | x, .tup ds => match shapedD x, shapedL ds with
    | some p, some ps => some (ps.any fun z => PyData.eqv z p)
    | _, _ => none
  | _, _ => none
def insZ (a : Int) : List Int → List Int
  | [] => [a]
  | b :: l => if a ≤ b then a :: b :: l else b :: insZ a l
def sortZ : List Int → List Int
  | [] => []
  | a :: l => insZ a (sortZ l)
def insU (a : Int) : List Int → List Int
  | [] => [a]
  | b :: l => if a < b then a :: b :: l else if a = b then b :: l else b :: insU a l
/-- ascending, each once -/
def sortU : List Int → List Int
  | [] => []
  | a :: l => insU a (sortU l)
/-- near_zeros: the cuts between -b and b -/
def nzCut (b : Int) (l : List Int) : List Int := (sortU (-b :: b :: l.flatMap fun a => [a, a + 1])).filter fun x => decide (-b ≤ x) && decide (x ≤ b)
def firstAt (p : PyData) : List PyData → Nat → Option Nat
  | [], _ => none
  | z :: l, k => if PyData.eqv z p then some k else firstAt p l (k + 1)
def evP : P → List D → Option (Bool × D)
  | .add, ds => match ds with
    | [.int a, .int b] => some (false, .int (a + b))
    | [.str a, .str b] => if a.length + b.length ≤ sizeLine then some (false, .str (a ++ b)) else none
    | [.tup a, .tup b] => if a.length + b.length ≤ sizeLine then some (false, .tup (a ++ b)) else none
    | [.lst a, .lst b] => if a.length + b.length ≤ sizeLine then some (true, .lst (a ++ b)) else none
    | _ => none
  | .sub, ds => opI (fun a b => some (a - b)) ds
  | .mul, ds => match ds with
    | [.int a, .int b] => if mulOk a b then some (false, .int (a * b)) else none
    | [.tup a, .int k] => if k ≤ 1000 ∧ a.length ≤ 1000 ∧ a ≠ [] ∧ 0 ≤ k then some (false, .tup (List.replicate k.toNat a).flatten) else none
    | [.lst a, .int k] => if k ≤ 300 ∧ a.length ≤ 300 ∧ 0 ≤ k then some (true, .lst (List.replicate k.toNat a).flatten) else none
    | _ => none
  | .fdiv, ds => opI (fun a b => if b ≠ 0 ∧ (b.natAbs.log2 < 9000 ∨ a.natAbs.log2 < b.natAbs.log2 + 4400) then some (a.fdiv b) else none) ds
  | .mod, ds => opI (fun a b => if b ≠ 0 then some (a.fmod b) else none) ds
  | .pow, ds => opI (fun a b => if 0 ≤ b ∧ b ≤ 1000000 ∧ a.natAbs < 2 ^ 64 then some (a ^ b.toNat) else none) ds
  | .neg, ds => match ds with | [.int a] => some (false, .int (-a)) | _ => none
  | .lt, ds => cmpI (fun a b => decide (a < b)) ds
  | .le, ds => cmpI (fun a b => decide (a ≤ b)) ds
  | .gt, ds => cmpI (fun a b => decide (b < a)) ds
  | .ge, ds => cmpI (fun a b => decide (b ≤ a)) ds
  | .eq, ds => match ds with | [a, b] => (dEq a b).map fun c => (false, .bl c) | _ => none
  | .ne, ds => match ds with | [a, b] => (dEq a b).map fun c => (false, .bl (!c)) | _ => none
  | .isN, ds => match ds with | [a] => some (false, .bl (isNon a)) | _ => none
  | .notN, ds => match ds with | [a] => some (false, .bl (!isNon a)) | _ => none
  | .idx, ds => match ds with
    | [.lst xs, .int i] => match L2.atI xs i with | some d => some (false, d) | none => none
    | [.tup xs, .int i] => match L2.atI xs i with | some d => some (false, d) | none => none
    | [.str z, .int i] => if z.length ≤ sizeLine then match L2.atI z.cps.toList i with | some c => some (false, .str ⟨#[c]⟩) | none => none else none
    | _ => none
  | .slo false false, ds => match ds with | [x] => sloD x none none | _ => none
  | .slo true false, ds => match ds with | [x, .int a] => sloD x (some a) none | _ => none
  | .slo false true, ds => match ds with | [x, .int b] => sloD x none (some b) | _ => none
  | .slo true true, ds => match ds with | [x, .int a, .int b] => sloD x (some a) (some b) | _ => none
  | .len, ds => match ds with
    | [.lst xs] => some (false, .int xs.length)
    | [.tup xs] => some (false, .int xs.length)
    | [.str z] => if z.length ≤ sizeLine then some (false, .int z.length) else none
    | _ => none
  | .abs, ds => match ds with | [.int a] => some (false, .int (if a < 0 then -a else a)) | _ => none
  | .int, ds => match ds with
    | [.int a] => some (false, .int a)
    | [.bl b] => some (false, .int (if b then 1 else 0))
    | [.str a] => match PySem.intText? a with | some n => if a.length ≤ 640 then some (false, .int n) else none | none => none
    | _ => none
  | .tuple, ds => match ds with | [.lst xs] => some (false, .tup xs) | [.tup xs] => some (false, .tup xs) | _ => none
  | .list, ds => match ds with | [.lst xs] => some (true, .lst xs) | [.tup xs] => some (true, .lst xs) | _ => none
  | .sum, ds => onLst intsOf sumL ds
  | .all, ds => onLst blsOf allL ds
  | .any, ds => onLst blsOf anyL ds
  | .max1, ds => onLst intsOf maxL ds
  | .min1, ds => onLst intsOf minL ds
  | .max2, ds => opI (fun a b => some (if b > a then b else a)) ds
  | .min2, ds => opI (fun a b => some (if b < a then b else a)) ds
  | .divmod, ds => match ds with
    | [.int a, .int b] => if 0 < b ∧ b < 1073741824 then some (false, .tup [.int (a / b), .int (a % b)]) else none
    | _ => none
  | .isi t, ds => match ds with | [d] => (isiD t d).map fun c => (false, .bl c) | _ => none
  | .isiC c, ds => match ds with | [.ins k _] => some (false, .bl (k == c)) | [.cls _] => none | [.exn _ _] => none | [_] => some (false, .bl false) | _ => none
  | .strI, ds => match ds with
    | [.int i] => if i.natAbs.log2 < 1920 then some (false, .str (toString i)) else none
    | _ => none
  | .join, ds => match ds with
    | [.str a, .lst ys] => joinD a ys
    | [.str a, .tup ys] => joinD a ys
    | _ => none
  | .addI, ds => opI (fun a b => some (a + b)) ds
  | .mulI, ds => opI (fun a b => if mulOk a b then some (a * b) else none) ds
  | .repr, ds => match ds with | [d] => reprD d | _ => none
  | .isIn, ds => match ds with | [x, y] => (inD x y).map fun c => (false, .bl c) | _ => none
  | .notIn, ds => match ds with | [x, y] => (inD x y).map fun c => (false, .bl (!c)) | _ => none
  | .revL, ds => match ds with
    | [.lst xs] => some (true, .lst xs.reverse)
    | [.tup xs] => some (false, .tup xs.reverse)
    | _ => none
  | .index, ds => match ds with
    | [.lst xs, d] => match shapedL xs, shapedD d with
      | some ps, some p => (firstAt p ps 0).map fun k => (false, .int k)
      | _, _ => none
    | _ => none
  | .intT, ds => match ds with
    | [.str a] => if a.length ≤ 640 then (PySem.intText? a).map fun n => (false, .int n) else none
    | _ => none
  | .asStr, ds => match ds with | [.str a] => some (false, .str a) | _ => none
  | .asLen, ds => match ds with | [.int i] => if 0 ≤ i ∧ i < 4611686018427387904 then some (false, .int i) else none | _ => none
  | .asTru, ds => match ds with | [.int i] => if 0 ≤ i ∧ i < 4611686018427387904 then some (false, .bl (i != 0)) else none | _ => none
  | .asBl, ds => match ds with | [.bl b] => some (false, .bl b) | _ => none
  | .notBl, ds => match ds with | [.bl b] => some (false, .bl (!b)) | _ => none
  | .isX l, ds => match ds with | [.exn c _] => some (false, .bl (l.contains c)) | _ => none
  | .fldX l, ds => match ds with | [.exn c fs] => if l.contains c then (match fs with | [d] => some (false, d) | _ => none) else none | _ => none
  | .countT, ds => match ds with
    | [.lst xs] => (blsOf xs).map fun l => (false, .int (l.count true))
    | _ => none
  | .indexT, ds => match ds with
    | [.lst xs] => match blsOf xs with | some l => (if l.contains true then some (false, .int (l.idxOf true)) else none) | none => none
    | _ => none
  | .eqU, ds => match ds with | [.tup xs] => some (false, .bl xs.isEmpty) | _ => none
  | .neU, ds => match ds with | [.tup xs] => some (false, .bl (!xs.isEmpty)) | _ => none
  | .eqE, ds => match ds with | [.lst xs] => some (false, .bl xs.isEmpty) | _ => none
  | .neE, ds => match ds with | [.lst xs] => some (false, .bl (!xs.isEmpty)) | _ => none
  | .lrng, ds => match ds with | [.int i] => if 0 ≤ i ∧ i ≤ 1000000 then some (true, .lst ((List.range i.toNat).map fun k => D.int (k : Nat))) else none | _ => none
  | .cntI, ds => match ds with
    | [.lst xs, .int z] => (intsOf xs).map fun l => (false, .int (l.count z))
    | _ => none
  | .asIns c, ds => match ds with | [.ins c' fs] => if c' = c then some (false, .ins c fs) else none | _ => none
  | .srt, ds => match ds with
    | [.lst xs] => (intsOf xs).map fun l => (true, .lst ((sortZ l).map D.int))
    | _ => none
  | .srtS, ds => match ds with
    | [.lst xs] => match intsOf xs with
      | some l => if l.length ≤ 1000 ∧ (sortU l).length < 64 then some (true, .lst ((sortU l).map D.int)) else none
      | none => none
    | _ => none
  | .split, ds => match ds with
    | [.str a, .str b] => if (b.length == 0) = false ∧ a.length + 2 ≤ sizeLine then some (true, .lst ((PySem.Txt.split a b).map D.str)) else none
    | _ => none

/-- the truth of a value -/
def truD : D → Option Bool
  | .non => some false
  | .bl b => some b
  | .int i => some (i != 0)
  | .str z => if z.length ≤ sizeLine then some (z.length != 0) else none
  | .tup xs => some (!xs.isEmpty)
  | .lst xs => some (!xs.isEmpty)
  | .ins _ _ => none
  | .cls _ => none
  | .exn _ _ => none
  | .dct _ => none

/-! ### the evaluator -/
def RV.down : RV → RV
  | .new d => .val d
  | r => r
def RV.at_ (r : RV) (q : Fm) : Option D := match r with
  | .val d => some d
  | .new d => some d
  | .slot i => match q[i]? with
    | some (.sh _ d) => some d
    | some (.ow _ d) => some d
    | _ => none
def RV.vd : RV → Option D
  | .val d => some d
  | .new d => some d
  | .slot _ => none
def atAll (q : Fm) : List RV → Option (List D)
  | [] => some []
  | r :: rs => match r.at_ q, atAll q rs with | some d, some ds => some (d :: ds) | _, _ => none
/-- an argument: a value, or a slot that is lent -/
inductive Ga where
  | v (d : D) | b (i : Nat)
/-- the keys of a list's items -/
def keysD (g : D → Option Int) : List D → Option (List Int)
  | [] => some []
  | d :: l => match g d, keysD g l with | some i, some r => some (i :: r) | _, _ => none
def insK (p : Int × D) : List (Int × D) → List (Int × D)
  | [] => [p]
  | q :: l => if p.1 ≤ q.1 then p :: q :: l else q :: insK p l
def srtD : List (Int × D) → List (Int × D)
  | [] => []
  | p :: l => insK p (srtD l)
/-- sorted by keys that are all different -/
def sortK (g : D → Option Int) (ds : List D) : Option (List D) := match keysD g ds with
  | some ks => if ds.length < 64 ∧ ks.Nodup then some ((srtD (ks.zip ds)).map (·.2)) else none
  | none => none
def intR : Res RV → Option Int
  | .ok (.val (.int i)) _ => some i
  | _ => none
/-- all are instances of the class c -/
def insL (c : Nat) : List Ga → Bool
  | [] => true
  | .v (.ins k _) :: r => k == c && insL c r
  | _ => false
def lent (q : Fm) : List Ga → Option Fm
  | [] => some []
  | .v d :: r => match lent q r with | some l => some (.sh false d :: l) | none => none
  | .b i :: r => match q[i]?, lent q r with | some (.ow _ d), some l => some (.ow true d :: l) | _, _ => none
def lentIx : List Ga → List Nat
  | [] => []
  | .v _ :: r => lentIx r
  | .b i :: r => i :: lentIx r
def Slot.bors (b : Bool) : Slot → Slot
  | .sh _ d => .sh b d
  | .ow _ d => .ow b d
  | .no => .no
  | .pin => .no
def giveBack : List Ga → Fm → Fm → Fm
  | .b i :: r, s :: l, q => giveBack r l (q.set i (s.bors ((q.getD i .no).isBor)))
  | .v _ :: r, _ :: l, q => giveBack r l q
  | _, _, q => q
/-- the frame without the lists that it owns -/
def hidF (q : Fm) : Fm := q.map fun s => match s with
  | .ow _ _ => .no
  | s => s
structure Calls where
  fn : Nat → Fm → Res RV
  cn : Nat → Fm → Res (List D)
  /-- a def that calls what it got: behind a value, behind an exception -/
  an : Nat → Bool → D → Res RV
def bindR {α β : Type} (r : Res α) (f : α → Fm → Res β) : Res β := match r with
  | .ok a q => f a q
  | .exc c ds q => .exc c ds q
  | .bad => .bad
def primR (p : P) (rs : List RV) (q : Fm) : Res RV := match atAll q rs with
  | some ds => match evP p ds with
    | some (true, d) => .ok (.new d) q
    | some (false, d) => .ok (.val d) q
    | none => .bad
  | none => .bad
def noSlot : Res RV → Res RV
  | .ok (.slot _) _ => .bad
  | r => r
def callR (K : Calls) (f : Nat) (gs : List Ga) (q : Fm) : Res RV :=
  if (lentIx gs).Nodup then match lent q gs with
    | some as => match noSlot (K.fn f as) with
      | .ok r as' => .ok r (giveBack gs as' q)
      | .exc c ds as' => .exc c ds (giveBack gs as' q)
      | .bad => .bad
    | none => .bad
  else .bad
def makeR (K : Calls) (c : Nat) (gs : List Ga) (q : Fm) : Res RV :=
  if lentIx gs = [] then match lent q gs with
    | some as => match K.cn c as with
      | .ok fs _ => .ok (.val (.ins c fs)) q
      | .exc c ds _ => .exc c ds q
      | .bad => .bad
    | none => .bad
  else .bad
def pick {α : Type} (pm : List Nat) (l : List α) : List α := pm.filterMap fun i => l[i]?
def popIx (n : Nat) (z : Int) : Option Nat := if n ≤ 1000000 then L2.ixN n z else none
def popR (i : Nat) (k : D) (q : Fm) : Res RV := match q[i]?, k with
  | some (.ow b (.lst xs)), .int z => match popIx xs.length z with
    | some j => match xs[j]? with
      | some d => .ok (.val d) (q.set i (.ow b (.lst (xs.eraseIdx j))))
      | none => .bad
    | none => .bad
  | _, _ => .bad
def seqD : D → Option (List D)
  | .lst xs => some xs
  | .tup xs => some xs
  | _ => none
def starR (r : RV) (q : Fm) : Option (List D) := match r.at_ q with
  | some d => seqD d
  | none => none
def rngL (lo : Int) (n : Nat) : List D := (List.range n).map fun k => .int (lo + (k : Nat))
def rngC (lo c : Int) (n : Nat) : List D := (List.range n).map fun k => .int (lo + (k : Nat) * c)
def enmL : Nat → List D → List D
  | _, [] => []
  | k, d :: ds => .tup [.int (k : Nat), d] :: enmL (k + 1) ds
def zipL : List D → List D → List D
  | a :: r, b :: s => .tup [a, b] :: zipL r s
  | _, _ => []
def strL (z : Str) : List D := z.cps.toList.map fun c => .str ⟨#[c]⟩
def itemsD : D → Option (List D)
  | .lst xs => some xs
  | .tup xs => some xs
  | .str z => some (strL z)
  | _ => none
def vds : List RV → Option (List D)
  | [] => some []
  | r :: rs => match r.vd, vds rs with | some d, some ds => some (d :: ds) | _, _ => none
def itR (rs : List RV) (q : Fm) (f : List D → Option (List D)) : Res (List D) := match vds rs with
  | some ds => match f ds with
    | some l => .ok l q
    | none => .bad
  | none => .bad
def inR (i : Int) : Bool := decide (-(2 ^ 62) ≤ i) && decide (i < 2 ^ 62)
def rng1F : List D → Option (List D)
  | [.int j] => if inR j then some (rngL 0 j.toNat) else none
  | _ => none
def rng2F : List D → Option (List D)
  | [.int i, .int j] => if inR i && inR j then some (rngL i (j - i).toNat) else none
  | _ => none
def rng3F : List D → Option (List D)
  | [.int i, .int j, .int c] => if inR i && inR j && decide (0 < c) && decide (c < 1000000) then some (rngC i c (Builtin.Range.rangeSize i j c).toNat) else none
  | _ => none
def enmF : List D → Option (List D)
  | [d] => (seqD d).map (enmL 0)
  | _ => none
def zipF : List D → Option (List D)
  | [a, b] => match seqD a, seqD b with | some x, some y => some (zipL x y) | _, _ => none
  | _ => none
def setName (i : Nat) (r : RV) (q : Fm) : Res Unit := match q[i]? with
  | some s => if s.isBor then .bad else match r with
    | .val d => .ok () (q.set i (.sh false d))
    | .new d => .ok () (q.set i (.ow false d))
    | .slot _ => .bad
  | none => .bad
def setSub (i : Nat) (k v : D) (q : Fm) : Res Unit := match q[i]?, k with
  | some (.ow b (.lst xs)), .int z => match L2.ixN xs.length z with
    | some j => .ok () (q.set i (.ow b (.lst (xs.set j v))))
    | none => .bad
  | _, _ => .bad
def isOwn : Option Slot → Bool
  | some (.ow _ _) => true
  | _ => false
def appR (i : Nat) (d : D) (q : Fm) : Res RV := match q[i]? with
  | some (.ow b (.lst xs)) => if xs.length < sizeLine then .ok (.val .non) (q.set i (.ow b (.lst (xs ++ [d])))) else .bad
  | _ => .bad
def extR (i : Nat) (d : D) (q : Fm) : Res RV := match q[i]?, d with
  | some (.ow b (.lst xs)), .lst ys => if xs.length + ys.length ≤ sizeLine then .ok (.val .non) (q.set i (.ow b (.lst (xs ++ ys)))) else .bad
  | some (.ow b (.lst xs)), .tup ys => if xs.length + ys.length ≤ sizeLine then .ok (.val .non) (q.set i (.ow b (.lst (xs ++ ys)))) else .bad
  | _, _ => .bad
def loopF (asg : D → Fm → Res Unit) (body : Fm → SRes) : List D → Fm → SRes
  | [], q => .nx q
  | d :: ds, q => match asg d q with
    | .ok _ q1 => match body q1 with
      | .nx q2 => loopF asg body ds q2
      | .cnt q2 => loopF asg body ds q2
      | .brk q2 => .nx q2
      | r => r
    | _ => .bad
def loopW (test : Fm → Res Bool) (body : Fm → SRes) : Nat → Fm → SRes
  | 0, _ => .bad
  | n + 1, q => match test q with
    | .ok true q1 => match body q1 with
      | .nx q2 => loopW test body n q2
      | .cnt q2 => loopW test body n q2
      | .brk q2 => .nx q2
      | r => r
    | .ok false q1 => .nx q1
    | .exc c es q1 => .exc c es q1
    | .bad => .bad
/-- a comprehension's own names, taken out of the frame, put back -/
def wipeF (vs : List Nat) (q : Fm) : Fm := vs.foldr (fun v q => q.set v .no) q
def noOw (vs : List Nat) (q : Fm) : Bool := vs.all fun v => match q[v]? with | some (.ow _ _) => false | some _ => true | none => false
def backF (vs : List Nat) (old q : Fm) : Fm := vs.foldr (fun v q => q.set v (old.getD v .no)) q
def loopC (vs : List Nat) (asg : D → Fm → Res Unit) (test : Fm → Res Bool) (elt : Fm → Res RV) : List D → List D → Fm → Res (List D)
  | acc, [], q => .ok acc q
  | acc, d :: ds, q => match asg d (wipeF vs q) with
    | .ok _ q1 => match test q1 with
      | .ok true q2 => match elt q2 with
        | .ok r q3 => match r.vd with
          | some x => if acc.length < sizeLine && noOw vs q3 then loopC vs asg test elt (acc ++ [x]) ds q3 else .bad
          | none => .bad
        | _ => .bad
      | .ok false q2 => if noOw vs q2 then loopC vs asg test elt acc ds q2 else .bad
      | _ => .bad
    | _ => .bad
def rowsOf : List D → Option (List (List D))
  | [] => some []
  | d :: ds => match seqD d, rowsOf ds with | some r, some l => some (r :: l) | _, _ => none
def zipCols (rs : List (List D)) (m : Nat) : List D := (List.range m).map fun j => .tup (rs.map fun r => r.getD j .non)
def zipSR (l : List D) : Option (List D) := match rowsOf l with
  | some (r :: rs) => if rs.length ≤ 3 ∧ r.length ≤ 1000000 ∧ rs.all (fun x => x.length == r.length) = true then some (zipCols (r :: rs) r.length) else none
  | _ => none
def most : Nat := 1000000000
mutual
def LV.ns : LV → List Nat
  | .nm i => [i]
  | .tp r => r.ns
  | .sub _ _ => []
def LVs.ns : LVs → List Nat
  | .nil => []
  | .cons l r => l.ns ++ r.ns
end
def LVs.len : LVs → Nat
  | .nil => 0
  | .cons _ r => r.len + 1
/-- the inner walk of a comprehension with two for -/
def loopC1 (vs vs1 : List Nat) (asg : D → Fm → Res Unit) (test : Fm → Res Bool) (elt : Fm → Res RV) : List D → List D → Fm → Res (List D)
  | acc, [], q => .ok acc q
  | acc, d :: ds, q => match asg d (wipeF vs1 q) with
    | .ok _ q1 => match test q1 with
      | .ok true q2 => match elt q2 with
        | .ok r q3 => match r.vd with
          | some x => if acc.length < sizeLine && noOw vs q3 then loopC1 vs vs1 asg test elt (acc ++ [x]) ds q3 else .bad
          | none => .bad
        | _ => .bad
      | .ok false q2 => if noOw vs q2 then loopC1 vs vs1 asg test elt acc ds q2 else .bad
      | _ => .bad
    | _ => .bad
def loopC2 (vs : List Nat) (asg : D → Fm → Res Unit) (test : Fm → Res Bool) (inner : List D → Fm → Res (List D)) : List D → List D → Fm → Res (List D)
  | acc, [], q => .ok acc q
  | acc, d :: ds, q => match asg d (wipeF vs q) with
    | .ok _ q1 => match test q1 with
      | .ok true q2 => match inner acc q2 with
        | .ok acc' q3 => if noOw vs q3 then loopC2 vs asg test inner acc' ds q3 else .bad
        | _ => .bad
      | .ok false q2 => if noOw vs q2 then loopC2 vs asg test inner acc ds q2 else .bad
      | _ => .bad
    | _ => .bad
mutual
def ev (K : Calls) : E → Bool → Fm → Res RV
  | .var i, pk, q => match q[i]? with
    | some (.sh _ d) => .ok (.val d) q
    | some (.ow b d) => if pk then .ok (.slot i) q else .ok (.val d) (q.set i (.sh b d))
    | _ => .bad
  | .con d, _, q => .ok (.val d) q
  | .glo _ d, _, q => .ok (.val d) q
  | .prm p es, _, q => bindR (evs K es q) fun rs q1 => primR p rs q1
  | .tup es, _, q => bindR (evA K es q) fun ds q1 => if ds.length ≤ sizeLine then .ok (.val (.tup ds)) q1 else .bad
  | .lst es, _, q => bindR (evA K es q) fun ds q1 => if ds.length ≤ sizeLine then .ok (.new (.lst ds)) q1 else .bad
  | .ife t a b, _, q => bindR (evT K t q) fun c q1 => if c then ev K a false q1 else ev K b false q1
  | .andV a b, _, q => bindR (ev K a true q) fun r q1 => match r with
    | .val (.bl true) => ev K b false q1
    | .val (.bl false) => .ok (.val (.bl false)) q1
    | _ => .bad
  | .orV a b, _, q => bindR (ev K a true q) fun r q1 => match r with
    | .val (.bl false) => ev K b false q1
    | .val (.bl true) => .ok (.val (.bl true)) q1
    | _ => .bad
  | .notV e, _, q => bindR (ev K e true q) fun r q1 => match r.at_ q1 with
    | some d => match truD d with
      | some c => .ok (.val (.bl (!c))) q1
      | none => .bad
    | none => .bad
  | .chain o1 o2 a b c, _, q => bindR (ev K a false q) fun r1 q1 => bindR (ev K b false q1) fun r2 q2 => match r1.vd, r2.vd with
    | some x, some y => match evP o1 [x, y] with
      | some (_, .bl true) => bindR (ev K c false q2) fun r3 q3 => match r3.vd with
        | some z => match evP o2 [y, z] with
          | some (false, d) => .ok (.val d) q3
          | _ => .bad
        | none => .bad
      | some (_, .bl false) => .ok (.val (.bl false)) q2
      | _ => .bad
    | _, _ => .bad
  | .call f gs, _, q => bindR (evG K gs q) fun l q1 => callR K f l q1
  | .srtK f e, _, q => bindR (ev K e false q) fun r q1 => match r.vd with
    | some (.lst ds) => match sortK (fun d => intR (noSlot (K.fn f [.sh false d]))) ds with
      | some l => .ok (.new (.lst l)) q1
      | none => .bad
    | _ => .bad
  | .callI c f gs, _, q => bindR (evG K gs q) fun l q1 => if insL c l then callR K f l q1 else .bad
  | .callO f e, _, q => bindR (ev K e false q) fun r q1 => match r with
    | .new d => match noSlot (K.fn f [.ow false d]) with
      | .ok r' _ => .ok r' q1
      | .exc c ds _ => .exc c ds q1
      | .bad => .bad
    | _ => .bad
  | .make c gs, _, q => bindR (evG K gs q) fun l q1 => makeR K c l q1
  | .callP f pm gs, _, q => bindR (evG K gs q) fun l q1 => callR K f (pick pm l) q1
  | .makeP c pm gs, _, q => bindR (evG K gs q) fun l q1 => makeR K c (pick pm l) q1
  | .mthC c f pm e gs, _, q => bindR (ev K e false q) fun r q1 => match r with
    | .val (.ins c' fs) => if c' = c then bindR (evG K gs q1) fun l q2 => callR K f (pick pm (.v (.ins c fs) :: l)) q2 else .bad
    | _ => .bad
  | .fst pre e post, _, q => bindR (ev K e true q) fun r q1 => match r with
    | .val (.int i) => if i.natAbs.log2 < 1920 ∧ ((pre ++ toString i) ++ post).length ≤ sizeLine then .ok (.val (.str ((pre ++ toString i) ++ post))) q1 else .bad
    | _ => .bad
  | .pop i e, _, q => if isOwn q[i]? then bindR (ev K e false q) fun r q1 => match r.vd with
    | some d => popR i d q1
    | none => .bad
    else .bad
  | .fld c k e, _, q => bindR (ev K e false q) fun r q1 => match r with
    | .val (.ins c' fs) => if c' = c then match fs[k]? with
        | some d => .ok (.val d) q1
        | none => .bad
      else .bad
    | _ => .bad
  | .prop c f e, _, q => bindR (ev K e false q) fun r q1 => match r with
    | .val (.ins c' fs) => if c' = c then match noSlot (K.fn f [.sh false (.ins c fs)]) with
        | .ok r' _ => .ok r' q1
        | _ => .bad
      else .bad
    | _ => .bad
  | .lc vs g it t e, _, q => bindR (evI K it q) fun l q1 => if noOw vs q1 then
      match loopC vs (fun d q => evL K g (.val d) q) (evT K t) (ev K e false) [] l q1 with
      | .ok ds q2 => .ok (.new (.lst ds)) (backF vs q1 q2)
      | _ => .bad
    else .bad
  | .lc2 vs vs1 g it t g1 it1 t1 e, _, q => bindR (evI K it q) fun l q1 => if noOw vs q1 then
      match loopC2 vs (fun d q => evL K g (.val d) q) (evT K t) (fun acc q => bindR (evI K it1 q) fun l1 q2 => if noOw vs q2 then loopC1 vs vs1 (fun d q => evL K g1 (.val d) q) (evT K t1) (ev K e false) acc l1 q2 else .bad) [] l q1 with
      | .ok ds q2 => .ok (.new (.lst ds)) (backF vs q1 q2)
      | _ => .bad
    else .bad
  | .app i e, _, q => if isOwn q[i]? then bindR (ev K e false q) fun r q1 => match r.vd with
    | some d => appR i d q1
    | none => .bad
    else .bad
  | .ext i e, _, q => if isOwn q[i]? then bindR (ev K e false q) fun r q1 => match r.vd with
    | some d => extR i d q1
    | none => .bad
    else .bad
  | .zipS e, _, q => bindR (ev K e true q) fun r q1 => match starR r q1 with
    | some l => match zipSR l with
      | some cs => .ok (.new (.lst cs)) q1
      | none => .bad
    | none => .bad
  | .mth p a b, _, q => bindR (ev K a false q) fun r q1 => match r with
    | .val (.str z) => bindR (ev K b true q1) fun r2 q2 => primR p [.val (.str z), r2.down] q2
    | _ => .bad
  | .answ A e, _, q => match ev K e false (hidF q) with
    | .ok r _ => match r.vd with
      | some d => match K.an A true d with
        | .ok r2 _ => .ok r2 q
        | _ => .bad
      | none => .bad
    | .exc c ds _ => match K.an A false (.exn c ds) with
      | .ok r2 _ => .ok r2 q
      | _ => .bad
    | .bad => .bad
def evs (K : Calls) : Es → Fm → Res (List RV)
  | .nil, q => .ok [] q
  | .cons e r, q => bindR (ev K e true q) fun x q1 => bindR (evs K r q1) fun xs q2 => .ok (x.down :: xs) q2
def evA (K : Calls) : As → Fm → Res (List D)
  | .nil, q => .ok [] q
  | .one e r, q => bindR (ev K e false q) fun x q1 => match x.vd with
    | some d => bindR (evA K r q1) fun ds q2 => .ok (d :: ds) q2
    | none => .bad
  | .star e r, q => bindR (ev K e true q) fun x q1 => match starR x q1 with
    | some l => bindR (evA K r q1) fun ds q2 => .ok (l ++ ds) q2
    | none => .bad
def evG (K : Calls) : Gs → Fm → Res (List Ga)
  | .nil, q => .ok [] q
  | .v e r, q => bindR (ev K e false q) fun x q1 => match x.vd with
    | some d => bindR (evG K r q1) fun l q2 => .ok (.v d :: l) q2
    | none => .bad
  | .b i r, q => match q[i]? with
    | some (.ow _ _) => bindR (evG K r q) fun l q1 => .ok (.b i :: l) q1
    | _ => .bad
def evT (K : Calls) : T → Fm → Res Bool
  | .val e, q => bindR (ev K e true q) fun r q1 => match r.at_ q1 with
    | some d => match truD d with
      | some c => .ok c q1
      | none => .bad
    | none => .bad
  | .yes, q => .ok true q
  | .all a b, q => bindR (evT K a q) fun c q1 => if c then evT K b q1 else .ok false q1
  | .any a b, q => bindR (evT K a q) fun c q1 => if c then .ok true q1 else evT K b q1
  | .not t, q => bindR (evT K t q) fun c q1 => .ok (!c) q1
def evI (K : Calls) : I → Fm → Res (List D)
  | .seq e, q => bindR (ev K e false q) fun r q1 => match r.vd with
    | some d => match itemsD d with
      | some l => .ok l q1
      | none => .bad
    | none => .bad
  | .rng1 a, q => bindR (ev K a false q) fun r q1 => itR [r] q1 rng1F
  | .rng2 a b, q => bindR (ev K a false q) fun r q1 => bindR (ev K b false q1) fun r2 q2 => itR [r, r2] q2 rng2F
  | .rng3 a b c, q => bindR (ev K a false q) fun r q1 => bindR (ev K b false q1) fun r2 q2 => bindR (ev K c false q2) fun r3 q3 => itR [r, r2, r3] q3 rng3F
  | .enm a, q => bindR (ev K a false q) fun r q1 => itR [r] q1 enmF
  | .zip a b, q => bindR (ev K a false q) fun r q1 => bindR (ev K b false q1) fun r2 q2 => itR [r, r2] q2 zipF
def evL (K : Calls) : LV → RV → Fm → Res Unit
  | .nm i, r, q => setName i r q
  | .tp ls, r, q => match r.vd with
    | some (.tup ds) => if ds.length = ls.len then evLs K ls ds q else .bad
    | _ => .bad
  | .sub i k, r, q => match r.vd, q[i]? with
    | some d, some (.ow _ _) => match ev K k false q with
      | .ok (.val z) q1 => setSub i z d q1
      | _ => .bad
    | _, _ => .bad
def evLs (K : Calls) : LVs → List D → Fm → Res Unit
  | .nil, [], q => .ok () q
  | .cons l r, d :: ds, q => match evL K l (.val d) q with
    | .ok _ q1 => evLs K r ds q1
    | _ => .bad
  | _, _, _ => .bad
end
def shr1 (i : Nat) (q : Fm) : Fm := match q[i]? with
  | some (.ow b d) => q.set i (.sh b d)
  | _ => q
def shrF (vs : List Nat) (q : Fm) : Fm := vs.foldr shr1 q
/-- several names at once, the last one first -/
def setNs : List (Nat × RV) → Fm → SRes
  | [], q => .nx q
  | (i, r) :: l, q => match setName i r q with
    | .ok _ q1 => setNs l q1
    | _ => .bad
def ofR {α : Type} (r : Res α) (f : α → Fm → SRes) : SRes := match r with
  | .ok a q => f a q
  | .exc c ds q => .exc c ds q
  | .bad => .bad
mutual
def evS (K : Calls) : S → Fm → SRes
  | .expr e, q => ofR (ev K e false q) fun _ q1 => .nx q1
  | .asg l e, q => ofR (ev K e false q) fun r q1 => match evL K l r q1 with
    | .ok _ q2 => .nx q2
    | _ => .bad
  | .par i j a b, q => ofR (ev K a false q) fun r1 q1 => match r1.vd with
    | some d1 => ofR (ev K b false q1) fun r2 q2 => match r2.vd with
      | some d2 => match setName i (.val d1) q2 with
        | .ok _ q3 => match setName j (.val d2) q3 with
          | .ok _ q4 => .nx q4
          | _ => .bad
        | _ => .bad
      | none => .bad
    | none => .bad
  | .par2 i j a b, q => ofR (ev K a false q) fun r1 q1 => ofR (ev K b false q1) fun r2 q2 => setNs [(j, r2), (i, r1)] q2
  | .par3 i j k a b c, q => ofR (ev K a false q) fun r1 q1 => ofR (ev K b false q1) fun r2 q2 => ofR (ev K c false q2) fun r3 q3 => setNs [(k, r3), (j, r2), (i, r1)] q3
  | .asgS l e, q => ofR (ev K e false q) fun r q1 => match evL K l r.down q1 with
    | .ok _ q2 => .nx q2
    | _ => .bad
  | .retS e, q => ofR (ev K e false q) fun r q1 => .ret r.down q1
  | .kil is, q => .nx (wipeF is q)
  | .shr is, q => .nx (shrF is q)
  | .aug i p e, q => match q[i]? with
    | some (.sh false x) => ofR (ev K e false q) fun r q1 => match r.vd with
      | some y => match evP p [x, y] with
        | some (false, d) => .nx (q1.set i (.sh false d))
        | _ => .bad
      | none => .bad
    | _ => .bad
  | .ift t a b, q => ofR (evT K t q) fun c q1 => if c then evSs K a q1 else evSs K b q1
  | .for l it b, q => ofR (evI K it q) fun ds q1 => loopF (fun d q => evL K l (.val d) q) (evSs K b) ds q1
  | .whl t b, q => loopW (evT K t) (evSs K b) most q
  | .ret e, q => ofR (ev K e false q) fun r q1 => .ret r q1
  | .retN, q => .ret (.val .non) q
  | .pas, q => .nx q
  | .brk, q => .brk q
  | .cnt, q => .cnt q
  | .nev, _ => .bad
  | .augS i p k e, q => if isOwn q[i]? then ofR (ev K k false q) fun rk q1 => match rk, q1[i]? with
    | .val (.int z), some (.ow _ (.lst xs)) => match if 0 ≤ z then xs[z.toNat]? else none with
      | some x => ofR (ev K e false q1) fun r q2 => match r.vd with
        | some y => match evP p [x, y] with
          | some (false, d) => match setSub i (.int z) d q2 with
            | .ok _ q3 => .nx q3
            | _ => .bad
          | _ => .bad
        | none => .bad
      | none => .bad
    | _, _ => .bad
    else .bad
  | .nz ic fi ai bi e, q => match q[bi]?, q[ai]? with
    | some (.sh _ (.int b)), some _ => ofR (ev K e false (wipeF [ic] q)) fun r q1 => match r.vd with
      | some (.lst ds) => match intsOf ds with
        | some l => if l.length ≤ 1000 then match setName ic (.val (.lst ((nzCut b l).map D.int))) (wipeF [ai] q1) with
            | .ok _ q2 => match setName fi (.new (.lst [])) q2 with
              | .ok _ q3 => .nx q3
              | _ => .bad
            | _ => .bad
          else .bad
        | none => .bad
      | _ => .bad
    | _, _ => .bad
  | .rai c e, q => ofR (ev K e false q) fun r q1 => match r.vd with
    | some d => .exc c [d] q1
    | none => .bad
  | .rai0 c, q => .exc c [] q
def evSs (K : Calls) : Ss → Fm → SRes
  | .nil, q => .nx q
  | .cons s r, q => match evS K s q with
    | .nx q1 => evSs K r q1
    | x => x
end
structure FDef where
  nps : Nat
  nN : Nat
  body : Ss
structure CDef where
  nps : Nat
  nN : Nat
  pre : Ss
  fs : E
/-- a def that calls what it got, catches: nN names; iv: where the value is stored; ie: the exception's name -/
structure ADef where
  nN : Nat
  iv : Option Nat
  ie : Nat
  rest : Ss
  suite : Ss
structure Tab where
  fn : List (Nat × FDef)
  cn : List (Nat × CDef)
  an : List (Nat × ADef)
def onlyRet : SRes → Res RV
  | .ret (.val d) _ => .ok (.val d) []
  | .ret (.new d) _ => .ok (.new d) []
  | _ => .bad
def runA (K : Calls) (a : ADef) (b : Bool) (d : D) : Res RV :=
  if b then onlyRet (evSs K a.rest (match a.iv with
    | some i => (List.replicate a.nN Slot.no).set i (.sh false d)
    | none => List.replicate a.nN Slot.no))
  else onlyRet (evSs K a.suite ((List.replicate a.nN Slot.no).set a.ie (.sh false d)))
/-- what the caller sees of the parameters -/
def lentBack (n : Nat) (q : Fm) : Fm := (q.take n).map fun s => if s.isBor then s else .no
def runF (K : Calls) (d : FDef) (as : Fm) : Res RV :=
  if as.length = d.nps then match evSs K d.body (as ++ List.replicate (d.nN - d.nps) .no) with
    | .nx q => if d.nps ≤ q.length then .ok (.val .non) (lentBack d.nps q) else .bad
    | .ret r q => if d.nps ≤ q.length then .ok r (lentBack d.nps q) else .bad
    | .exc c ds q => .exc c ds (lentBack d.nps (q ++ List.replicate d.nps .no))
    | _ => .bad
  else .bad
/-- slot 0 is self -/
def isPin : Option Slot → Bool
  | some .pin => true
  | _ => false
def evM (K : Calls) (e : E) : Ss → Fm → Res (List D)
  | .nil, q => bindR (ev K e false q) fun r q1 => match r.vd with
    | some d => .ok [d] q1
    | none => .bad
  | .cons s r, q => match evS K s q with
    | .nx q1 => if isPin q1[0]? then evM K e r q1 else .bad
    | .exc c ds q1 => .exc c ds q1
    | _ => .bad
def runM (K : Calls) (d : CDef) (as : Fm) : Res (List D) :=
  if as.length + 1 = d.nps then evM K d.fs d.pre (.pin :: as ++ List.replicate (d.nN - d.nps) .no) else .bad
def calls (t : Tab) : Nat → Calls
  | 0 => ⟨fun _ _ => .bad, fun _ _ => .bad, fun _ _ _ => .bad⟩
  | n + 1 => ⟨fun f as => match t.fn.lookup f with | some d => runF (calls t n) d as | none => .bad, fun c as => match t.cn.lookup c with | some d => runM (calls t n) d as | none => .bad, fun a b d => match t.an.lookup a with | some x => runA (calls t n) x b d | none => .bad⟩
end M

set_option Elab.async false
set_option linter.all false
set_option maxRecDepth 100000
/-! A1: how values stand for data. -/
namespace M
open PySem L2
abbrev Pr := Addr → Prop
abbrev Sg := L2.St
/-! later: what was tracked and is not in R stands as it was; R2 has no more than R but new places; what was tracked is so -/
/-- no table of code objects (these grow where a lambda is made) -/
def NT (o : HO) : Prop := ∀ ps, o ≠ .tbl ps
structure Lat (R : Pr) (H : Hp) (R' : Pr) (H' : Hp) : Prop where
  kp : ∀ b o, H b = some o → ¬ R b → NT o → H' b = some o
  nw : ∀ b, R' b → R b ∨ H b = none
  tr : ∀ b, H b ≠ none → H' b ≠ none
theorem Lat.refl (R : Pr) (H : Hp) : Lat R H R H := ⟨fun _ _ h _ _ => h, fun _ h => .inl h, fun _ h => h⟩
theorem Lat.new {R R' : Pr} {H H' : Hp} (l : Lat R H R' H') {b : Addr} (h : H' b = none) : H b = none := by
  cases e : H b with
  | none => rfl
  | some o => exact absurd h (l.tr b (by rw [e]; exact fun z => nomatch z))
theorem Lat.trans {R R1 R2 : Pr} {H H1 H2 : Hp} (a : Lat R H R1 H1) (b : Lat R1 H1 R2 H2) : Lat R H R2 H2 := by
  refine ⟨fun c o h n t => b.kp c o (a.kp c o h n t) (fun z => ?_) t, fun c z => ?_, fun c z => b.tr c (a.tr c z)⟩
  · rcases a.nw c z with q | q
    · exact n q
    · rw [h] at q; cases q
  · rcases b.nw c z with q | q
    · exact a.nw c q
    · exact .inr (a.new q)
/-- a wider set of places that may not be leant on -/
theorem Lat.more {R R' S : Pr} {H H' : Hp} (a : Lat R H R' H') : Lat (fun b => S b ∨ R b) H (fun b => S b ∨ R' b) H' :=
  ⟨fun b o h n => a.kp b o h fun z => n (.inr z), fun b z => Or.elim z (fun z => .inl (.inl z)) fun z => Or.elim (a.nw b z) (fun z => .inl (.inr z)) .inr, a.tr⟩
theorem Lat.less {R R' R2 : Pr} {H H' : Hp} (a : Lat R H R' H') (h : ∀ b, R2 b → R' b ∨ H b = none) : Lat R H R2 H' :=
  ⟨a.kp, fun b z => Or.elim (h b z) (fun z => a.nw b z) .inr, a.tr⟩
theorem Lat.same {R : Pr} {H H' : Hp} (s : Same H H') : Lat R H R H' := ⟨fun b o h _ _ => s b o h, fun _ h => .inl h, fun b h => by
  cases e : H b with
  | none => exact absurd e h
  | some o => rw [s b o e]; exact fun z => nomatch z⟩
/-- the same heap, fewer places -/
theorem Lat.sub {R R' : Pr} {H : Hp} (h : ∀ b, R' b → R b) : Lat R H R' H := ⟨fun _ _ h _ _ => h, fun b z => .inl (h b z), fun _ h => h⟩

theorem nt_slO (a C dx : Addr) (vs : List (Option V)) : NT (SlX.SlO a C dx vs) := fun ps z => by unfold SlX.SlO at z; cases z
structure Zc where
  K : PySem.W.Frag
  C : Nat → Addr
  xf : Nat → List Str
  nc : Nat
  nx : Nat
  T : List (Addr × Str)

/-- a list (a tuple) that stands and is not written -/
def AtL (K : PySem.W.Frag) (H : Hp) (R : Pr) (a : Addr) (xs : List V) : Prop := (Rd H a (.lst xs) ∧ ¬ R a) ∨
    ∃ (o : Obj) (its : Array Value) (n : Nat), K.lookup a = some o ∧ o.cls = .type "list" ∧ o.dict = none ∧ o.data = .seq its n ∧ its.size ≤ sizeLine ∧ Vals xs its.toList
def AtT (K : PySem.W.Frag) (H : Hp) (R : Pr) (a : Addr) (xs : List V) : Prop := (Rd H a (.tup xs) ∧ ¬ R a) ∨
    ∃ (o : Obj) (its : Array Value) (n : Nat), K.lookup a = some o ∧ o.cls = .type "tuple" ∧ o.data = .seq its n ∧ its.size ≤ sizeLine ∧ Vals xs its.toList
theorem AtL.sq {K : PySem.W.Frag} {H : Hp} {R : Pr} {a : Addr} {xs : List V} (h : AtL K H R a xs) : SqL K H a xs := Or.elim h (fun z => .inl z.1) .inr
theorem AtT.sq {K : PySem.W.Frag} {H : Hp} {R : Pr} {a : Addr} {xs : List V} (h : AtT K H R a xs) : SqT K H a xs := Or.elim h (fun z => .inl z.1) .inr
theorem Rd.lat {R R' : Pr} {H H' : Hp} {a : Addr} {u : HO} (l : Lat R H R' H') (h : Rd H a u) (n : ¬ R a) (nt : NT u) : Rd H' a u ∧ ¬ R' a := by
  rcases h with h | ⟨o, h⟩
  · exact ⟨.inl (l.kp a _ h n nt), fun z => Or.elim (l.nw a z) n fun q => by rw [h] at q; cases q⟩
  · exact ⟨.inr ⟨o, l.kp a _ h n fun _ z => nomatch z⟩, fun z => Or.elim (l.nw a z) n fun q => by rw [h] at q; cases q⟩
theorem AtL.lat {K : PySem.W.Frag} {R R' : Pr} {H H' : Hp} {a : Addr} {xs : List V} (l : Lat R H R' H') (h : AtL K H R a xs) : AtL K H' R' a xs :=
  Or.elim h (fun z => .inl (Rd.lat l z.1 z.2 fun _ z => nomatch z)) .inr
theorem AtT.lat {K : PySem.W.Frag} {R R' : Pr} {H H' : Hp} {a : Addr} {xs : List V} (l : Lat R H R' H') (h : AtT K H R a xs) : AtT K H' R' a xs :=
  Or.elim h (fun z => .inl (Rd.lat l z.1 z.2 fun _ z => nomatch z)) .inr

/-- at a: an exception of the class cls, its own dict d -/
def ExO (a : Addr) (cls : Value) (d : Option Addr) : HO := .ext fun h => ∃ (oe : Obj) (vs : Array Value), h.get? a = some oe ∧ L2.Zc cls d oe ∧ oe.data = .fields vs
theorem nt_exO (a : Addr) (cls : Value) (d : Option Addr) : NT (ExO a cls d) := fun ps z => by unfold ExO at z; cases z
def dctH (kvs : List (Str × Int)) : HO := .dK (kvs.map fun p => ((Sum.inr p.1 : Key), V.int p.2))
theorem nt_dctH (kvs : List (Str × Int)) : NT (dctH kvs) := fun ps z => by unfold dctH at z; cases z
mutual
/-- data as they stand in the heap; dicts (texts to ints) too -/
inductive Dq (K : PySem.W.Frag) (H : Hp) : V → PyData → Prop
  | non : Dq K H .non .none
  | bl (b : Bool) : Dq K H (.bl b) (.bool b)
  | int (i : Int) : Dq K H (.int i) (.int i)
  | str (x : Str) : Dq K H (.str x) (.str x)
  | lst {a : Addr} {xs : List V} {ds : List PyData} : SqL K H a xs → DqAll K H xs ds → Dq K H (.ref a) (.list ds)
  | tup {a : Addr} {xs : List V} {ds : List PyData} : SqT K H a xs → DqAll K H xs ds → Dq K H (.ref a) (.tuple ds)
  | dct {a : Addr} {kvs : List (Str × Int)} : H a = some (dctH kvs) → Dq K H (.ref a) (.dict (kvs.map fun p => (.str p.1, .int p.2)))
inductive DqAll (K : PySem.W.Frag) (H : Hp) : List V → List PyData → Prop
  | nil : DqAll K H [] []
  | cons {v : V} {vs : List V} {d : PyData} {ds : List PyData} : Dq K H v d → DqAll K H vs ds → DqAll K H (v :: vs) (d :: ds)
end
mutual
theorem Dq.plain {K : PySem.W.Frag} {H : Hp} : ∀ {p : PyData} {v : V}, Dq K H v p → p.hasDict = false → Dp K H v p
  | .none, _, h, _ => by cases h; exact .non
  | .bool _, _, h, _ => by cases h; exact .bl _
  | .int _, _, h, _ => by cases h; exact .int _
  | .str _, _, h, _ => by cases h; exact .str _
  | .list ps, _, h, e => by
    cases h with
    | lst a b => simp only [PyData.hasDict] at e; exact .lst a (DqAll.plain b e)
  | .tuple ps, _, h, e => by
    cases h with
    | tup a b => simp only [PyData.hasDict] at e; exact .tup a (DqAll.plain b e)
  | .dict _, _, _, e => by simp only [PyData.hasDict] at e; cases e
theorem DqAll.plain {K : PySem.W.Frag} {H : Hp} : ∀ {ps : List PyData} {vs : List V}, DqAll K H vs ps → PyData.hasDictAll ps = false → DpAll K H vs ps
  | [], _, h, _ => by cases h; exact .nil
  | p :: ps, _, h, e => by
    cases h with
    | cons a b =>
      simp only [PyData.hasDictAll, Bool.or_eq_false_iff] at e
      exact .cons (Dq.plain a e.1) (DqAll.plain b e.2)
end
theorem Dq.shaped {K : PySem.W.Frag} {H : Hp} {p : PyData} {v : V} (h : Dq K H v p) (s : SeqAt.shaped p = true) : Dp K H v p := h.plain (PyData.hasDict_of_canLay p (SeqAt.canLay_of_shaped s))
mutual
inductive Rep (Z : Zc) (H : Hp) (R : Pr) : V → D → Prop
  | non : Rep Z H R .non .non
  | bl (b : Bool) : Rep Z H R (.bl b) (.bl b)
  | int (i : Int) : Rep Z H R (.int i) (.int i)
  | str (x : Str) : Rep Z H R (.str x) (.str x)
  | tup {a : Addr} {xs : List V} {ds : List D} : AtT Z.K H R a xs → RepL Z H R xs ds → Rep Z H R (.ref a) (.tup ds)
  | lst {a : Addr} {xs : List V} {ds : List D} : AtL Z.K H R a xs → RepL Z H R xs ds → Rep Z H R (.ref a) (.lst ds)
  | ins {a dx : Addr} {c : Nat} {xs : List V} {ds : List D} : c < Z.nc → H a = some (SlX.SlO a (Z.C c) dx (xs.map some)) → H dx = some (.xd []) → ¬ R a → ¬ R dx → RepL Z H R xs ds → Rep Z H R (.ref a) (.ins c ds)
  | cls (c : Nat) : Rep Z H R (.ref (Z.C c)) (.cls c)
  | exn {a dx : Addr} {c : Nat} {xs : List V} {ds : List D} : Z.nc ≤ c → c < Z.nx → H a = some (ExO a (.ref (Z.C c)) (some dx)) → H dx = some (.xd ((Z.xf c).zip xs)) → ¬ R a → ¬ R dx → RepL Z H R xs ds → Rep Z H R (.ref a) (.exn c ds)
  | exn0 {a : Addr} {c : Nat} : Z.nc ≤ c → c < Z.nx → H a = some (ExO a (.ref (Z.C c)) none) → ¬ R a → Rep Z H R (.ref a) (.exn c [])
  | dct {a : Addr} {kvs : List (Str × Int)} : H a = some (dctH kvs) → ¬ R a → Rep Z H R (.ref a) (.dct kvs)
inductive RepL (Z : Zc) (H : Hp) (R : Pr) : List V → List D → Prop
  | nil : RepL Z H R [] []
  | cons {v : V} {vs : List V} {d : D} {ds : List D} : Rep Z H R v d → RepL Z H R vs ds → RepL Z H R (v :: vs) (d :: ds)
end
section
variable {Z : Zc} {H H' : Hp} {R R' : Pr}
mutual
theorem Rep.lat (l : Lat R H R' H') : ∀ {d : D} {v : V}, Rep Z H R v d → Rep Z H' R' v d
  | .non, _, h => by cases h; exact .non
  | .bl _, _, h => by cases h; exact .bl _
  | .int _, _, h => by cases h; exact .int _
  | .str _, _, h => by cases h; exact .str _
  | .tup ds, _, h => by
    cases h with
    | tup a b => exact .tup (a.lat l) (RepL.lat l b)
  | .lst ds, _, h => by
    cases h with
    | lst a b => exact .lst (a.lat l) (RepL.lat l b)
  | .ins c ds, _, h => by
    cases h with
    | ins h0 h1 h2 n1 n2 b =>
      refine .ins h0 (l.kp _ _ h1 n1 (nt_slO _ _ _ _)) (l.kp _ _ h2 n2 fun _ z => nomatch z) (fun z => ?_) (fun z => ?_) (RepL.lat l b)
      · exact Or.elim (l.nw _ z) n1 fun q => by rw [h1] at q; cases q
      · exact Or.elim (l.nw _ z) n2 fun q => by rw [h2] at q; cases q
  | .cls _, _, h => by cases h; exact .cls _
  | .exn c ds, _, h => by
    cases h with
    | exn c1 c2 h1 h2 n1 n2 b =>
      refine .exn c1 c2 (l.kp _ _ h1 n1 (nt_exO _ _ _)) (l.kp _ _ h2 n2 fun _ z => nomatch z) (fun z => ?_) (fun z => ?_) (RepL.lat l b)
      · exact Or.elim (l.nw _ z) n1 fun q => by rw [h1] at q; cases q
      · exact Or.elim (l.nw _ z) n2 fun q => by rw [h2] at q; cases q
    | exn0 c1 c2 h1 n1 =>
      refine .exn0 c1 c2 (l.kp _ _ h1 n1 (nt_exO _ _ _)) (fun z => ?_)
      exact Or.elim (l.nw _ z) n1 fun q => by rw [h1] at q; cases q
  | .dct kvs, _, h => by
    cases h with
    | dct h1 n1 =>
      refine .dct (l.kp _ _ h1 n1 (nt_dctH _)) (fun z => ?_)
      exact Or.elim (l.nw _ z) n1 fun q => by rw [h1] at q; cases q
theorem RepL.lat (l : Lat R H R' H') : ∀ {ds : List D} {vs : List V}, RepL Z H R vs ds → RepL Z H' R' vs ds
  | [], _, h => by cases h; exact .nil
  | d :: ds, _, h => by
    cases h with
    | cons a b => exact .cons (Rep.lat l a) (RepL.lat l b)
end
theorem RepL.length : ∀ {ds : List D} {vs : List V}, RepL Z H R vs ds → vs.length = ds.length
  | [], _, h => by cases h; rfl
  | d :: ds, _, h => by
    cases h with
    | cons a b => rw [List.length_cons, List.length_cons, RepL.length b]
theorem RepL.get : ∀ {ds : List D} {vs : List V} {i : Nat} {d : D}, RepL Z H R vs ds → ds[i]? = some d → ∃ v, vs[i]? = some v ∧ Rep Z H R v d
  | [], _, _, _, h, e => by simp at e
  | d :: ds, _, 0, _, h, e => by
    cases h with
    | cons a b => simp at e; subst e; exact ⟨_, rfl, a⟩
  | d :: ds, _, i + 1, _, h, e => by
    cases h with
    | cons a b =>
      obtain ⟨v, h1, h2⟩ := RepL.get (i := i) b (by simpa using e)
      exact ⟨v, by simpa using h1, h2⟩
theorem RepL.append : ∀ {ds es : List D} {vs ws : List V}, RepL Z H R vs ds → RepL Z H R ws es → RepL Z H R (vs ++ ws) (ds ++ es)
  | [], _, _, _, h, g => by cases h; exact g
  | d :: ds, _, _, _, h, g => by
    cases h with
    | cons a b => exact .cons a (RepL.append b g)
theorem RepL.take : ∀ {ds : List D} {vs : List V} (n : Nat), RepL Z H R vs ds → RepL Z H R (vs.take n) (ds.take n)
  | _, _, 0, _ => .nil
  | [], _, _ + 1, h => by cases h; exact .nil
  | d :: ds, _, n + 1, h => by
    cases h with
    | cons a b => exact .cons a (RepL.take n b)
theorem RepL.drop : ∀ {ds : List D} {vs : List V} (n : Nat), RepL Z H R vs ds → RepL Z H R (vs.drop n) (ds.drop n)
  | _, _, 0, h => h
  | [], _, _ + 1, h => by cases h; exact .nil
  | d :: ds, _, n + 1, h => by
    cases h with
    | cons a b => exact RepL.drop n b
theorem RepL.set {v : V} {d : D} (r : Rep Z H R v d) : ∀ {ds : List D} {vs : List V} (n : Nat), RepL Z H R vs ds → RepL Z H R (vs.set n v) (ds.set n d)
  | [], _, _, h => by cases h; exact .nil
  | d :: ds, _, 0, h => by
    cases h with
    | cons a b => exact .cons r b
  | d :: ds, _, n + 1, h => by
    cases h with
    | cons a b => exact .cons a (RepL.set r n b)
theorem RepL.rep {ds : List D} {vs : List V} (h : RepL Z H R vs ds) : ∀ k : Nat, RepL Z H R (List.replicate k vs).flatten (List.replicate k ds).flatten
  | 0 => .nil
  | k + 1 => by
    rw [List.replicate_succ, List.replicate_succ, List.flatten_cons, List.flatten_cons]
    exact h.append (RepL.rep h k)
theorem RepL.ints : ∀ {ds : List D} {vs : List V} {l : List Int}, RepL Z H R vs ds → intsOf ds = some l → vs = l.map V.int
  | [], _, _, h, e => by cases h; cases e; rfl
  | .int i :: ds, _, l, h, e => by
    cases h with
    | cons a b =>
      cases a
      unfold intsOf at e
      cases q : intsOf ds with
      | none => rw [q] at e; cases e
      | some l' => rw [q] at e; cases e; rw [RepL.ints b q]; rfl
  | .non :: _, _, _, _, e => by cases e
  | .bl _ :: _, _, _, _, e => by cases e
  | .str _ :: _, _, _, _, e => by cases e
  | .tup _ :: _, _, _, _, e => by cases e
  | .lst _ :: _, _, _, _, e => by cases e
  | .ins _ _ :: _, _, _, _, e => by cases e
  | .cls _ :: _, _, _, _, e => by cases e
  | .exn _ _ :: _, _, _, _, e => by cases e
  | .dct _ :: _, _, _, _, e => by cases e
theorem RepL.bls : ∀ {ds : List D} {vs : List V} {l : List Bool}, RepL Z H R vs ds → blsOf ds = some l → vs = l.map V.bl
  | [], _, _, h, e => by cases h; cases e; rfl
  | .bl i :: ds, _, l, h, e => by
    cases h with
    | cons a b =>
      cases a
      unfold blsOf at e
      cases q : blsOf ds with
      | none => rw [q] at e; cases e
      | some l' => rw [q] at e; cases e; rw [RepL.bls b q]; rfl
  | .non :: _, _, _, _, e => by cases e
  | .int _ :: _, _, _, _, e => by cases e
  | .str _ :: _, _, _, _, e => by cases e
  | .tup _ :: _, _, _, _, e => by cases e
  | .lst _ :: _, _, _, _, e => by cases e
  | .ins _ _ :: _, _, _, _, e => by cases e
  | .cls _ :: _, _, _, _, e => by cases e
  | .exn _ _ :: _, _, _, _, e => by cases e
  | .dct _ :: _, _, _, _, e => by cases e

mutual
theorem Rep.dp : ∀ {d : D} {v : V} {p : PyData}, Rep Z H R v d → d.py = some p → Dq Z.K H v p
  | .non, _, _, h, e => by cases h; cases e; exact .non
  | .bl _, _, _, h, e => by cases h; cases e; exact .bl _
  | .int _, _, _, h, e => by cases h; cases e; exact .int _
  | .str _, _, _, h, e => by cases h; cases e; exact .str _
  | .tup ds, _, _, h, e => by
    cases h with
    | tup a b =>
      unfold D.py at e
      cases q : D.pys ds with
      | none => rw [q] at e; cases e
      | some l => rw [q] at e; cases e; exact .tup a.sq (RepL.dp b q)
  | .lst ds, _, _, h, e => by
    cases h with
    | lst a b =>
      unfold D.py at e
      cases q : D.pys ds with
      | none => rw [q] at e; cases e
      | some l => rw [q] at e; cases e; exact .lst a.sq (RepL.dp b q)
  | .ins _ _, _, _, _, e => by unfold D.py at e; cases e
  | .cls _, _, _, _, e => by unfold D.py at e; cases e
  | .exn _ _, _, _, _, e => by unfold D.py at e; cases e
  | .dct kvs, _, _, h, e => by
    cases h with
    | dct h1 n1 => unfold D.py at e; cases e; exact .dct h1
theorem RepL.dp : ∀ {ds : List D} {vs : List V} {ps : List PyData}, RepL Z H R vs ds → D.pys ds = some ps → DqAll Z.K H vs ps
  | [], _, _, h, e => by cases h; unfold D.pys at e; cases e; exact .nil
  | d :: ds, _, _, h, e => by
    cases h with
    | cons a b =>
      unfold D.pys at e
      cases q : D.py d with
      | none => rw [q] at e; cases e
      | some p =>
        cases q2 : D.pys ds with
        | none => rw [q, q2] at e; cases e
        | some l => rw [q, q2] at e; cases e; exact .cons (Rep.dp a q) (RepL.dp b q2)
end
end

/-! ### frames -/
/-- the places of the lists that a frame owns -/
def Ow (s : Sg) (q : Fm) : Pr := fun a => ∃ (i : Nat) (b : Bool) (d : D), q[i]? = some (.ow b d) ∧ s[i]? = some (some (.ref a))
def Rt (R0 : Pr) (s : Sg) (q : Fm) : Pr := fun a => R0 a ∨ Ow s q a
/-- an owned list at a -/
def OwnAt (Z : Zc) (H : Hp) (R : Pr) (a : Addr) (d : D) : Prop := ∃ ds xs, d = .lst ds ∧ H a = some (.lst xs) ∧ RepL Z H R xs ds
/-- what the ground leans on: tables, code objects, what is known to the object -/
inductive GO : HO → Prop
  | tbl (ps : Array Value) : GO (.tbl ps)
  | code (c : Addr) (q : Str) : GO (LamX.CodeO c q)
  | frz (o : Obj) (u : HO) : GO (.frz o u)
theorem GO.lst {o : HO} (g : GO o) {xs : List V} (e : o = .lst xs) : False := by
  cases g with
  | tbl ps => cases e
  | code c q => unfold LamX.CodeO at e; cases e
  | frz a b => cases e
theorem GO.ins {o : HO} (g : GO o) {C dx : Addr} {fs : List (Str × V)} (e : o = .ins C dx fs) : False := by
  cases g with
  | tbl ps => cases e
  | code c q => unfold LamX.CodeO at e; cases e
  | frz a b => cases e
theorem GO.own {o : HO} (g : GO o) {x : Addr} (e : o = .own x) : False := by
  cases g with
  | tbl ps => cases e
  | code c q => unfold LamX.CodeO at e; cases e
  | frz a b => cases e
theorem GO.dK {o : HO} (g : GO o) {kvs : List (Key × V)} (e : o = .dK kvs) : False := by
  cases g with
  | tbl ps => cases e
  | code c q => unfold LamX.CodeO at e; cases e
  | frz a b => cases e
theorem GO.xd {o : HO} (g : GO o) {kvs : List (Str × V)} (e : o = .xd kvs) : False := by
  cases g with
  | tbl ps => cases e
  | code c q => unfold LamX.CodeO at e; cases e
  | frz a b => cases e
/-- the ground: the tables; sys.modules is known (so nothing new lies there) -/
structure Grd (Z : Zc) (H : Hp) : Prop where
  t : LamX.Tabs Z.T H
  sy : ∃ o, H sysModules = some (.frz o (.own 0))
  ks : Z.K.lookup sysModules = none
theorem Grd.up {Z : Zc} {H H' : Hp} (g : Grd Z H) (e : ∀ b o, H b = some o → GO o → H' b = some o) : Grd Z H' := by
  refine ⟨fun p hp => ?_, let ⟨o, h⟩ := g.sy; ⟨o, e _ _ h (.frz _ _)⟩, g.ks⟩
  obtain ⟨ps, h1, h2, h3⟩ := g.t p hp
  refine ⟨ps, e _ _ h1 (.tbl _), h2, fun pos cv hc => ?_⟩
  obtain ⟨c, e1, e2⟩ := h3 pos cv hc
  exact ⟨c, e1, e _ _ e2 (.code _ _)⟩
theorem Grd.ext {Z : Zc} {H H' : Hp} (g : Grd Z H) (e : ∀ b o, H b = some o → H' b = some o) : Grd Z H' := g.up fun b o h _ => e b o h
theorem Grd.upd {Z : Zc} {H : Hp} {a : Addr} {xs : List V} {o : HO} (g : Grd Z H) (h : H a = some (.lst xs)) : Grd Z (upd H a o) := g.up fun b u e n => by rw [upd_ne fun z => by rw [z, h] at e; cases e; exact n.lst rfl]; exact e
structure FR (Z : Zc) (R0 : Pr) (s : Sg) (q : Fm) (H : Hp) : Prop where
  len : s.length = q.length
  tb : Grd Z H
  trk : ∀ b, R0 b → H b ≠ none
  sh : ∀ (i : Nat) (b : Bool) (d : D), q[i]? = some (.sh b d) → ∃ v, s[i]? = some (some v) ∧ Rep Z H (Rt R0 s q) v d
  ow : ∀ (i : Nat) (b : Bool) (d : D), q[i]? = some (.ow b d) → ∃ a, s[i]? = some (some (.ref a)) ∧ ¬ R0 a ∧ OwnAt Z H (Rt R0 s q) a d
  sep : ∀ (i j : Nat) (b b' : Bool) (d d' : D) (a : Addr), q[i]? = some (.ow b d) → q[j]? = some (.ow b' d') → s[i]? = some (some (.ref a)) → s[j]? = some (some (.ref a)) → i = j
theorem FR.owT {Z : Zc} {R0 : Pr} {s : Sg} {q : Fm} {H : Hp} (f : FR Z R0 s q H) {a : Addr} (h : Ow s q a) : ∃ xs, H a = some (.lst xs) := by
  obtain ⟨i, b, d, h1, h2⟩ := h
  obtain ⟨a', e, _, ds, xs, _, h3, _⟩ := f.ow i b d h1
  rw [h2] at e; cases e
  exact ⟨xs, h3⟩
theorem FR.rtT {Z : Zc} {R0 : Pr} {s : Sg} {q : Fm} {H : Hp} (f : FR Z R0 s q H) {a : Addr} (h : Rt R0 s q a) : H a ≠ none := by
  rcases h with h | h
  · exact f.trk a h
  · obtain ⟨xs, e⟩ := f.owT h
    rw [e]; exact fun z => nomatch z
theorem OwnAt.lat {Z : Zc} {H H' : Hp} {R R' : Pr} {a : Addr} {d : D} (l : Lat R H R' H') (e : H' a = H a) (h : OwnAt Z H R a d) : OwnAt Z H' R' a d := by
  obtain ⟨ds, xs, h1, h2, h3⟩ := h
  exact ⟨ds, xs, h1, e.trans h2, h3.lat l⟩
/-- fewer places outside -/
theorem FR.fewer {Z : Zc} {R0 R1 : Pr} {s : Sg} {q : Fm} {H : Hp} (f : FR Z R0 s q H) (h : ∀ b, R1 b → R0 b) : FR Z R1 s q H where
  len := f.len
  tb := f.tb
  trk := fun b z => f.trk b (h b z)
  sh := fun i b d e => by
    obtain ⟨v, h1, h2⟩ := f.sh i b d e
    exact ⟨v, h1, h2.lat (Lat.sub fun c z => Or.elim z (fun z => .inl (h c z)) .inr)⟩
  ow := fun i b d e => by
    obtain ⟨a, h1, h2, h3⟩ := f.ow i b d e
    exact ⟨a, h1, fun z => h2 (h a z), h3.lat (Lat.sub fun c z => Or.elim z (fun z => .inl (h c z)) .inr) rfl⟩
  sep := f.sep
/-- the heap goes on, what is owned as it was -/
theorem FR.on {Z : Zc} {R0 R1 : Pr} {s : Sg} {q : Fm} {H H' : Hp} (f : FR Z R0 s q H) (l : Same H H') (h : ∀ b, R1 b → R0 b ∨ H b = none) (ht : ∀ b, R1 b → H' b ≠ none) : FR Z R1 s q H' where
  len := f.len
  tb := f.tb.ext l
  trk := ht
  sh := fun i b d e => by
    obtain ⟨v, h1, h2⟩ := f.sh i b d e
    exact ⟨v, h1, h2.lat ((Lat.same l).less fun c z => Or.elim z (fun z => Or.elim (h c z) (fun z => .inl (.inl z)) .inr) fun z => .inl (.inr z))⟩
  ow := fun i b d e => by
    obtain ⟨a, h1, h2, ds, xs, h3, h4, h5⟩ := f.ow i b d e
    refine ⟨a, h1, fun z => Or.elim (h a z) h2 (fun q => by rw [h4] at q; cases q), ds, xs, h3, l _ _ h4, h5.lat ((Lat.same l).less fun c z => Or.elim z (fun z => Or.elim (h c z) (fun z => .inl (.inl z)) .inr) fun z => .inl (.inr z))⟩
  sep := f.sep
/-- the heap goes on, tables aside -/
theorem Lat.sameN {R : Pr} {H H' : Hp} (s : ∀ b o, H b = some o → NT o → H' b = some o) (tr : ∀ b, H b ≠ none → H' b ≠ none) : Lat R H R H' := ⟨fun b o h _ n => s b o h n, fun _ h => .inl h, tr⟩
theorem FR.onN {Z : Zc} {R0 R1 : Pr} {s : Sg} {q : Fm} {H H' : Hp} (f : FR Z R0 s q H) (l : ∀ b o, H b = some o → NT o → H' b = some o) (tr : ∀ b, H b ≠ none → H' b ≠ none) (g : Grd Z H') (h : ∀ b, R1 b → R0 b ∨ H b = none) (ht : ∀ b, R1 b → H' b ≠ none) : FR Z R1 s q H' where
  len := f.len
  tb := g
  trk := ht
  sh := fun i b d e => by
    obtain ⟨v, h1, h2⟩ := f.sh i b d e
    exact ⟨v, h1, h2.lat ((Lat.sameN l tr).less fun c z => Or.elim z (fun z => Or.elim (h c z) (fun z => .inl (.inl z)) .inr) fun z => .inl (.inr z))⟩
  ow := fun i b d e => by
    obtain ⟨a, h1, h2, ds, xs, h3, h4, h5⟩ := f.ow i b d e
    refine ⟨a, h1, fun z => Or.elim (h a z) h2 (fun q => by rw [h4] at q; cases q), ds, xs, h3, l _ _ h4 (fun _ z => nomatch z), h5.lat ((Lat.sameN l tr).less fun c z => Or.elim z (fun z => Or.elim (h c z) (fun z => .inl (.inl z)) .inr) fun z => .inl (.inr z))⟩
  sep := f.sep
/-- all but x and dx (and tables) stands -/
structure KpN (H H' : Hp) (x dx : Addr) : Prop where
  kp : ∀ b o, H b = some o → b ≠ x → b ≠ dx → NT o → H' b = some o
  tr : ∀ b, H b ≠ none → H' b ≠ none
end M

set_option Elab.async false
set_option linter.all false
set_option maxRecDepth 100000
/-! A2: readings. -/
namespace M
open PySem L2

def XRep (Z : Zc) (H : Hp) (R : Pr) (c : Nat) (ds : List D) (d : Option Addr) : Prop := Z.nc ≤ c ∧ c < Z.nx ∧ match d with
  | some d => ∃ vs, H d = some (.xd ((Z.xf c).zip vs)) ∧ RepL Z H R vs ds ∧ ¬ R d
  | none => ds = []
theorem XRep.lat {Z : Zc} {H H' : Hp} {R R' : Pr} {c : Nat} {ds : List D} (l : Lat R H R' H') {d : Option Addr} (h : XRep Z H R c ds d) : XRep Z H' R' c ds d := by
  obtain ⟨c1, c2, h⟩ := h
  refine ⟨c1, c2, ?_⟩
  cases d with
  | none => exact h
  | some d =>
    obtain ⟨vs, h1, h2, h3⟩ := h
    exact ⟨vs, l.kp _ _ h1 h3 (fun _ z => nomatch z), h2.lat l, fun z => Or.elim (l.nw _ z) h3 fun q => by rw [h1] at q; cases q⟩
def bor (q : Fm) (i : Nat) : Prop := ∃ s, q[i]? = some s ∧ s.isBor = true
def BK (q q' : Fm) : Prop := ∀ i, bor q' i → bor q i
theorem BK.refl (q : Fm) : BK q q := fun _ h => h
theorem BK.trans {q q1 q2 : Fm} (a : BK q q1) (b : BK q1 q2) : BK q q2 := fun i h => a i (b i h)

/-- what is wanted of an answer -/
def An {α W : Type} (Z : Zc) (E : XK) (R0 : Pr) (s : Sg) (q : Fm) (H : Hp) (Po : Fm → Hp → W → α → Prop) (Q : W → Hp → Prop) : Res α → Prop
  | .ok a q' => ∀ w H', Lat (Ow s q) H (Ow s q') H' → BK q q' → Po q' H' w a → Q w H'
  | .exc c ds q' => ∀ d H', Lat (Ow s q) H (Ow s q') H' → BK q q' → FR Z R0 s q' H' → XRep Z H' (Rt R0 s q') c ds d → E (.ref (Z.C c)) d H'
  | .bad => False
/-- the reading of a computation over frames -/
def TR {α W : Type} (Z : Zc) (E : XK) (f : Fm → Res α) (Po : Pr → Sg → Hp → Fm → Hp → W → α → Prop) : Sg → Hp → (W → Hp → Prop) → Prop := fun s H Q =>
  ∃ (R0 : Pr) (q : Fm), FR Z R0 s q H ∧ An Z E R0 s q H (Po R0 s H) Q (f q)
/-- more places outside -/
def P1 (R0 : Pr) (a : Addr) : Pr := fun b => R0 b ∨ b = a
def PoV (Z : Zc) (R0 : Pr) (s : Sg) (H : Hp) (q' : Fm) (H' : Hp) (w : V) : RV → Prop
  | .val d => FR Z R0 s q' H' ∧ Rep Z H' (Rt R0 s q') w d
  | .new d => ∃ a, w = .ref a ∧ H a = none ∧ FR Z (P1 R0 a) s q' H' ∧ OwnAt Z H' (Rt (P1 R0 a) s q') a d
  | .slot i => FR Z R0 s q' H' ∧ s[i]? = some (some w) ∧ ∃ b d, q'[i]? = some (.ow b d)
def RepR (Z : Zc) (H : Hp) (R0 : Pr) (s : Sg) (q : Fm) (w : V) : RV → Prop
  | .val d => Rep Z H (Rt R0 s q) w d
  | .new _ => False
  | .slot i => s[i]? = some (some w)
def RepRs (Z : Zc) (H : Hp) (R0 : Pr) (s : Sg) (q : Fm) : List V → List RV → Prop
  | [], [] => True
  | w :: ws, r :: rs => RepR Z H R0 s q w r ∧ RepRs Z H R0 s q ws rs
  | _, _ => False
def PoVs (Z : Zc) (R0 : Pr) (s : Sg) (H : Hp) (q' : Fm) (H' : Hp) (ws : List V) (rs : List RV) : Prop := FR Z R0 s q' H' ∧ RepRs Z H' R0 s q' ws rs
def PoL (Z : Zc) (R0 : Pr) (s : Sg) (H : Hp) (q' : Fm) (H' : Hp) (ws : List V) (ds : List D) : Prop := FR Z R0 s q' H' ∧ RepL Z H' (Rt R0 s q') ws ds
def PoB (Z : Zc) (R0 : Pr) (s : Sg) (H : Hp) (q' : Fm) (H' : Hp) (w : Bool) (b : Bool) : Prop := FR Z R0 s q' H' ∧ w = b

theorem lat_rt {R0 : Pr} {s : Sg} {q q' : Fm} {H H' : Hp} (l : Lat (Ow s q) H (Ow s q') H') : Lat (Rt R0 s q) H (Rt R0 s q') H' := l.more
theorem RepR.lat {Z : Zc} {H H' : Hp} {R0 : Pr} {s : Sg} {q q' : Fm} {w : V} {r : RV} (l : Lat (Ow s q) H (Ow s q') H') (h : RepR Z H R0 s q w r) : RepR Z H' R0 s q' w r := by
  cases r with
  | val d => exact Rep.lat (lat_rt l) h
  | new d => exact h
  | slot i => exact h
theorem RepRs.lat {Z : Zc} {H H' : Hp} {R0 : Pr} {s : Sg} {q q' : Fm} (l : Lat (Ow s q) H (Ow s q') H') : ∀ {ws : List V} {rs : List RV}, RepRs Z H R0 s q ws rs → RepRs Z H' R0 s q' ws rs
  | [], [], _ => True.intro
  | w :: ws, r :: rs, h => ⟨RepR.lat l h.1, RepRs.lat l h.2⟩
  | [], _ :: _, h => h.elim
  | _ :: _, [], h => h.elim
/-- a new list taken as a shared one -/
theorem new_down {Z : Zc} {R0 : Pr} {s : Sg} {q' : Fm} {H H' : Hp} {a : Addr} {d : D} (ht : ∀ b, R0 b → H b ≠ none) (hn : H a = none) (f : FR Z (P1 R0 a) s q' H') (o : OwnAt Z H' (Rt (P1 R0 a) s q') a d) :
    FR Z R0 s q' H' ∧ Rep Z H' (Rt R0 s q') (.ref a) d := by
  refine ⟨f.fewer fun b z => .inl z, ?_⟩
  obtain ⟨ds, xs, e, h1, h2⟩ := o
  subst e
  refine .lst (.inl ⟨.inl h1, fun z => ?_⟩) (h2.lat (Lat.sub fun c z => Or.elim z (fun z => .inl (.inl z)) .inr))
  rcases z with z | ⟨i, b, d, z1, z2⟩
  · exact ht a z hn
  · obtain ⟨a', e1, n, _⟩ := f.ow i b d z1
    rw [z2] at e1; cases e1
    exact n (.inr rfl)
theorem PoV.down {Z : Zc} {R0 : Pr} {s : Sg} {q q' : Fm} {H H' : Hp} {w : V} {r : RV} (f0 : FR Z R0 s q H) (h : PoV Z R0 s H q' H' w r) : FR Z R0 s q' H' ∧ RepR Z H' R0 s q' w r.down := by
  cases r with
  | val d => exact h
  | new d =>
    obtain ⟨a, rfl, hn, f, o⟩ := h
    exact new_down f0.trk hn f o
  | slot i => exact ⟨h.1, h.2.1⟩
theorem PoV.vd {Z : Zc} {R0 : Pr} {s : Sg} {q q' : Fm} {H H' : Hp} {w : V} {r : RV} {d : D} (f0 : FR Z R0 s q H) (h : PoV Z R0 s H q' H' w r) (e : r.vd = some d) : FR Z R0 s q' H' ∧ Rep Z H' (Rt R0 s q') w d := by
  cases r with
  | val d => cases e; exact h
  | new d =>
    cases e
    obtain ⟨a, rfl, hn, f, o⟩ := h
    exact new_down f0.trk hn f o
  | slot i => cases e
section
variable {α β W W2 : Type} {Z : Zc} {E : XK} {s : Sg} {H : Hp} {R0 : Pr} {q q1 : Fm}
theorem An.mono {Po Po' : Fm → Hp → W → α → Prop} {Q Q' : W → Hp → Prop} : ∀ {r : Res α}, An Z E R0 s q H Po Q r → (∀ q' w H' a, r = .ok a q' → Lat (Ow s q) H (Ow s q') H' → BK q q' → Po' q' H' w a → (Po q' H' w a → Q w H') → Q' w H') → An Z E R0 s q H Po' Q' r
  | .ok a q', h, m => fun w H' l b p => m q' w H' a rfl l b p fun p => h w H' l b p
  | .exc c ds q', h, _ => h
  | .bad, h, _ => h
theorem TR.mono {f : Fm → Res α} {Po : Pr → Sg → Hp → Fm → Hp → W → α → Prop} {Q Q' : W → Hp → Prop} (h : TR Z E f Po s H Q) (m : ∀ w H, Q w H → Q' w H) : TR Z E f Po s H Q' := by
  obtain ⟨R0, q, f0, h⟩ := h
  exact ⟨R0, q, f0, h.mono fun _ _ _ _ _ _ _ p k => m _ _ (k p)⟩
/-- from a later start -/
theorem An.late {Po Po' : Fm → Hp → W → α → Prop} {Q : W → Hp → Prop} {H1 : Hp} (l : Lat (Ow s q) H (Ow s q1) H1) (b : BK q q1) (hp : ∀ q2 H2 w a, Lat (Ow s q1) H1 (Ow s q2) H2 → Po' q2 H2 w a → Po q2 H2 w a) :
    ∀ {r : Res α}, An Z E R0 s q H Po Q r → An Z E R0 s q1 H1 Po' Q r
  | .ok a q', h => fun w H' l2 b2 p => h w H' (l.trans l2) (b.trans b2) (hp q' H' w a l2 p)
  | .exc c ds q', h => fun d H' l2 b2 f x => h d H' (l.trans l2) (b.trans b2) f x
  | .bad, h => h
theorem An.bind {g : α → Fm → Res β} {Po : Fm → Hp → W → α → Prop} {Po2 : Fm → Hp → W2 → β → Prop} {Q : W2 → Hp → Prop} {Q1 : W → Hp → Prop} : ∀ {r : Res α}, An Z E R0 s q H Po2 Q (bindR r g) →
    (∀ q1 w H1 a, r = .ok a q1 → Lat (Ow s q) H (Ow s q1) H1 → BK q q1 → Po q1 H1 w a → An Z E R0 s q H Po2 Q (g a q1) → Q1 w H1) → An Z E R0 s q H Po Q1 r
  | .ok a q1, h, k => fun w H1 l b p => k q1 w H1 a rfl l b p h
  | .exc c ds q', h, _ => h
  | .bad, h, _ => h
/-- two in a row -/
theorem TR.bind {f : Fm → Res α} {g : α → Fm → Res β} {Po : Pr → Sg → Hp → Fm → Hp → W → α → Prop} {Po2 : Pr → Sg → Hp → Fm → Hp → W2 → β → Prop} {Q : W2 → Hp → Prop} {Q1 : W → Hp → Prop}
    (h : TR Z E (fun q => bindR (f q) g) Po2 s H Q)
    (k : ∀ (R0 : Pr) (q q1 : Fm) (a : α) (w : W) (H1 : Hp), FR Z R0 s q H → Lat (Ow s q) H (Ow s q1) H1 → BK q q1 → Po R0 s H q1 H1 w a → An Z E R0 s q H (Po2 R0 s H) Q (g a q1) → Q1 w H1) : TR Z E f Po s H Q1 := by
  obtain ⟨R0, q, f0, h⟩ := h
  exact ⟨R0, q, f0, h.bind fun q1 w H1 a _ l b p z => k R0 q q1 a w H1 f0 l b p z⟩
end
/-- a value's post holds of an earlier start too -/
theorem PoV.early {Z : Zc} {R0 : Pr} {s : Sg} {q q1 q' : Fm} {H H1 H' : Hp} {w : V} {r : RV} (l : Lat (Ow s q) H (Ow s q1) H1) (h : PoV Z R0 s H1 q' H' w r) : PoV Z R0 s H q' H' w r := by
  cases r with
  | val d => exact h
  | new d =>
    obtain ⟨a, e, hn, f, o⟩ := h
    exact ⟨a, e, l.new hn, f, o⟩
  | slot i => exact h
/-- the readings of the tree's parts -/
def tE (Z : Zc) (K : Calls) (ex : XK) (e : E) (pk : Bool) : TE := TR Z ex (ev K e pk) (PoV Z)
def tEs (Z : Zc) (K : Calls) (ex : XK) (e : Es) : TA := TR Z ex (evs K e) (PoVs Z)
def tT (Z : Zc) (K : Calls) (ex : XK) (t : T) : TT := TR Z ex (evT K t) (PoB Z)
def tA (Z : Zc) (K : Calls) (ex : XK) (e : As) : TA := TR Z ex (evA K e) (PoL Z)
section
variable {Z : Zc} {K : Calls} {ex : XK} {s : Sg} {H : Hp}
theorem tEs_nil {Q : List V → Hp → Prop} (h : tEs Z K ex .nil s H Q) : Q [] H := by
  obtain ⟨R0, q, f0, h⟩ := h
  unfold evs at h
  exact h [] H (Lat.refl _ _) (BK.refl _) ⟨f0, True.intro⟩
theorem tEs_cons {e : E} {r : Es} {Q : List V → Hp → Prop} (h : tEs Z K ex (.cons e r) s H Q) : tE Z K ex e true s H fun x H1 => tEs Z K ex r s H1 fun xs H2 => Q (x :: xs) H2 := by
  unfold tEs at h
  simp only [show evs K (.cons e r) = fun q => bindR (ev K e true q) fun x q1 => bindR (evs K r q1) fun xs q2 => .ok (x.down :: xs) q2 from rfl] at h
  refine TR.bind h fun R0 q q1 a w H1 f0 l b p z => ?_
  obtain ⟨f1, p1⟩ := p.down f0
  refine ⟨R0, q1, f1, (An.late (Po' := PoVs Z R0 s H1) l b (fun _ _ _ _ _ p => p) z).bind fun q2 ws H2 rs _ l2 b2 p2 z2 => ?_⟩
  exact z2 (w :: ws) H2 l2 b2 ⟨p2.1, RepR.lat l2 p1, p2.2⟩
theorem tA_nil {Q : List V → Hp → Prop} (h : tA Z K ex .nil s H Q) : Q [] H := by
  obtain ⟨R0, q, f0, h⟩ := h
  unfold evA at h
  exact h [] H (Lat.refl _ _) (BK.refl _) ⟨f0, .nil⟩
theorem tA_one {e : E} {r : As} {Q : List V → Hp → Prop} (h : tA Z K ex (.one e r) s H Q) : tE Z K ex e false s H fun x H1 => tA Z K ex r s H1 fun xs H2 => Q (x :: xs) H2 := by
  unfold tA at h
  rw [show evA K (.one e r) = fun q => bindR (ev K e false q) fun x q1 => match x.vd with
    | some d => bindR (evA K r q1) fun ds q2 => .ok (d :: ds) q2
    | none => .bad from rfl] at h
  refine TR.bind h fun R0 q q1 a w H1 f0 l b p z => ?_
  cases e1 : a.vd with
  | none => rw [e1] at z; exact z.elim
  | some d =>
    rw [e1] at z
    obtain ⟨f1, p1⟩ := p.vd f0 e1
    refine ⟨R0, q1, f1, (An.late (Po' := PoL Z R0 s H1) l b (fun _ _ _ _ _ p => p) z).bind fun q2 ws H2 rs _ l2 b2 p2 z2 => ?_⟩
    exact z2 (w :: ws) H2 l2 b2 ⟨p2.1, .cons (p1.lat (lat_rt l2)) p2.2⟩
/-- an operand's data as they stand -/
theorem RepR.at_ {R0 : Pr} {q : Fm} {w : V} {r : RV} {d : D} (f : FR Z R0 s q H) (h : RepR Z H R0 s q w r) (e : r.at_ q = some d) : (∃ ds a xs, d = .lst ds ∧ w = .ref a ∧ SqL Z.K H a xs ∧ RepL Z H (Rt R0 s q) xs ds ∧ (∃ i b, r = .slot i ∧ q[i]? = some (.ow b d) ∧ H a = some (.lst xs))) ∨ Rep Z H (Rt R0 s q) w d := by
  cases r with
  | val d' => cases e; exact .inr h
  | new d' => exact h.elim
  | slot i =>
    unfold RV.at_ at e
    cases hq : q[i]? with
    | none => simp only [hq] at e; cases e
    | some t =>
      cases t with
      | no => simp only [hq] at e; cases e
      | pin => simp only [hq] at e; cases e
      | sh b x =>
        simp only [hq] at e; cases e
        obtain ⟨v, h1, h2⟩ := f.sh i b _ hq
        rw [show s[i]? = some (some w) from h] at h1; cases h1
        exact .inr h2
      | ow b x =>
        simp only [hq] at e; cases e
        obtain ⟨a, h1, _, ds, xs, e2, h2, h3⟩ := f.ow i b _ hq
        rw [show s[i]? = some (some w) from h] at h1; cases h1
        exact .inl ⟨ds, a, xs, e2, rfl, SqL.of h2, h3, i, b, rfl, hq, h2⟩
end
end M

set_option Elab.async false
set_option linter.all false
set_option maxRecDepth 100000
/-! A3: the primitives. -/
namespace M
open PySem L2 PyProof.Rows

/-- an operand as it is read -/
def RepP (Z : Zc) (H : Hp) (R : Pr) (v : V) (d : D) : Prop := Rep Z H R v d ∨ ∃ ds a xs, d = .lst ds ∧ v = .ref a ∧ H a = some (.lst xs) ∧ RepL Z H R xs ds
def RepPs (Z : Zc) (H : Hp) (R : Pr) : List V → List D → Prop
  | [], [] => True
  | w :: ws, d :: ds => RepP Z H R w d ∧ RepPs Z H R ws ds
  | _, _ => False
def RepN (Z : Zc) (H H' : Hp) (R : Pr) (w : V) : Bool → D → Prop
  | false, d => Rep Z H' R w d
  | true, d => ∃ a xs ds Hm, w = .ref a ∧ d = .lst ds ∧ Same H Hm ∧ Same Hm H' ∧ Hm a = none ∧ H' a = some (.lst xs) ∧ RepL Z Hm R xs ds
def PrimPost (Z : Zc) (p : P) (vs : List V) (H : Hp) (Q : VK) : Prop := ∃ (R : Pr) (ds : List D), (Grd Z H ∧ ∀ b, R b → H b ≠ none) ∧ RepPs Z H R vs ds ∧
  ∃ nw d, evP p ds = some (nw, d) ∧ ∀ w H', Same H H' → RepN Z H H' R w nw d → Q w H'
section
variable {Z : Zc} {K : Calls} {ex : XK} {s : Sg} {H : Hp} {R : Pr}
theorem RepR.atP {R0 : Pr} {q : Fm} {w : V} {r : RV} {d : D} (f : FR Z R0 s q H) (h : RepR Z H R0 s q w r) (e : r.at_ q = some d) : RepP Z H (Rt R0 s q) w d := by
  rcases RepR.at_ f h e with ⟨ds, a, xs, e1, e2, _, h2, _, _, _, _, h3⟩ | h
  · exact .inr ⟨ds, a, xs, e1, e2, h3, h2⟩
  · exact .inl h
theorem RepRs.atPs {R0 : Pr} {q : Fm} (f : FR Z R0 s q H) : ∀ {ws : List V} {rs : List RV} {ds : List D}, RepRs Z H R0 s q ws rs → atAll q rs = some ds → RepPs Z H (Rt R0 s q) ws ds
  | [], [], _, _, e => by cases e; exact True.intro
  | w :: ws, r :: rs, ds, h, e => by
    unfold atAll at e
    cases e1 : r.at_ q with
    | none => rw [e1] at e; cases e
    | some d =>
      cases e2 : atAll q rs with
      | none => rw [e1, e2] at e; cases e
      | some ds' =>
        rw [e1, e2] at e; cases e
        exact ⟨RepR.atP f h.1 e1, RepRs.atPs f h.2 e2⟩
  | [], _ :: _, _, h, _ => h.elim
  | _ :: _, [], _, h, _ => h.elim
theorem prim_an {p : P} {Q : VK} {R0 : Pr} {q q1 : Fm} {H1 : Hp} {ws : List V} {a : List RV} (l : Lat (Ow s q) H (Ow s q1) H1) (b : BK q q1) (f1 : FR Z R0 s q1 H1) (p1 : RepRs Z H1 R0 s q1 ws a) (z : An Z ex R0 s q H (PoV Z R0 s H) Q (primR p a q1)) : PrimPost Z p ws H1 Q := by
  unfold primR at z
  cases e1 : atAll q1 a with
  | none => rw [e1] at z; exact z.elim
  | some ds =>
    rw [e1] at z
    dsimp only at z
    cases e2 : evP p ds with
    | none => rw [e2] at z; exact z.elim
    | some nd =>
      obtain ⟨nw, d⟩ := nd
      rw [e2] at z
      refine ⟨Rt R0 s q1, ds, ⟨f1.tb, fun b hb => f1.rtT hb⟩, RepRs.atPs f1 p1 e1, nw, d, e2, fun w H' sm rn => ?_⟩
      have l2 : Lat (Ow s q) H (Ow s q1) H' := l.trans (Lat.same sm)
      have trk2 : ∀ b, R0 b → H' b ≠ none := fun b hb => (Lat.same (R := Ow s q) sm).tr b (f1.trk b hb)
      cases nw with
      | false => exact z w H' l2 b ⟨f1.on sm (fun _ h => .inl h) trk2, rn⟩
      | true =>
        obtain ⟨a', xs, ds', Hm, rfl, rfl, s1, s2, hn, ha, rl⟩ := rn
        have hn1 : H1 a' = none := s1.free hn
        refine z (.ref a') H' l2 b ⟨a', rfl, l.new hn1, f1.on sm (fun b hb => Or.elim hb .inl fun e => .inr (e ▸ hn1)) (fun b hb => Or.elim hb (fun hb => trk2 b hb) fun e => ?_), ds', xs, rfl, ha, rl.lat ((Lat.same s2).less fun b hb => ?_)⟩
        · rw [e, ha]; exact fun z => nomatch z
        · rcases hb with (hb | hb) | hb
          · exact .inl (.inl hb)
          · exact .inr (hb ▸ hn)
          · exact .inl (.inr hb)
theorem tE_prm {p : P} {es : Es} {pk : Bool} {Q : VK} (h : tE Z K ex (.prm p es) pk s H Q) : tEs Z K ex es s H fun vs H1 => PrimPost Z p vs H1 Q := by
  unfold tE at h
  rw [show ev K (.prm p es) pk = fun q => bindR (evs K es q) fun rs q1 => primR p rs q1 from rfl] at h
  exact TR.bind h fun R0 q q1 a ws H1 f0 l b pp z => prim_an l b pp.1 pp.2 z
theorem tE_mth {p : P} {a b : E} {pk : Bool} {Q : VK} (h : tE Z K ex (.mth p a b) pk s H Q) : tE Z K ex a false s H fun v H1 => (∃ z, v = V.str z) ∧ tE Z K ex b true s H1 fun u H2 => PrimPost Z p [v, u] H2 Q := by
  unfold tE at h
  rw [show ev K (.mth p a b) pk = fun q => bindR (ev K a false q) fun r q1 => match r with
    | .val (.str z) => bindR (ev K b true q1) fun r2 q2 => primR p [.val (.str z), r2.down] q2
    | _ => .bad from rfl] at h
  refine TR.bind h fun R0 q q1 r w H1 f0 l bk pp z => ?_
  cases r with
  | new d => exact z.elim
  | slot d => exact z.elim
  | val d =>
    cases d with
    | str x =>
      obtain ⟨f1, rp⟩ := pp
      have ew : w = V.str x := by cases rp; rfl
      refine ⟨⟨x, ew⟩, R0, q1, f1, ?_⟩
      have z1 : An Z ex R0 s q1 H1 (PoV Z R0 s H1) Q (bindR (ev K b true q1) fun r2 q2 => primR p [.val (.str x), r2.down] q2) := An.late l bk (fun _ _ _ _ _ p => p.early l) z
      refine An.bind z1 fun q2 u H2 r2 _ l2 b2 p2 z2 => ?_
      obtain ⟨f2, r2'⟩ := p2.down f1
      exact prim_an (a := [.val (.str x), r2.down]) (ws := [w, u]) l2 b2 f2 ⟨Rep.lat (lat_rt l2) rp, r2', True.intro⟩ z2
    | _ => exact z.elim
end
end M

set_option Elab.async false
set_option linter.all false
set_option maxRecDepth 100000
/-! A4: each primitive by its rule. -/
namespace M
open PySem L2 PyProof.Rows
section
variable {Z : Zc} {H : Hp} {R : Pr} {v x y : V} {Q : VK}
theorem RepP.int {i : Int} (h : RepP Z H R v (.int i)) : v = .int i := by
  rcases h with h | ⟨_, _, _, e, _⟩
  · cases h; rfl
  · cases e
theorem RepP.bl {b : Bool} (h : RepP Z H R v (.bl b)) : v = .bl b := by
  rcases h with h | ⟨_, _, _, e, _⟩
  · cases h; rfl
  · cases e
theorem RepP.str {z : Str} (h : RepP Z H R v (.str z)) : v = .str z := by
  rcases h with h | ⟨_, _, _, e, _⟩
  · cases h; rfl
  · cases e
theorem RepP.non (h : RepP Z H R v .non) : v = .non := by
  rcases h with h | ⟨_, _, _, e, _⟩
  · cases h; rfl
  · cases e
theorem RepP.lst {ds : List D} (h : RepP Z H R v (.lst ds)) : ∃ a xs, v = .ref a ∧ SqL Z.K H a xs ∧ RepL Z H R xs ds := by
  rcases h with h | ⟨ds', a, xs, e, e2, h1, h2⟩
  · cases h with
    | lst a b => exact ⟨_, _, rfl, a.sq, b⟩
  · cases e; exact ⟨a, xs, e2, SqL.of h1, h2⟩
theorem RepP.tup {ds : List D} (h : RepP Z H R v (.tup ds)) : ∃ a xs, v = .ref a ∧ AtT Z.K H R a xs ∧ RepL Z H R xs ds := by
  rcases h with h | ⟨_, _, _, e, _⟩
  · cases h with
    | tup a b => exact ⟨_, _, rfl, a, b⟩
  · cases e
theorem RepP.ins {c : Nat} {fs : List D} (h : RepP Z H R v (.ins c fs)) : Rep Z H R v (.ins c fs) := by
  rcases h with h | ⟨_, _, _, e, _⟩
  · exact h
  · cases e
theorem RepP.dp {d : D} {p : PyData} (h : RepP Z H R v d) (e : d.py = some p) : Dq Z.K H v p := by
  rcases h with h | ⟨ds, a, xs, rfl, rfl, h1, h2⟩
  · exact h.dp e
  · unfold D.py at e
    cases q : D.pys ds with
    | none => rw [q] at e; cases e
    | some l => rw [q] at e; cases e; exact .lst (SqL.of h1) (h2.dp q)
theorem repPs1 {ds : List D} (h : RepPs Z H R [x] ds) : ∃ d, ds = [d] ∧ RepP Z H R x d := by
  cases ds with
  | nil => exact h.elim
  | cons d r =>
    cases r with
    | nil => exact ⟨d, rfl, h.1⟩
    | cons _ _ => exact h.2.elim
theorem repPs2 {ds : List D} (h : RepPs Z H R [x, y] ds) : ∃ d e, ds = [d, e] ∧ RepP Z H R x d ∧ RepP Z H R y e := by
  cases ds with
  | nil => exact h.elim
  | cons d r =>
    obtain ⟨e, rfl, h2⟩ := repPs1 h.2
    exact ⟨d, e, rfl, h.1, h2⟩
theorem repPs3 {z : V} {ds : List D} (h : RepPs Z H R [x, y, z] ds) : ∃ d e f, ds = [d, e, f] ∧ RepP Z H R x d ∧ RepP Z H R y e ∧ RepP Z H R z f := by
  cases ds with
  | nil => exact h.elim
  | cons d r =>
    obtain ⟨e, f, rfl, h2, h3⟩ := repPs2 h.2
    exact ⟨d, e, f, rfl, h.1, h2, h3⟩
theorem opI_inv {f : Int → Int → Option Int} {ds : List D} {nw : Bool} {d : D} (h : opI f ds = some (nw, d)) : ∃ a b c, ds = [.int a, .int b] ∧ f a b = some c ∧ nw = false ∧ d = .int c := by
  unfold opI at h
  split at h
  · rename_i a b
    cases e : f a b with
    | none => rw [e] at h; cases h
    | some c => rw [e] at h; cases h; exact ⟨a, b, c, rfl, e, rfl, rfl⟩
  · cases h
theorem cmpI_inv {f : Int → Int → Bool} {ds : List D} {nw : Bool} {d : D} (h : cmpI f ds = some (nw, d)) : ∃ a b, ds = [.int a, .int b] ∧ nw = false ∧ d = .bl (f a b) := by
  unfold cmpI at h
  split at h
  · cases h; exact ⟨_, _, rfl, rfl, rfl⟩
  · cases h
/-- two ints by a function -/
theorem pr_opI {p : P} {f : Int → Int → Option Int} (hp : evP p = opI f) {C : Int → Int → Prop} {g : Int → Int → Int} (hc : ∀ a b c, f a b = some c → C a b ∧ c = g a b) (h : PrimPost Z p [x, y] H Q) : rI C (fun i j => .int (g i j)) x y H Q := by
  obtain ⟨R, ds, ht, hr, nw, d, e, k⟩ := h
  rw [hp] at e
  obtain ⟨a, b, c, rfl, e2, rfl, rfl⟩ := opI_inv e
  obtain ⟨d1, d2, e3, r1, r2⟩ := repPs2 hr
  cases e3
  obtain ⟨h1, rfl⟩ := hc a b c e2
  exact ⟨a, b, r1.int, r2.int, h1, k _ H (Same.refl H) (.int _)⟩
theorem pr_cmpI {p : P} {f : Int → Int → Bool} (hp : evP p = cmpI f) (h : PrimPost Z p [x, y] H Q) : rI0 (fun i j => .bl (f i j)) x y H Q := by
  obtain ⟨R, ds, ht, hr, nw, d, e, k⟩ := h
  rw [hp] at e
  obtain ⟨a, b, rfl, rfl, rfl⟩ := cmpI_inv e
  obtain ⟨d1, d2, e3, r1, r2⟩ := repPs2 hr
  cases e3
  exact ⟨a, b, r1.int, r2.int, k _ H (Same.refl H) (.bl _)⟩
theorem rI_rI0 {g : Int → Int → V} (h : rI (fun _ _ => True) g x y H Q) : rI0 g x y H Q := by
  obtain ⟨i, j, h1, h2, _, q⟩ := h
  exact ⟨i, j, h1, h2, q⟩
theorem pr_sub (h : PrimPost Z .sub [x, y] H Q) : rI0 (fun i j => .int (i - j)) x y H Q := rI_rI0 (pr_opI (p := .sub) (C := fun _ _ => True) (g := fun i j => i - j) rfl (fun a b c e => ⟨trivial, (Option.some.inj e).symm⟩) h)
theorem pr_mod (h : PrimPost Z .mod [x, y] H Q) : rI (fun _ j => j ≠ 0) (fun i j => .int (i.fmod j)) x y H Q := pr_opI (p := .mod) (g := fun i j => i.fmod j) rfl (fun a b c e => by
  split at e
  · rename_i hb; exact ⟨hb, (Option.some.inj e).symm⟩
  · cases e) h
def CDivM (i j : Int) : Prop := j ≠ 0 ∧ (j.natAbs.log2 < 9000 ∨ i.natAbs.log2 < j.natAbs.log2 + 4400)
theorem noPy {x y : Int} (h : y ≠ 0) (k : y.natAbs.log2 < 9000 ∨ x.natAbs.log2 < y.natAbs.log2 + 4400) : Builtin.divisionGoesByPylong x y = false := by
  rcases k with k | k
  · exact PyProof.noPylong_of_log2 k
  · have dx : (if x == 0 then 0 else x.natAbs.log2 / 30 + 1) ≤ x.natAbs.log2 / 30 + 1 := by split <;> omega
    have dy : (if y == 0 then 0 else y.natAbs.log2 / 30 + 1) = y.natAbs.log2 / 30 + 1 := by rw [if_neg (by simpa using h)]
    show (_ && decide ((if x == 0 then 0 else x.natAbs.log2 / 30 + 1) > (if y == 0 then 0 else y.natAbs.log2 / 30 + 1) + 150)) = false
    rw [Bool.and_eq_false_iff]
    exact .inr (decide_eq_false (by rw [dy]; omega))
theorem op_fdivM {X : Cx} : OpR X (binaryOp .FloorDiv) (rI CDivM fun i j => .int (i.fdiv j)) := L2.opI fun i j _ _ _ _ _ hc q => floordiv_int hc.1 q (.inl (noPy hc.1 hc.2))
theorem pr_fdiv (h : PrimPost Z .fdiv [x, y] H Q) : rI CDivM (fun i j => .int (i.fdiv j)) x y H Q := pr_opI (p := .fdiv) (g := fun i j => i.fdiv j) rfl (fun a b c e => by
  split at e
  · rename_i hb; exact ⟨hb, (Option.some.inj e).symm⟩
  · cases e) h
theorem pr_pow (h : PrimPost Z .pow [x, y] H Q) : rI CPow (fun i j => .int (i ^ j.toNat)) x y H Q := pr_opI (p := .pow) (g := fun i j => i ^ j.toNat) rfl (fun a b c e => by
  split at e
  · rename_i hb; exact ⟨hb, (Option.some.inj e).symm⟩
  · cases e) h
theorem pr_max2 (h : PrimPost Z .max2 [x, y] H Q) : ∃ i j, [x, y] = [.int i, .int j] ∧ Q (.int (if j > i then j else i)) H := by
  obtain ⟨i, j, rfl, rfl, _, q⟩ := pr_opI (p := .max2) (C := fun _ _ => True) (g := fun i j => if j > i then j else i) rfl (fun a b c e => ⟨trivial, (Option.some.inj e).symm⟩) h
  exact ⟨i, j, rfl, q⟩
theorem pr_min2 (h : PrimPost Z .min2 [x, y] H Q) : ∃ i j, [x, y] = [.int i, .int j] ∧ Q (.int (if j < i then j else i)) H := by
  obtain ⟨i, j, rfl, rfl, _, q⟩ := pr_opI (p := .min2) (C := fun _ _ => True) (g := fun i j => if j < i then j else i) rfl (fun a b c e => ⟨trivial, (Option.some.inj e).symm⟩) h
  exact ⟨i, j, rfl, q⟩
theorem pr_neg (h : PrimPost Z .neg [x] H Q) : rU (fun i => .int (-i)) x H Q := by
  obtain ⟨R, ds, ht, hr, nw, d, e, k⟩ := h
  obtain ⟨d1, rfl, r1⟩ := repPs1 hr
  cases d1 <;> first | cases e | skip
  rename_i i
  exact ⟨i, r1.int, k _ H (Same.refl H) (.int _)⟩
theorem pr_abs (h : PrimPost Z .abs [x] H Q) : ∃ i, [x] = [V.int i] ∧ Q (.int (if i < 0 then -i else i)) H := by
  obtain ⟨R, ds, ht, hr, nw, d, e, k⟩ := h
  obtain ⟨d1, rfl, r1⟩ := repPs1 hr
  cases d1 <;> first | cases e | skip
  rename_i i
  exact ⟨i, by rw [r1.int], k _ H (Same.refl H) (.int _)⟩
theorem pr_int (h : PrimPost Z .int [x] H Q) : ((∃ i, [x] = [V.int i] ∧ Q (.int i) H) ∨ ∃ k, [x] = [V.bl k] ∧ Q (.int (if k then 1 else 0)) H) ∨ ∃ a n, [x] = [V.str a] ∧ PySem.intText? a = some n ∧ a.length ≤ 640 ∧ Q (.int n) H := by
  obtain ⟨R, ds, ht, hr, nw, d, e, k⟩ := h
  obtain ⟨d1, rfl, r1⟩ := repPs1 hr
  cases d1 <;> first | (cases e; done) | skip
  · rename_i b
    cases e
    exact .inl (.inr ⟨b, by rw [r1.bl], k _ H (Same.refl H) (.int _)⟩)
  · rename_i i
    cases e
    exact .inl (.inl ⟨i, by rw [r1.int], k _ H (Same.refl H) (.int _)⟩)
  · rename_i a
    have e : (match PySem.intText? a with | some n => if a.length ≤ 640 then some (false, D.int n) else none | none => none) = some (nw, d) := e
    cases hn : PySem.intText? a with
    | none => rw [hn] at e; cases e
    | some n =>
      rw [hn] at e
      have e : (if a.length ≤ 640 then some (false, D.int n) else none) = some (nw, d) := e
      by_cases hl : a.length ≤ 640
      · rw [if_pos hl] at e; cases e
        exact .inr ⟨a, n, by rw [r1.str], hn, hl, k _ H (Same.refl H) (.int _)⟩
      · rw [if_neg hl] at e; cases e
theorem isNon_iff {d : D} (h : RepP Z H R v d) : isNon d = decide (v = .non) := by
  rcases h with h | ⟨ds, a, xs, rfl, rfl, _⟩
  · cases h <;> rfl
  · rfl
theorem pr_isN (h : PrimPost Z .isN [x] H Q) : Q (.bl (decide (x = .non))) H := by
  obtain ⟨R, ds, ht, hr, nw, d, e, k⟩ := h
  obtain ⟨d1, rfl, r1⟩ := repPs1 hr
  cases e
  rw [← isNon_iff r1]
  exact k _ H (Same.refl H) (.bl _)
theorem pr_notN (h : PrimPost Z .notN [x] H Q) : Q (.bl (!decide (x = .non))) H := by
  obtain ⟨R, ds, ht, hr, nw, d, e, k⟩ := h
  obtain ⟨d1, rfl, r1⟩ := repPs1 hr
  cases e
  rw [← isNon_iff r1]
  exact k _ H (Same.refl H) (.bl _)
theorem dEq_inv {a b : D} {c : Bool} (h : dEq a b = some c) : ∃ p q, a.py = some p ∧ b.py = some q ∧ SeqAt.shaped p = true ∧ SeqAt.shaped q = true ∧ c = PyData.eqv p q := by
  unfold dEq at h
  split at h
  · rename_i p q h1 h2
    split at h
    · rename_i hs
      cases h
      exact ⟨p, q, h1, h2, (Bool.and_eq_true_iff.mp hs).1, (Bool.and_eq_true_iff.mp hs).2, rfl⟩
    · cases h
  · cases h
theorem pr_eq (h : PrimPost Z .eq [x, y] H Q) : rEqD Z.K x y H Q := by
  obtain ⟨R, ds, ht, hr, nw, d, e, k⟩ := h
  obtain ⟨d1, d2, rfl, r1, r2⟩ := repPs2 hr
  obtain ⟨c, e1, e2⟩ := Option.map_eq_some_iff.mp (show (dEq d1 d2).map _ = _ from e)
  cases e2
  obtain ⟨p, q, h1, h2, h3, h4, rfl⟩ := dEq_inv e1
  exact ⟨p, q, (r1.dp h1).shaped h3, (r2.dp h2).shaped h4, h3, h4, k _ H (Same.refl H) (.bl _)⟩
theorem pr_ne (h : PrimPost Z .ne [x, y] H Q) : rNeD Z.K x y H Q := by
  obtain ⟨R, ds, ht, hr, nw, d, e, k⟩ := h
  obtain ⟨d1, d2, rfl, r1, r2⟩ := repPs2 hr
  obtain ⟨c, e1, e2⟩ := Option.map_eq_some_iff.mp (show (dEq d1 d2).map _ = _ from e)
  cases e2
  obtain ⟨p, q, h1, h2, h3, h4, rfl⟩ := dEq_inv e1
  exact ⟨p, q, (r1.dp h1).shaped h3, (r2.dp h2).shaped h4, h3, h4, k _ H (Same.refl H) (.bl _)⟩
theorem atI_len {α β : Type} {xs : List α} {ys : List β} {i : Int} {d : β} (hl : xs.length = ys.length) (h : atI ys i = some d) : ∃ j : Nat, ys[j]? = some d ∧ ∀ v, xs[j]? = some v → atI xs i = some v := by
  unfold atI at h
  cases e : ixN ys.length i with
  | none => rw [e] at h; cases h
  | some j =>
    rw [e] at h
    refine ⟨j, h, fun v hv => ?_⟩
    unfold atI
    rw [hl, e]
    exact hv
theorem pr_idx (h : PrimPost Z .idx [x, y] H Q) : rIx Z.K x y H Q := by
  obtain ⟨R, ds, ht, hr, nw, d, e, k⟩ := h
  obtain ⟨d1, d2, rfl, r1, r2⟩ := repPs2 hr
  cases d1 <;> first | (cases e; done) | skip
  · cases d2 <;> first | (cases e; done) | skip
    rename_i z i
    simp only [evP] at e
    split at e
    · rename_i hz
      split at e
      · rename_i c hc
        cases e
        exact .inr (.inr ⟨z, i, c, r1.str, r2.int, hz, hc, k _ H (Same.refl H) (.str _)⟩)
      · cases e
    · cases e
  · cases d2 <;> first | (cases e; done) | skip
    rename_i ys i
    simp only [evP] at e
    split at e
    · rename_i c hc
      cases e
      obtain ⟨a, xs, rfl, h1, h2⟩ := r1.tup
      obtain ⟨j, hj, hv⟩ := atI_len h2.length hc
      obtain ⟨v, hv1, hv2⟩ := h2.get hj
      exact .inr (.inl ⟨a, xs, i, v, rfl, r2.int, h1.sq, hv v hv1, k _ H (Same.refl H) hv2⟩)
    · cases e
  · cases d2 <;> first | (cases e; done) | skip
    rename_i ys i
    simp only [evP] at e
    split at e
    · rename_i c hc
      cases e
      obtain ⟨a, xs, rfl, h1, h2⟩ := r1.lst
      obtain ⟨j, hj, hv⟩ := atI_len h2.length hc
      obtain ⟨v, hv1, hv2⟩ := h2.get hj
      exact .inl ⟨a, xs, i, v, rfl, r2.int, h1, hv v hv1, k _ H (Same.refl H) hv2⟩
    · cases e
theorem pr_len (h : PrimPost Z .len [x] H Q) : (∃ p ys, [x] = [V.ref p] ∧ (SqL Z.K H p ys ∨ SqT Z.K H p ys) ∧ Q (.int ys.length) H) ∨ (∃ z, [x] = [V.str z] ∧ z.length ≤ sizeLine ∧ Q (.int z.length) H) := by
  obtain ⟨R, ds, ht, hr, nw, d, e, k⟩ := h
  obtain ⟨d1, rfl, r1⟩ := repPs1 hr
  cases d1 <;> first | (cases e; done) | skip
  · rename_i z
    simp only [evP] at e
    split at e
    · rename_i hz
      cases e
      exact .inr ⟨z, by rw [r1.str], hz, k _ H (Same.refl H) (.int _)⟩
    · cases e
  · cases e
    obtain ⟨a, xs, rfl, h1, h2⟩ := r1.tup
    exact .inl ⟨a, xs, rfl, .inr h1.sq, by rw [h2.length]; exact k _ H (Same.refl H) (.int _)⟩
  · cases e
    obtain ⟨a, xs, rfl, h1, h2⟩ := r1.lst
    exact .inl ⟨a, xs, rfl, .inl h1, by rw [h2.length]; exact k _ H (Same.refl H) (.int _)⟩
theorem same_upd {p : Addr} {o : HO} (hn : H p = none) : Same H (upd H p o) := fun b u e => by rw [upd_ne (ne_of_none e hn)]; exact e
/-- a new tuple -/
theorem rep_new_tup {xs : List V} {ds : List D} {p : Addr} (ht : ∀ b, R b → H b ≠ none) (hn : H p = none) (h : RepL Z H R xs ds) : Rep Z (upd H p (.tup xs)) R (.ref p) (.tup ds) :=
  .tup (.inl ⟨.inl upd_same, fun z => ht p z hn⟩) (h.lat (Lat.same (same_upd hn)))
/-- a new list -/
theorem repN_new_lst {xs : List V} {ds : List D} {p : Addr} (hn : H p = none) (h : RepL Z H R xs ds) : RepN Z H (upd H p (.lst xs)) R (.ref p) true (.lst ds) :=
  ⟨p, xs, ds, H, rfl, rfl, Same.refl H, same_upd hn, hn, upd_same, h⟩
theorem pr_tuple (h : PrimPost Z .tuple [x] H Q) : ∃ p ys, [x] = [V.ref p] ∧ ((SqL Z.K H p ys ∧ ∀ l, H l = none → Q (.ref l) (upd H l (.tup ys))) ∨ (SqT Z.K H p ys ∧ Q (.ref p) H)) := by
  obtain ⟨R, ds, ht, hr, nw, d, e, k⟩ := h
  obtain ⟨d1, rfl, r1⟩ := repPs1 hr
  cases d1 <;> first | (cases e; done) | skip
  · cases e
    obtain ⟨a, xs, rfl, h1, h2⟩ := r1.tup
    exact ⟨a, xs, rfl, .inr ⟨h1.sq, k _ H (Same.refl H) (.tup h1 h2)⟩⟩
  · cases e
    obtain ⟨a, xs, rfl, h1, h2⟩ := r1.lst
    exact ⟨a, xs, rfl, .inl ⟨h1, fun l hl => k _ _ (same_upd hl) (rep_new_tup ht.2 hl h2)⟩⟩
theorem onLst_inv {α : Type} {f : List D → Option α} {g : α → Option (Bool × D)} {ds : List D} {r : Bool × D} (h : onLst f g ds = some r) : ∃ xs l, ds = [.lst xs] ∧ f xs = some l ∧ g l = some r := by
  unfold onLst at h
  split at h
  · rename_i xs
    cases e : f xs with
    | none => rw [e] at h; cases h
    | some l => rw [e] at h; exact ⟨xs, l, rfl, e, h⟩
  · cases h
theorem repL_strs : ∀ {ds : List D} {vs : List V} {l : List Str}, RepL Z H R vs ds → strsOf ds = some l → vs = l.map V.str
  | [], _, _, h, e => by cases h; cases e; rfl
  | .str i :: ds, _, l, h, e => by
    cases h with
    | cons a b =>
      cases a
      unfold strsOf at e
      cases q : strsOf ds with
      | none => rw [q] at e; cases e
      | some l' => rw [q] at e; cases e; rw [repL_strs b q]; rfl
  | .non :: _, _, _, _, e => by cases e
  | .bl _ :: _, _, _, _, e => by cases e
  | .int _ :: _, _, _, _, e => by cases e
  | .tup _ :: _, _, _, _, e => by cases e
  | .lst _ :: _, _, _, _, e => by cases e
  | .ins _ _ :: _, _, _, _, e => by cases e
theorem repL_of_strs : ∀ (l : List Str), RepL Z H R (l.map V.str) (l.map D.str)
  | [] => .nil
  | a :: l => .cons (.str a) (repL_of_strs l)
theorem pr_strI (h : PrimPost Z .strI [x] H Q) : ∃ i : Int, [x] = [V.int i] ∧ i.natAbs.log2 < 1920 ∧ Q (.str (toString i)) H := by
  obtain ⟨R, ds, ht, hr, nw, d, e, k⟩ := h
  obtain ⟨d1, rfl, r1⟩ := repPs1 hr
  cases d1 with
  | int i =>
    by_cases hi : i.natAbs.log2 < 1920
    · have e : (if i.natAbs.log2 < 1920 then some (false, D.str (toString i)) else none) = some (nw, d) := e
      rw [if_pos hi] at e
      cases e
      exact ⟨i, by rw [r1.int], hi, k _ H (Same.refl H) (.str _)⟩
    · have e : (if i.natAbs.log2 < 1920 then some (false, D.str (toString i)) else none) = some (nw, d) := e
      rw [if_neg hi] at e
      cases e
  | _ => cases e
theorem pr_join {y : V} (h : PrimPost Z .join [x, y] H Q) : ∃ a p, ∃ ys : List Str, x = .str a ∧ [y] = [.ref p] ∧ (SqL Z.K H p (ys.map V.str) ∨ SqT Z.K H p (ys.map V.str)) ∧ (ys.map (·.length)).sum + ys.length * a.length ≤ 16777216 ∧ Q (.str (PySem.Txt.join a ys)) H := by
  obtain ⟨R, ds, ht, hr, nw, d, e, k⟩ := h
  obtain ⟨d1, d2, rfl, r1, r2⟩ := repPs2 hr
  have key : ∀ {a : Str} {ys : List D}, joinD a ys = some (nw, d) → ∃ l, strsOf ys = some l ∧ (l.map (·.length)).sum + l.length * a.length ≤ 16777216 ∧ nw = false ∧ d = .str (PySem.Txt.join a l) := by
    intro a ys e
    unfold joinD at e
    cases q : strsOf ys with
    | none => rw [q] at e; cases e
    | some l =>
      rw [q] at e
      dsimp only at e
      by_cases hl : (l.map (·.length)).sum + l.length * a.length ≤ 16777216
      · rw [if_pos hl] at e; cases e; exact ⟨l, rfl, hl, rfl, rfl⟩
      · rw [if_neg hl] at e; cases e
  cases d1 with
  | str a =>
    cases d2 with
    | lst ys =>
      obtain ⟨l, h1, h2, rfl, rfl⟩ := key (show joinD a ys = _ from e)
      obtain ⟨p, xs, rfl, h3, h4⟩ := r2.lst
      obtain rfl := repL_strs h4 h1
      exact ⟨a, p, l, r1.str, rfl, .inl h3, h2, k _ H (Same.refl H) (.str _)⟩
    | tup ys =>
      obtain ⟨l, h1, h2, rfl, rfl⟩ := key (show joinD a ys = _ from e)
      obtain ⟨p, xs, rfl, h3, h4⟩ := r2.tup
      obtain rfl := repL_strs h4 h1
      exact ⟨a, p, l, r1.str, rfl, .inr h3.sq, h2, k _ H (Same.refl H) (.str _)⟩
    | _ => cases e
  | _ => cases e
theorem pr_split {y : V} (h : PrimPost Z .split [x, y] H Q) : ∃ a b : Str, x = .str a ∧ [y] = [.str b] ∧ (b.length == 0) = false ∧ a.length + 2 ≤ sizeLine ∧ rNewStrs (PySem.Txt.split a b) H Q := by
  obtain ⟨R, ds, ht, hr, nw, d, e, k⟩ := h
  obtain ⟨d1, d2, rfl, r1, r2⟩ := repPs2 hr
  cases d1 with
  | str a =>
    cases d2 with
    | str b =>
      have e : (if (b.length == 0) = false ∧ a.length + 2 ≤ sizeLine then some (true, D.lst ((PySem.Txt.split a b).map D.str)) else none) = some (nw, d) := e
      by_cases hc : (b.length == 0) = false ∧ a.length + 2 ≤ sizeLine
      · rw [if_pos hc] at e
        cases e
        exact ⟨a, b, r1.str, by rw [r2.str], hc.1, hc.2, fun p hp => k _ _ (same_upd hp) (repN_new_lst hp (repL_of_strs _))⟩
      · rw [if_neg hc] at e; cases e
    | _ => cases e
  | _ => cases e
theorem pr_sum (h : PrimPost Z .sum [x] H Q) : rSum Z.K [x] H Q := by
  obtain ⟨R, ds, ht, hr, nw, d, e, k⟩ := h
  obtain ⟨xs, l, rfl, e1, e2⟩ := onLst_inv (show onLst intsOf sumL ds = _ from e)
  obtain ⟨d1, e3, r1⟩ := repPs1 hr
  cases e3
  obtain ⟨a, ys, rfl, h1, h2⟩ := r1.lst
  obtain rfl := h2.ints e1
  cases e2
  exact ⟨a, l, rfl, h1, k _ H (Same.refl H) (.int _)⟩
theorem pr_all (h : PrimPost Z .all [x] H Q) : rAll Z.K [x] H Q := by
  obtain ⟨R, ds, ht, hr, nw, d, e, k⟩ := h
  obtain ⟨xs, l, rfl, e1, e2⟩ := onLst_inv (show onLst blsOf allL ds = _ from e)
  obtain ⟨d1, e3, r1⟩ := repPs1 hr
  cases e3
  obtain ⟨a, ys, rfl, h1, h2⟩ := r1.lst
  obtain rfl := h2.bls e1
  cases e2
  exact ⟨a, l, rfl, h1, k _ H (Same.refl H) (.bl _)⟩
theorem pr_divmod (h : PrimPost Z .divmod [x, y] H Q) : ∃ i j, [x, y] = [V.int i, V.int j] ∧ CDiv i j ∧ ∀ p, H p = none → Q (.ref p) (upd H p (.tup [.int (i / j), .int (i % j)])) := by
  obtain ⟨R, ds, ht, hr, nw, d, e, k⟩ := h
  obtain ⟨d1, d2, rfl, r1, r2⟩ := repPs2 hr
  cases d1 <;> first | (cases e; done) | skip
  cases d2 <;> first | (cases e; done) | skip
  rename_i i j
  simp only [evP] at e
  split at e
  · rename_i hc
    cases e
    exact ⟨i, j, by rw [r1.int, r2.int], hc, fun p hp => k _ _ (same_upd hp) (rep_new_tup ht.2 hp (.cons (.int _) (.cons (.int _) .nil)))⟩
  · cases e
end
end M

set_option Elab.async false
set_option linter.all false
set_option maxRecDepth 100000
set_option maxHeartbeats 4000000
/-! A5: +, *, slices, isinstance. -/
namespace M
open PySem L2 PyProof.Rows
section
variable {X : Cx}
/-- list + list, whatever they stand in -/
def rCatL (K : PySem.W.Frag) : R2 := fun x y H Q => ∃ l b xs zs, x = .ref l ∧ y = .ref b ∧ SqL K H l xs ∧ SqL K H b zs ∧ xs.length + zs.length ≤ sizeLine ∧ ∀ p, H p = none → Q (.ref p) (upd H p (.lst (xs ++ zs)))
theorem op_catL : OpR X (binaryOp .Add) (rCatL X.K) := by
  intro pins s σ H x y v u Q I rx ry h
  obtain ⟨l, b, xs, zs, rfl, rfl, hH, hB, hz, q⟩ := h
  cases rx
  cases ry
  obtain ⟨its, r, ⟨⟨cls, dd, data, sl⟩, n, ho, hc, hd, he⟩, z⟩ := I.list hH
  obtain ⟨its2, r2, ⟨⟨cls2, dd2, data2, sl2⟩, n2, ho2, hc2, hd2, he2⟩, z2⟩ := I.list hB
  simp only at hc hd he hc2 hd2 he2
  subst hc hd he hc2 hd2 he2
  have e : its.toArray ++ its2.toArray = (its ++ its2).toArray := by simp
  have hl := r.length
  have hl2 := r2.length
  refine concat_meets ⟨_, ho, rfl⟩ ⟨_, ho2, rfl⟩ noFill_list_add seq_list_add PySem.F.slot_list_add PySem.F.entry_list_add (PySem.F.args_list_add_2 _ _) (list_addW l b its.toArray its2.toArray n n2 none none sl sl2 (by rw [List.size_toArray, List.size_toArray]; omega)) ⟨ho, ho2, ?_⟩
  rw [e]
  exact ⟨.ref _, _, I.lnew (t' := s.toks) (r.append r2) (by rw [List.length_append]; omega), rfl, q _ I.fresh⟩
theorem tuple_mul1 (l : Addr) (items : Array Value) (n : Nat) (dd : Option Addr) (sl : Array (Option Value)) (u : Tok) :
    Meets (Builtin.«tuple.__mul__» ⟨[.ref l, .int 1 u], []⟩) (fun _ R s => s.heap.get? l = some { cls := .type "tuple", dict := dd, data := .seq items n, slots := sl } ∧ R (.ok (.ret (Value.ref l))) s) :=
  .of_wp fun prog w A R s h => by
    obtain ⟨hp, g, d, tk, os⟩ := s
    obtain ⟨hl, h⟩ := h
    have f1 := AutoSeq1.idx_int
    wp_walk using wpAny_loadPart' hl
    exact ⟨_, rfl, h⟩
theorem tuple_mul0 (l : Addr) (items : Array Value) (n : Nat) (dd : Option Addr) (sl : Array (Option Value)) (u : Tok) (hi : items.isEmpty = false) :
    Meets (Builtin.«tuple.__mul__» ⟨[.ref l, .int 0 u], []⟩) (fun _ R s => s.heap.get? l = some { cls := .type "tuple", dict := dd, data := .seq items n, slots := sl } ∧
      R (.ok (.ret (Value.ref s.heap.objs.size))) { s with heap := s.heap.push { cls := Value.type "tuple", data := Data.seq #[] }, toks := s.toks }) :=
  .of_wp fun prog w A R s h => by
    obtain ⟨hp, g, d, tk, os⟩ := s
    obtain ⟨hl, h⟩ := h
    have f1 := AutoSeq1.idx_int
    wp_walk using wpAny_loadPart' hl
    exact ⟨_, rfl, h⟩
/-- tuple * int, 0 and 1 too -/
def rRepA (K : PySem.W.Frag) : R2 := fun x y H Q => ∃ l k xs, x = .ref l ∧ y = .int k ∧ SqT K H l xs ∧ xs ≠ [] ∧ 0 ≤ k ∧ k ≤ 1000 ∧ xs.length ≤ 1000 ∧ (k = 1 → Q (.ref l) H) ∧ ∀ p, H p = none → Q (.ref p) (upd H p (.tup (List.replicate k.toNat xs).flatten))
theorem op_repA : OpR X (binaryOp .Mult) (rRepA X.K) := by
  intro pins s σ H x y v u Q I rx ry h
  obtain ⟨l, k, xs, rfl, rfl, hT, hne, h1, h2, hz, q1, q⟩ := h
  by_cases hk : 2 ≤ k
  · exact op_repT pins s σ H _ _ v u Q I rx ry ⟨l, k, xs, rfl, rfl, hT, hne, hk, h2, hz, q⟩
  cases rx
  obtain ⟨t, rfl⟩ := ry
  obtain ⟨its, r, ⟨⟨cls, dd, data, sl⟩, ho, hc, n, hd⟩, hs⟩ := I.tuple hT
  simp only at hc hd
  subst hc hd
  have hle : its.length = xs.length := r.length.symm
  have hi : its.toArray.isEmpty = false := by
    cases its with
    | nil => exact absurd (List.eq_nil_of_length_eq_zero hle.symm) hne
    | cons a b => rfl
  by_cases hk1 : k = 1
  · subst hk1
    refine wpAny_binaryOp_repeat_ref (T := "tuple") (U := "int") (by decide) ⟨_, ho, rfl⟩ (fun s' => typeIs_int s' 1 t) noFill_tuple_mul PySem.F.fills_int_mul PySem.F.slot_int_rmul repeat_tuple PySem.F.slot_int_index.lookup
      (call_meets PySem.F.slot_int_rmul (typeIs_int s 1 t) PySem.F.entry_int_rmul (PySem.F.args_int_rmul_2 _ _) (int_rmul_tuple 1 t l its.toArray n dd sl)
        ⟨ho, rfl, ⟨_, ho, rfl⟩, call_meets PySem.F.slot_tuple_mul ⟨_, ho, rfl⟩ PySem.F.entry_tuple_mul (PySem.F.args_tuple_mul_2 _ _) (tuple_mul1 l its.toArray n dd sl t) ⟨ho, ?_⟩⟩)
    exact ⟨.ref l, H, I, rfl, q1 rfl⟩
  · have hk0 : k = 0 := by omega
    subst hk0
    refine wpAny_binaryOp_repeat_ref (T := "tuple") (U := "int") (by decide) ⟨_, ho, rfl⟩ (fun s' => typeIs_int s' 0 t) noFill_tuple_mul PySem.F.fills_int_mul PySem.F.slot_int_rmul repeat_tuple PySem.F.slot_int_index.lookup
      (call_meets PySem.F.slot_int_rmul (typeIs_int s 0 t) PySem.F.entry_int_rmul (PySem.F.args_int_rmul_2 _ _) (int_rmul_tuple 0 t l its.toArray n dd sl)
        ⟨ho, rfl, ⟨_, ho, rfl⟩, call_meets PySem.F.slot_tuple_mul ⟨_, ho, rfl⟩ PySem.F.entry_tuple_mul (PySem.F.args_tuple_mul_2 _ _) (tuple_mul0 l its.toArray n dd sl t hi) ⟨ho, ?_⟩⟩)
    refine ⟨.ref s.heap.objs.size, _, I.laid (t' := s.toks) (o := .tup []) (fun b ob q => Heap.get?_push_of_some _ q) (Nat.le_refl _) ?_, rfl, q _ (I.hok.fresh (Nat.le_refl _))⟩
    exact ⟨Nat.zero_le _, [], .nil, IsTup.new _ _⟩
theorem list_mulW (l : Addr) (items : Array Value) (n : Nat) (sl : Array (Option Value)) (x : Int) (u : Tok) (hf : ¬(!Builtin.List.listFitsIndex x) = true) (hc : ¬items.size * x.toNat > (2 ^ 63 - 1) / 8) (ht : ¬Builtin.List.listTooLong (items.size * x.toNat) = true) :
    Meets (Builtin.«list.__mul__» ⟨[.ref l, .int x u], []⟩) (fun _ R s =>
      s.heap.get? l = some { cls := .type "list", dict := none, data := .seq items n, slots := sl } ∧
      R (.ok (.ret (Value.ref s.heap.objs.size)))
        { s with heap := s.heap.push { cls := Value.type "list", data := Data.seq (List.foldl (fun a b => a ++ b) #[] (List.replicate (if items.isEmpty = true then 0 else x.toNat) items)) }, toks := s.toks }) :=
  .of_wp fun prog w A R s h => by
    obtain ⟨hp, g, d, tk, os⟩ := s
    obtain ⟨hl, h⟩ := h
    have hz := PySem.AutoListH.joined_fits ht
    wp_walk using wpAny_loadPart' hl
    refine wpAny_ite_false (decide_eq_false (Nat.not_lt.mpr hz)) ?_
    wp_walk
    exact ⟨_, rfl, h⟩
theorem int_rmulW (a : Int) (t : Tok) (l : Addr) (items : Array Value) (n : Nat) (sl : Array (Option Value)) :
    Meets (Builtin.«int.__rmul__» ⟨[.int a t, .ref l], []⟩) (fun _ R s =>
      s.heap.get? l = some { cls := .type "list", dict := none, data := .seq items n, slots := sl } ∧ R (.ok (.ret Value.notImplemented)) s) :=
  .of_wp fun prog w A R s h => by
    obtain ⟨hp, g, d, tk, os⟩ := s
    obtain ⟨hl, h⟩ := h
    wp_walk
    exact ⟨_, rfl, h⟩
def rRepLA (K : PySem.W.Frag) : R2 := fun x y H Q => ∃ l k xs, x = .ref l ∧ y = .int k ∧ SqL K H l xs ∧ 0 ≤ k ∧ k ≤ 300 ∧ xs.length ≤ 300 ∧ ∀ p, H p = none → Q (.ref p) (upd H p (.lst (List.replicate k.toNat xs).flatten))
theorem op_repLA : OpR X (binaryOp .Mult) (rRepLA X.K) := by
  intro pins s σ H x y v u Q I rx ry h
  obtain ⟨l, k, xs, rfl, rfl, hH, h0, h1, hz, q⟩ := h
  cases rx
  obtain ⟨t, rfl⟩ := ry
  obtain ⟨its, r, ⟨⟨cls, dd, data, sl⟩, n, ho, hc, hd, he⟩, z⟩ := I.list hH
  simp only at hc hd he
  subst hc hd he
  have hle := r.length
  have hprod : its.toArray.size * k.toNat ≤ 90000 := by
    rw [List.size_toArray, ← hle]
    exact Nat.mul_le_mul hz (show k.toNat ≤ 300 by omega)
  have hfit : ¬ (!Builtin.List.listFitsIndex k) = true := by
    rw [fitsIndex_both (by omega) (by omega)]
    exact Bool.false_ne_true
  have hlong : ¬ Builtin.List.listTooLong (its.toArray.size * k.toNat) = true := by
    rw [notLongL (Nat.le_trans hprod (by decide))]
    exact Bool.false_ne_true
  have key : ∀ m : Nat, List.foldl (fun a b => a ++ b) #[] (List.replicate m its.toArray) = (List.replicate m its).flatten.toArray := fun m => by
    have e := foldl_rep its m []
    rwa [List.nil_append] at e
  have hnew : List.foldl (fun a b => a ++ b) #[] (List.replicate (if its.toArray.isEmpty = true then 0 else k.toNat) its.toArray) = (List.replicate k.toNat its).flatten.toArray := by
    rw [key]
    cases its with
    | nil => simp
    | cons a b => rw [if_neg (by simp)]
  refine wpAny_binaryOp_repeat_ref (T := "list") (U := "int") (by decide) ⟨_, ho, rfl⟩ (fun s' => typeIs_int s' k t) noFill_list_mul PySem.F.fills_int_mul PySem.F.slot_int_rmul repeat_list PySem.F.slot_int_index.lookup
    (call_meets PySem.F.slot_int_rmul (typeIs_int s k t) PySem.F.entry_int_rmul (PySem.F.args_int_rmul_2 _ _) (int_rmulW k t l its.toArray n sl)
      ⟨ho, rfl, ⟨_, ho, rfl⟩, call_meets PySem.F.slot_list_mul ⟨_, ho, rfl⟩ PySem.F.entry_list_mul (PySem.F.args_list_mul_2 _ _) (list_mulW l its.toArray n sl k t hfit (by omega) hlong) ⟨ho, ?_⟩⟩)
  rw [hnew]
  exact ⟨.ref _, _, I.lnew (t' := s.toks) (r.rep k.toNat) (by rw [PyProof.Rows.lm_len_rep_flat, Nat.mul_comm]; rw [List.size_toArray, ← hle] at hprod; exact Nat.le_trans hprod (by decide)), rfl, q _ I.fresh⟩
theorem op_mulB : OpR X (binaryOp .Mult) (rI (fun i j => mulOk i j = true) fun i j => .int (i * j)) := L2.opI fun i j _ _ _ _ _ hc q => mul_int q (by
  have b : ∀ x : Int, Builtin.Int.intBits x ≤ x.natAbs.log2 + 1 := fun x => by
    unfold Builtin.Int.intBits
    split <;> omega
  have h1 := b i
  have h2 := b j
  have h3 := of_decide_eq_true hc
  have e : bitsLine = 134217728 := by decide
  unfold IntMulOk
  intro z
  rw [Bool.and_eq_true] at z
  have z2 := z.2
  unfold Builtin.Int.intTooBig at z2
  have z3 := of_decide_eq_true z2
  rw [e] at z3
  omega)
end
section
variable {Z : Zc} {H : Hp} {R : Pr} {v x y : V} {Q : VK}
theorem rep_nil' {ds : List D} (h : RepL Z H R [] ds) : ds = [] := by cases h; rfl
theorem pr_add (h : PrimPost Z .add [x, y] H Q) : rI0 (fun i j => .int (i + j)) x y H Q ∨ (∃ i j, x = .str i ∧ y = .str j ∧ i.length + j.length ≤ sizeLine ∧ Q (.str (i ++ j)) H) ∨ rCatA Z.K x y H Q ∨ rCatL Z.K x y H Q := by
  obtain ⟨R, ds, ht, hr, nw, d, e, k⟩ := h
  obtain ⟨d1, d2, rfl, r1, r2⟩ := repPs2 hr
  cases d1 <;> first | (cases e; done) | skip
  · cases d2 <;> first | (cases e; done) | skip
    cases e
    exact .inl ⟨_, _, r1.int, r2.int, k _ H (Same.refl H) (.int _)⟩
  · cases d2 <;> first | (cases e; done) | skip
    rename_i a b
    simp only [evP] at e
    split at e
    · rename_i hz
      cases e
      exact .inr (.inl ⟨_, _, r1.str, r2.str, hz, k _ H (Same.refl H) (.str _)⟩)
    · cases e
  · cases d2 <;> first | (cases e; done) | skip
    rename_i a b
    simp only [evP] at e
    split at e
    · rename_i hz
      cases e
      obtain ⟨p1, xs, rfl, h1, h2⟩ := r1.tup
      obtain ⟨p2, zs, rfl, h3, h4⟩ := r2.tup
      refine .inr (.inr (.inl ⟨p1, p2, xs, zs, rfl, rfl, h1.sq, h3.sq, by rw [h2.length, h4.length]; exact hz, fun e => ?_, fun _ e => ?_, fun _ _ p hp => ?_⟩))
      · subst e
        obtain rfl := rep_nil' h2
        exact k _ H (Same.refl H) (.tup h3 h4)
      · subst e
        obtain rfl := rep_nil' h4
        rw [List.append_nil] at k
        exact k _ H (Same.refl H) (.tup h1 h2)
      · exact k _ _ (same_upd hp) (rep_new_tup ht.2 hp (h2.append h4))
    · cases e
  · cases d2 <;> first | (cases e; done) | skip
    rename_i a b
    simp only [evP] at e
    split at e
    · rename_i hz
      cases e
      obtain ⟨p1, xs, rfl, h1, h2⟩ := r1.lst
      obtain ⟨p2, zs, rfl, h3, h4⟩ := r2.lst
      exact .inr (.inr (.inr ⟨p1, p2, xs, zs, rfl, rfl, h1, h3, by rw [h2.length, h4.length]; exact hz, fun p hp => k _ _ (same_upd hp) (repN_new_lst hp (h2.append h4))⟩))
    · cases e
theorem pr_mul (h : PrimPost Z .mul [x, y] H Q) : rI (fun i j => mulOk i j = true) (fun i j => .int (i * j)) x y H Q ∨ rRepA Z.K x y H Q ∨ rRepLA Z.K x y H Q := by
  obtain ⟨R, ds, ht, hr, nw, d, e, k⟩ := h
  obtain ⟨d1, d2, rfl, r1, r2⟩ := repPs2 hr
  cases d1 <;> first | (cases e; done) | skip
  · cases d2 <;> first | (cases e; done) | skip
    simp only [evP] at e
    split at e
    · rename_i hz
      cases e
      exact .inl ⟨_, _, r1.int, r2.int, hz, k _ H (Same.refl H) (.int _)⟩
    · cases e
  · cases d2 <;> first | (cases e; done) | skip
    rename_i a b
    simp only [evP] at e
    split at e
    · rename_i hz
      cases e
      obtain ⟨p1, xs, rfl, h1, h2⟩ := r1.tup
      refine .inr (.inl ⟨p1, b, xs, rfl, r2.int, h1.sq, fun z => ?_, hz.2.2.2, hz.1, by rw [h2.length]; exact hz.2.1, fun z => ?_, fun p hp => ?_⟩)
      · subst z
        exact hz.2.2.1 (rep_nil' h2)
      · subst z
        have e1 : (List.replicate (1 : Int).toNat a).flatten = a := by simp
        rw [e1] at k
        exact k _ H (Same.refl H) (.tup h1 h2)
      · exact k _ _ (same_upd hp) (rep_new_tup ht.2 hp (h2.rep _))
    · cases e
  · cases d2 <;> first | (cases e; done) | skip
    rename_i a b
    simp only [evP] at e
    split at e
    · rename_i hz
      cases e
      obtain ⟨p1, xs, rfl, h1, h2⟩ := r1.lst
      exact .inr (.inr ⟨p1, b, xs, rfl, r2.int, h1, hz.2.2, hz.1, by rw [h2.length]; exact hz.2.1, fun p hp => k _ _ (same_upd hp) (repN_new_lst hp (h2.rep _))⟩)
    · cases e
/-- slices -/
theorem cutL_cutV {xs : List V} {ds : List D} (h : RepL Z H R xs ds) (lo hi : Option Int) : RepL Z H R (cutV xs lo hi) (cutL ds lo hi) := by
  unfold cutV cutL
  rw [h.length]
  exact (h.drop _).take _
theorem cut_whole {ds : List D} {lo hi : Option Int} (h : HT.sIx ds.length 0 lo = 0 ∧ HT.sIx ds.length ds.length hi = ds.length) : cutL ds lo hi = ds := by
  unfold cutL
  rw [h.1, h.2]
  simp
theorem sloD_ok {d : D} {lo hi : Option Int} {nw : Bool} {r : D} (ht : ∀ b, R b → H b ≠ none) (rp : RepP Z H R x d) (e : sloD d lo hi = some (nw, r)) (k : ∀ w H', Same H H' → RepN Z H H' R w nw r → Q w H') :
    (rSlL Z.K x lo hi H Q ∨ rSlA Z.K x lo hi H Q) ∨ rSlS x lo hi H Q := by
  cases d <;> first | (cases e; done) | skip
  · rename_i z
    have e : (if z.length ≤ sizeLine then some (false, D.str (L2.cutS z lo hi)) else none) = some (nw, r) := e
    by_cases hz : z.length ≤ sizeLine
    · rw [if_pos hz] at e; cases e
      exact .inr ⟨z, rp.str, hz, k _ H (Same.refl H) (.str _)⟩
    · rw [if_neg hz] at e; cases e
  · cases e
    obtain ⟨p, xs, rfl, h1, h2⟩ := rp.tup
    refine .inl (.inr ⟨p, xs, rfl, h1.sq, fun z => ?_, fun z q hq => ?_⟩)
    · rw [h2.length] at z
      rw [cut_whole z] at k
      exact k _ H (Same.refl H) (.tup h1 h2)
    · exact k _ _ (same_upd hq) (rep_new_tup ht hq (cutL_cutV h2 lo hi))
  · cases e
    obtain ⟨p, xs, rfl, h1, h2⟩ := rp.lst
    exact .inl (.inl ⟨p, xs, rfl, h1, fun q hq => k _ _ (same_upd hq) (repN_new_lst hq (cutL_cutV h2 lo hi))⟩)
end
end M

set_option Elab.async false
set_option linter.all false
set_option maxRecDepth 100000
set_option maxHeartbeats 4000000
/-! A6: zip and enumerate over lists and tuples, in any mix. -/
namespace M
open PySem L2 PyProof.Rows
/-- b: a tuple; else a list -/
def SqX (b : Bool) (K : PySem.W.Frag) (H : Hp) (a : Addr) (xs : List V) : Prop := match b with | true => SqT K H a xs | false => SqL K H a xs
def IterX (b : Bool) (h : Heap) (it a : Addr) (i : Nat) : Prop := match b with | true => h.IsTupleIter it a i | false => h.IsListIter it a i
def SeqX (b : Bool) (h : Heap) (a : Addr) (items : Array Value) : Prop := match b with | true => h.IsTuple a items | false => h.IsList a items
theorem IterX.at_ {b : Bool} {h h' : Heap} {it a : Addr} {i : Nat} (x : IterX b h it a i) (k : ∀ o, h.get? it = some o → h'.get? it = some o) : IterX b h' it a i := by
  cases b with
  | true => exact Heap.IsTupleIter.at x k
  | false => exact Heap.IsListIter.at x k
theorem IterX.obj {b : Bool} {h : Heap} {it a : Addr} {i : Nat} (x : IterX b h it a i) : ∃ o, h.get? it = some o ∧ ∀ v, o.data ≠ .cell v := by
  cases b with
  | true => obtain ⟨o, e, _, d⟩ := x; exact ⟨o, e, fun v q => by rw [d] at q; cases q⟩
  | false => obtain ⟨o, e, _, d⟩ := x; exact ⟨o, e, fun v q => by rw [d] at q; cases q⟩
theorem drawsX {prog : Program} {w : World} {A : Around} (b : Bool) (hh : A.handled = none) (it a : Addr) (hne : a ≠ it) (items : Array Value) :
    Draws prog w A it [it, a] items.size (fun i v => items[i]? = some v) (fun i h => IterX b h it a i ∧ SeqX b h a items) := by
  cases b with
  | true => exact Draws.tuple hh it a hne items
  | false => exact Draws.list hh it a hne items
theorem seqX_of {X : Cx} {pins : List (Addr × Obj)} {σ : Sg} {H : Hp} {s : Shared} {a : Addr} {xs : List V} (b : Bool) (I : Inv X pins σ H s) (h : SqX b X.K H a xs) : ∃ its : List Value, Vals xs its ∧ SeqX b s.heap a its.toArray ∧ a < s.heap.objs.size := by
  cases b with
  | true =>
    obtain ⟨its, r, p, _⟩ := I.tuple h
    exact ⟨its, r, p, p.lt⟩
  | false =>
    obtain ⟨its, r, p, _⟩ := I.list h
    exact ⟨its, r, p.isList, p.lt⟩
theorem sqX_inj {X : Cx} {pins : List (Addr × Obj)} {σ : Sg} {H : Hp} {s : Shared} {a : Addr} {xs ys : List V} (b : Bool) (I : Inv X pins σ H s) (h : SqX b X.K H a xs) (h' : SqX b X.K H a ys) : xs = ys := by
  cases b with
  | true => exact I.tuple_inj h h'
  | false => exact I.list_inj h h'
theorem beginsX (b : Bool) (l : Addr) (items : Array Value) : ∃ o, Begins (.ref l) o (fun h => SeqX b h l items) ∧ ∀ (h : Heap) (it : Addr), h.get? it = some o → IterX b h it l 0 := by
  cases b with
  | true => exact ⟨_, begins_tuple l items, fun h it e => ⟨_, e, rfl, rfl⟩⟩
  | false => exact ⟨_, begins_list l items, fun h it e => ⟨_, e, rfl, rfl⟩⟩
/-- zip of two -/
def ItzX (b1 b2 : Bool) (K : PySem.W.Frag) (a b : Addr) : It :=
  ⟨fun i H => ∃ (xs ys : List V) (x y : V), SqX b1 K H a xs ∧ SqX b2 K H b ys ∧ xs[i]? = some x ∧ ys[i]? = some y,
    fun i H v H' => ∃ T x y, v = .ref T ∧ H T = none ∧ H' = upd H T (.tup [x, y]) ∧ (∀ xs, SqX b1 K H a xs → xs[i]? = some x) ∧ ∀ ys, SqX b2 K H b ys → ys[i]? = some y,
    fun i H => ∃ xs ys : List V, SqX b1 K H a xs ∧ SqX b2 K H b ys ∧ i ≤ xs.length ∧ i ≤ ys.length ∧ (i = xs.length ∨ i = ys.length)⟩
theorem turn_zipX {P : Program} {w : World} {K : PySem.W.Frag} {elts : List Expr} {kk : Nat} {tpos : Pos} {a b z TI TO i1 i2 : Addr} (b1 b2 : Bool) (S : ZipSep2 z TI TO i1 i2 [i1, a] [i2, b]) (n1 : a ≠ i1) (n2 : b ≠ i2) :
    Turn P w K (.Tuple elts kk tpos) (ItzX b1 b2 K a b) [z, TI, TO, i1, i2] z (fun i h => IsZip h z TI TO .none ∧ IsTupOf2 h TI (.ref i1) (.ref i2) ∧ (∃ x y, IsTupOf2 h TO x y) ∧ IterX b1 h i1 a i ∧ IterX b2 h i2 b i) where
  mem := by simp
  obj := fun i h st c hc => by
    obtain ⟨hz, hTI, ⟨x, y, hTO⟩, h1, h2⟩ := st
    have e' : c = z ∨ c = TI ∨ c = TO ∨ c = i1 ∨ c = i2 := by simpa using hc
    rcases e' with q | q | q | q | q
    · rw [q]; exact ⟨_, hz, fun v q => nomatch q⟩
    · rw [q]; exact ⟨_, hTI, fun v q => nomatch q⟩
    · rw [q]; exact ⟨_, hTO, fun v q => nomatch q⟩
    · rw [q]; exact h1.obj
    · rw [q]; exact h2.obj
  keep := fun i h h' st k => by
    obtain ⟨hz, hTI, ⟨x, y, hTO⟩, h1, h2⟩ := st
    exact ⟨k z (by simp) _ hz, k TI (by simp) _ hTI, ⟨x, y, k TO (by simp) _ hTO⟩, h1.at_ fun o q => k i1 (by simp) o q, h2.at_ fun o q => k i2 (by simp) o q⟩
  item := by
    intro X hP hw hK hc i pins s σ H E I hf st hg
    subst hP hw hK
    obtain ⟨hz, hTI, ⟨x0, y0, hTO⟩, h1, h2⟩ := st
    obtain ⟨xs, ys, x, y, hqx, hqy, hx, hy⟩ := hg
    obtain ⟨its, rv, p, _⟩ := seqX_of b1 I hqx
    obtain ⟨its2, rv2, p2, _⟩ := seqX_of b2 I hqy
    obtain ⟨u, hu, ru⟩ := rv.get hx
    obtain ⟨u2, hu2, ru2⟩ := rv2.get hy
    have hzl : z < s.heap.objs.size := Heap.lt_size hz
    have l1 : i < its.toArray.size := by
      rw [List.size_toArray]; exact (List.getElem?_eq_some_iff.mp hu).1
    have l2 : i < its2.toArray.size := by
      rw [List.size_toArray]; exact (List.getElem?_eq_some_iff.mp hu2).1
    refine wpAny_pyNext_zipD2_item S (drawsX (prog := X.prog) (w := X.w) (A := X.A.in1) b1 (I.ok.hd hc) i1 a n1 its.toArray) (drawsX (prog := X.prog) (w := X.w) (A := X.A.in1) b2 (I.ok.hd hc) i2 b n2 its2.toArray) hz hTI hTO ⟨h1, p⟩ ⟨h2, p2⟩ l1 l2 fun x1 x2 h' tk e1 e2 z' TO' h1' h2' hT hsz hk => ?_
    have e1' : its[i]? = some x1 := by simpa using e1
    have e2' : its2[i]? = some x2 := by simpa using e2
    obtain rfl : u = x1 := by rw [hu] at e1'; exact Option.some.inj e1'
    obtain rfl : u2 = x2 := by rw [hu2] at e2'; exact Option.some.inj e2'
    refine ⟨_, rfl, wpAny_letOwnedTupleGo_zip (s := { s with heap := h', toks := tk }) z' fun h'' z'' sb => ?_⟩
    have hT2 : h''.get? s.heap.objs.size = some { cls := .type "tuple", data := .seq #[u, u2] } := (sb.2 _ (Nat.ne_of_gt hzl)).trans hT
    have new : ObjOk X.prog X.w (upd H s.heap.objs.size (.tup [x, y])) h'' s.heap.objs.size (.tup [x, y]) :=
      ⟨by show 2 ≤ sizeLine; decide, [u, u2], .cons ru (.cons ru2 .nil), ⟨_, hT2, rfl, _, rfl⟩⟩
    have I1 : Inv X pins σ (upd H s.heap.objs.size (.tup [x, y])) { s with heap := h'', toks := tk } :=
      I.turnedNew (t' := tk) (ch := [z, TI, TO, i1, i2]) (fun c o hb q => (sb.2 c (fun q' => hb (by simp [q']))).trans (hk c o (fun q' => hb (by simp [q'])) (fun q' => hb (by simp [q'])) (fun q' => hb (by simp [q'])) (fun q' => hb (by simp [q'])) q)) hf (Nat.le_refl _) new
    refine ⟨.ref s.heap.objs.size, _, I1, rfl, ⟨_, x, y, rfl, I.hok.fresh (Nat.le_refl _), rfl, fun l hl => by rw [sqX_inj b1 I hl hqx]; exact hx, fun l hl => by rw [sqX_inj b2 I hl hqy]; exact hy⟩, ⟨z'', ?_, ⟨u, u2, ?_⟩, ?_, ?_⟩, fun c hcm => ?_⟩
    · exact (sb.2 _ S.TIz).trans (hk _ _ S.TIz S.TITO S.TIi1 S.TIi2 hTI)
    · exact (sb.2 _ S.TOz).trans TO'
    · exact h1'.1.at_ fun o q => (sb.2 _ (fun e => S.zf1 (by rw [← e]; simp))).trans q
    · exact h2'.1.at_ fun o q => (sb.2 _ (fun e => S.zf2 (by rw [← e]; simp))).trans q
    · have hlt : c < s.heap.objs.size := by
        have e' : c = z ∨ c = TI ∨ c = TO ∨ c = i1 ∨ c = i2 := by simpa using hcm
        rcases e' with q | q | q | q | q
        · rw [q]; exact hzl
        · rw [q]; exact Heap.lt_size hTI
        · rw [q]; exact Heap.lt_size hTO
        · rw [q]; obtain ⟨_, e1, _⟩ := h1.obj; exact Heap.lt_size e1
        · rw [q]; obtain ⟨_, e2, _⟩ := h2.obj; exact Heap.lt_size e2
      rw [upd_ne (Nat.ne_of_lt hlt)]
      exact (hf c hcm).1
  done := by
    intro X hP hw hK hc i pins s σ H E I hf st hg
    subst hP hw hK
    obtain ⟨hz, hTI, ⟨x0, y0, hTO⟩, h1, h2⟩ := st
    obtain ⟨xs, ys, hqx, hqy, q1, q2, hend⟩ := hg
    obtain ⟨its, rv, p, _⟩ := seqX_of b1 I hqx
    obtain ⟨its2, rv2, p2, _⟩ := seqX_of b2 I hqy
    have l1 := rv.length
    have l2 := rv2.length
    exact wpAny_pyNext_zipD2_end S (drawsX (prog := X.prog) (w := X.w) (A := X.A.in1) b1 (I.ok.hd hc) i1 a n1 its.toArray) (drawsX (prog := X.prog) (w := X.w) (A := X.A.in1) b2 (I.ok.hd hc) i2 b n2 its2.toArray) hz hTI hTO ⟨h1, p⟩ ⟨h2, p2⟩ (by rw [List.size_toArray]; omega) (by rw [List.size_toArray]; omega) (by rw [List.size_toArray, List.size_toArray]; omega)
      fun h' tk hk => ⟨rfl, I.turnedL (t' := tk) (ch := [z, TI, TO, i1, i2]) (fun c o hb q =>
      hk c o (fun q' => hb (by simp [q'])) (fun q' => hb (by simp [q'])) (fun q' => hb (by simp [q'])) (fun q' => hb (by simp [q'])) q) hf⟩
  self := fun A i s Q E st h => wpAny_pyIter_zip st.1 h
/-- enumerate -/
def IteX (b1 : Bool) (K : PySem.W.Frag) (a : Addr) : It :=
  ⟨fun i H => ∃ (xs : List V) (x : V), SqX b1 K H a xs ∧ xs[i]? = some x,
    fun i H v H' => ∃ T x, v = .ref T ∧ H T = none ∧ H' = upd H T (.tup [.int (i : Nat), x]) ∧ ∀ xs, SqX b1 K H a xs → xs[i]? = some x,
    fun i H => ∃ xs : List V, SqX b1 K H a xs ∧ i = xs.length⟩
theorem turn_enumX {P : Program} {w : World} {K : PySem.W.Frag} {elts : List Expr} {kk : Nat} {tpos : Pos} (b1 : Bool) (a e it : Addr) (hae : a ≠ e) (hai : a ≠ it) :
    Turn P w K (.Tuple elts kk tpos) (IteX b1 K a) [e, it] e (fun i h => (∃ old, IsEnum h e it ((i : Nat) : Int) old) ∧ IterX b1 h it a i ∧ e ≠ it) where
  mem := by simp
  obj := fun i h st b hb => by
    obtain ⟨⟨old, he⟩, hi, _⟩ := st
    have e' : b = e ∨ b = it := by simpa using hb
    rcases e' with z | z
    · rw [z]; exact ⟨_, he, fun v q => nomatch q⟩
    · rw [z]; exact hi.obj
  keep := fun i h h' st k => let ⟨⟨old, he⟩, hi, hne⟩ := st; ⟨⟨old, k e (by simp) _ he⟩, hi.at_ fun o q => k it (by simp) o q, hne⟩
  item := by
    intro X hP hw hK hc i pins s σ H E I hf st hg
    subst hP hw hK
    obtain ⟨⟨old, he⟩, hit, hne⟩ := st
    obtain ⟨xs, x, hq, hx⟩ := hg
    obtain ⟨its, rv, p, _⟩ := seqX_of b1 I hq
    obtain ⟨u, hu, ru⟩ := rv.get hx
    have hel : e < s.heap.objs.size := Heap.lt_size he
    have hil : it < s.heap.objs.size := by obtain ⟨_, q, _⟩ := hit.obj; exact Heap.lt_size q
    have l1 : i < its.toArray.size := by
      rw [List.size_toArray]; exact (List.getElem?_eq_some_iff.mp hu).1
    refine wpAny_pyNext_enum_itemC (drawsX (prog := X.prog) (w := X.w) (A := X.A.in1) b1 (I.ok.hd hc) it a hai its.toArray) he ⟨hit, p⟩ l1 hne (by simp [Ne.symm hae, hne]) fun x1 h' tk e1 ho hit' hT hsz hk => ?_
    have e1' : its[i]? = some x1 := by simpa using e1
    obtain rfl : u = x1 := by rw [hu] at e1'; exact Option.some.inj e1'
    refine ⟨_, rfl, wpAny_letOwnedTupleGo_enum (s := { s with heap := h', toks := tk + 1 }) ho fun h'' he' sb => ?_⟩
    have hT2 : h''.get? s.heap.objs.size = some { cls := .type "tuple", data := .seq #[.int i tk, u] } := (sb.2 _ (Nat.ne_of_gt hel)).trans hT
    have new : ObjOk X.prog X.w (upd H s.heap.objs.size (.tup [.int (i : Nat), x])) h'' s.heap.objs.size (.tup [.int (i : Nat), x]) :=
      ⟨by show 2 ≤ sizeLine; decide, [.int i tk, u], .cons ⟨_, rfl⟩ (.cons ru .nil), ⟨_, hT2, rfl, _, rfl⟩⟩
    have I1 : Inv X pins σ (upd H s.heap.objs.size (.tup [.int (i : Nat), x])) { s with heap := h'', toks := tk + 1 } :=
      I.turnedNew (ch := [e, it]) (fun b ob hb q => (sb.2 b (fun z => hb (by simp [z]))).trans (hk b ob (fun z => hb (by simp [z])) (fun z => hb (by simp [z])) q)) hf (Nat.le_refl _) new
    refine ⟨.ref s.heap.objs.size, _, I1, rfl, ⟨_, x, rfl, I.hok.fresh (Nat.le_refl _), rfl, fun ys hy => by rw [sqX_inj b1 I hy hq]; exact hx⟩, ⟨⟨u, ?_⟩, hit'.1.at_ fun o q => (sb.2 it (Ne.symm hne)).trans q, hne⟩, fun b hb => ?_⟩
    · have e1 : ((i + 1 : Nat) : Int) = (i : Int) + 1 := by omega
      rw [e1]; exact he'
    · have hb' : b < s.heap.objs.size := by
        have e' : b = e ∨ b = it := by simpa using hb
        rcases e' with z | z
        · rw [z]; exact hel
        · rw [z]; exact hil
      rw [upd_ne (Nat.ne_of_lt hb')]
      exact (hf b hb).1
  done := by
    intro X hP hw hK hc i pins s σ H E I hf st hg
    subst hP hw hK
    obtain ⟨⟨old, he⟩, hit, hne⟩ := st
    obtain ⟨xs, hq, hx⟩ := hg
    obtain ⟨its, rv, p, _⟩ := seqX_of b1 I hq
    have hl := rv.length
    have hi : i = its.toArray.size := by rw [List.size_toArray]; omega
    subst hi
    refine (WalksT.enumFrom 0 (drawsX (prog := X.prog) (w := X.w) (A := X.A.in1) b1 (I.ok.hd hc) it a hai its.toArray) e hne (by simp [Ne.symm hae, hne]) (by simp)).done s _ _ ⟨⟨old, by simpa using he⟩, hit, p⟩ fun h' tk hk => ⟨rfl, I.turnedL (t' := tk) (ch := [e, it]) (fun b o hb q => hk b o (fun z => hb z) q) hf⟩
  self := fun A i s Q E st h => let ⟨⟨_, he⟩, _⟩ := st; wpAny_pyIter_enum he h
def iZipX (K : PySem.W.Frag) (ta : TA) : TI := fun σ H R => ta σ H fun vs H1 => ∃ a b xs ys b1 b2, vs = [.ref a, .ref b] ∧ SqX b1 K H1 a xs ∧ SqX b2 K H1 b ys ∧ R (ItzX b1 b2 K a b) H1
theorem pi_zipX {X : Cx} {e e2 : Expr} {ta : TA} {p pos tpos : Pos} {elts : List Expr} {kk : Nat} (hg : Gl X "zip") (hm : X.mg "zip" = none) (ha : PA X [e, e2] ta)
    (hs : starEach [e, e2] X.env = (false, eval e X.env) :: starEach [e2] X.env) (hpl : (backTo pos (starEach [e2] X.env)).any (·.1) = false) :
    PI X (.Tuple elts kk tpos) (.Call (.Name "zip" p) [e, e2] [] pos) (iZipX X.K ta) := by
  refine ⟨fun pins s σ H R I h => ?_⟩
  refine Call_ (ld_blt I hg hm PyProof.Rows.boot_zip (PyProof.Rows.callWith_type1 (thn (ha.run pos pins s σ H _ I h) fun us s1 ⟨vs, H1, I1, r1, q1⟩ => ?_) hs hpl))
  obtain ⟨a, b, xs, ys, b1, b2, ex, hqx, hqy, q⟩ := q1
  subst ex
  cases r1 with
  | cons r rr =>
    cases rr with
    | cons r' rr =>
      cases rr
      cases r
      cases r'
      have fresh5 : ∀ c, c ∈ [s1.heap.objs.size + 4, s1.heap.objs.size + 2, s1.heap.objs.size + 3, s1.heap.objs.size, s1.heap.objs.size + 1] → FpOk X pins H1 c := fun c hcm => by
        have e' : c = s1.heap.objs.size + 4 ∨ c = s1.heap.objs.size + 2 ∨ c = s1.heap.objs.size + 3 ∨ c = s1.heap.objs.size ∨ c = s1.heap.objs.size + 1 := by simpa using hcm
        have hle : s1.heap.objs.size ≤ c := by
          rcases e' with z | z | z | z | z
          · rw [z]; exact Nat.le_add_right _ _
          · rw [z]; exact Nat.le_add_right _ _
          · rw [z]; exact Nat.le_add_right _ _
          · rw [z]; exact Nat.le_refl _
          · rw [z]; exact Nat.le_add_right _ _
        exact I1.fpOk hle (I1.hok.fresh hle)
      obtain ⟨its, rv, p1, la⟩ := seqX_of b1 I1 hqx
      obtain ⟨its2, rv2, p2, lb⟩ := seqX_of b2 I1 hqy
      obtain ⟨o1, B1, g1⟩ := beginsX b1 a its.toArray
      obtain ⟨o2, B2, g2⟩ := beginsX b2 b its2.toArray
      refine zip_begins2 B1 B2 p1 p2 fun h' hz hTI hTO h1 h2 hsz hk => wpAny_pyIter_zip hz ?_
      have I2 : Inv X pins σ H1 { s1 with heap := h' } := I1.kept (t' := s1.toks) hk
      exact ⟨s1.heap.objs.size + 4, [s1.heap.objs.size + 4, s1.heap.objs.size + 2, s1.heap.objs.size + 3, s1.heap.objs.size, s1.heap.objs.size + 1], _, _, H1, rfl, I2,
        turn_zipX b1 b2 (zip_sep2 (N := s1.heap.objs.size) (fp1 := [a]) (fp2 := [b]) (by simpa using la) (by simpa using lb)) (Nat.ne_of_lt la) (Nat.ne_of_lt (Nat.lt_succ_of_lt lb)), ⟨hz, hTI, ⟨_, _, hTO⟩, g1 _ _ h1, g2 _ _ h2⟩, fresh5, q⟩
theorem meets_enumerate_newX {v : Value} {o : Obj} {H : Heap → Prop} (B : Begins v o H) :
    Meets (Builtin.«enumerate.__new__» ⟨[.type "enumerate", v], []⟩) (fun _ R s => H s.heap ∧
      R (.ok (.ret (.ref (s.heap.push o).objs.size))) { s with heap := (s.heap.push o).push { cls := .type "enumerate", data := .fields #[.none, .bool false, .ref s.heap.objs.size, rawInt 0, .none, .none] } }) :=
  .of_wp fun prog w A R s h => by
    obtain ⟨hp, g, d, tk, os⟩ := s; obtain ⟨h1, h⟩ := h
    have hsub := sub_enumerate
    have q1 : ∀ {A' : Around} {E : Value → Shared → Prop} {Q : Value → Shared → Prop}, Q (.ref hp.objs.size) ⟨hp.push o, g, d, tk, os⟩ → wpAny (model prog w) A' (pyIter v) Q E ⟨hp, g, d, tk, os⟩ :=
      fun q => B.iter prog w _ _ ⟨hp, g, d, tk, os⟩ _ h1 q
    wp_walk using q1
    refine wpAny_stack_any fun st => wpAny_pure ?_
    split
    · rename_i c _ _ _ _ _
      cases (c == Value.type "enumerate")
      · wp_walk using q1
        exact ⟨_, rfl, h⟩
      · wp_walk using q1
        exact ⟨_, rfl, h⟩
    · wp_walk using q1
      exact ⟨_, rfl, h⟩
def iEnumX (K : PySem.W.Frag) (ta : TA) : TI := fun σ H R => ta σ H fun vs H1 => ∃ a xs b1, vs = [.ref a] ∧ SqX b1 K H1 a xs ∧ R (IteX b1 K a) H1
theorem pi_enumX {X : Cx} {e : Expr} {ta : TA} {p pos tpos : Pos} {elts : List Expr} {kk : Nat} (hg : Gl X "enumerate") (hm : X.mg "enumerate" = none) (ha : PA X [e] ta) (hs : starEach [e] X.env = [(false, eval e X.env)]) :
    PI X (.Tuple elts kk tpos) (.Call (.Name "enumerate" p) [e] [] pos) (iEnumX X.K ta) := by
  refine ⟨fun pins s σ H R I h => ?_⟩
  refine Call_ (ld_blt I hg hm boot_enumerate (PyProof.Rows.callWith_type1 (thn (ha.run pos pins s σ H _ I h) fun us s1 ⟨vs, H1, I1, r1, q1⟩ => ?_) hs rfl))
  obtain ⟨a, xs, b1, ex, hq, q⟩ := q1
  subst ex
  cases r1 with
  | cons r rr =>
    cases rr
    cases r
    obtain ⟨its, rv, p1, la⟩ := seqX_of b1 I1 hq
    obtain ⟨o1, B1, g1⟩ := beginsX b1 a its.toArray
    refine callType_new F.called_enumerate (by decide) (F.typeCall_enumerate_1 _) (F.newCall_enumerate_1 _) (fun obj => F.args_object_init_2 obj _) F.entry_enumerate_new (meets_enumerate_newX B1) ⟨p1, ?_⟩
    have hz : (s1.heap.push o1).objs.size = s1.heap.objs.size + 1 := Heap.size_push ..
    show _ ∧ _
    rw [hz]
    have he : IsEnum ((s1.heap.push o1).push { cls := .type "enumerate", data := .fields #[.none, .bool false, .ref s1.heap.objs.size, rawInt 0, .none, .none] }) (s1.heap.objs.size + 1) s1.heap.objs.size 0 .none := by
      have := Heap.get?_push_size (s1.heap.push o1) (o := { cls := .type "enumerate", data := .fields #[.none, .bool false, .ref s1.heap.objs.size, rawInt 0, .none, .none] }) rfl
      rw [hz] at this; exact this
    refine ⟨⟨_, he, rfl⟩, wpAny_pyIter_enum he ?_⟩
    have hk : ∀ b o, s1.heap.get? b = some o → ((s1.heap.push o1).push { cls := .type "enumerate", data := .fields #[.none, .bool false, .ref s1.heap.objs.size, rawInt 0, .none, .none] }).get? b = some o := fun b o x => Heap.get?_push_of_some _ (Heap.get?_push_of_some _ x)
    have I2 := I1.kept (t' := s1.toks) hk
    refine ⟨s1.heap.objs.size + 1, [s1.heap.objs.size + 1, s1.heap.objs.size], _, _, H1, rfl, I2, turn_enumX b1 a (s1.heap.objs.size + 1) s1.heap.objs.size (Nat.ne_of_lt (Nat.lt_succ_of_lt la)) (Nat.ne_of_lt la), ⟨⟨.none, he⟩, g1 _ _ (Heap.get?_push_of_some _ (Heap.get?_push_size _ B1.free)), Nat.succ_ne_self _⟩, fun b hb => ?_, q⟩
    have e' : b = s1.heap.objs.size + 1 ∨ b = s1.heap.objs.size := by simpa using hb
    have hle : s1.heap.objs.size ≤ b := by
      rcases e' with z | z
      · rw [z]; exact Nat.le_add_right _ _
      · rw [z]; exact Nat.le_refl _
    exact I1.fpOk hle (I1.hok.fresh hle)
end M

set_option Elab.async false
set_option linter.all false
set_option maxRecDepth 100000
set_option maxHeartbeats 4000000
/-! A7: expressions by their parts. -/
namespace M
open PySem L2 PyProof.Rows

theorem _root_.L2.PE.imp {X : Cx} {e : Expr} {t t' : TE} (h : PE X e t) (i : ∀ s H Q, t' s H Q → t s H Q) : PE X e t' := ⟨fun pins s σ H Q I q => h.run pins s σ H Q I (i σ H Q q)⟩
theorem _root_.L2.PT.imp {X : Cx} {e : Expr} {t t' : TT} (h : PT X e t) (i : ∀ s H Q, t' s H Q → t s H Q) : PT X e t' := ⟨fun pins s σ H Q I q => h.run pins s σ H Q I (i σ H Q q)⟩
theorem _root_.L2.PW.imp {X : Cx} {e : Expr} {t t' : TT} (h : PW X e t) (i : ∀ s H Q, t' s H Q → t s H Q) : PW X e t' := ⟨fun wh pins s σ H Q I q => h.run wh pins s σ H Q I (i σ H Q q)⟩
theorem _root_.L2.PA.imp {X : Cx} {e : List Expr} {t t' : TA} (h : PA X e t) (i : ∀ s H Q, t' s H Q → t s H Q) : PA X e t' := ⟨fun pos pins s σ H Q I q => h.run pos pins s σ H Q I (i σ H Q q)⟩

section
variable {Z : Zc} {K : Calls} {ex : XK} {X : Cx} {s : Sg} {H : Hp}
/-- a literal -/
theorem tE_lit {e : E} {pk : Bool} {d : D} {Q : VK} (h : tE Z K ex e pk s H Q) (he : ∀ q, ev K e pk q = .ok (.val d) q) : ∃ R, ∀ w, Rep Z H R w d → Q w H := by
  obtain ⟨R0, q, f0, h⟩ := h
  rw [he q] at h
  exact ⟨Rt R0 s q, fun w r => h w H (Lat.refl _ _) (BK.refl _) ⟨f0, r⟩⟩
theorem ow_demote {q : Fm} {i : Nat} {b : Bool} {d : D} {a : Addr} (h : Ow s (q.set i (.sh b d)) a) : Ow s q a := by
  obtain ⟨j, b', d', h1, h2⟩ := h
  by_cases hj : i = j
  · subst hj
    by_cases hl : i < q.length
    · rw [List.getElem?_set_self hl] at h1; cases h1
    · rw [List.getElem?_eq_none (by simpa using hl)] at h1; cases h1
  · rw [List.getElem?_set_ne hj] at h1
    exact ⟨j, b', d', h1, h2⟩
/-- an owned list becomes a shared one -/
theorem FR.demote {R0 : Pr} {q : Fm} {i : Nat} {b : Bool} {d : D} (f : FR Z R0 s q H) (e : q[i]? = some (.ow b d)) : FR Z R0 s (q.set i (.sh b d)) H ∧ ∃ a, s[i]? = some (some (.ref a)) ∧ Rep Z H (Rt R0 s (q.set i (.sh b d))) (.ref a) d := by
  have hi : i < q.length := (List.getElem?_eq_some_iff.mp e).1
  have lt : Lat (Rt R0 s q) H (Rt R0 s (q.set i (.sh b d))) H := Lat.sub fun c z => Or.elim z .inl fun z => .inr (ow_demote z)
  obtain ⟨a, h1, h2, ds, xs, h3, h4, h5⟩ := f.ow i b d e
  subst h3
  have rp : Rep Z H (Rt R0 s (q.set i (.sh b (.lst ds)))) (.ref a) (.lst ds) := by
    refine .lst (.inl ⟨.inl h4, fun z => ?_⟩) (h5.lat lt)
    rcases z with z | ⟨j, b', d', z1, z2⟩
    · exact h2 z
    · by_cases hj : i = j
      · subst hj
        rw [List.getElem?_set_self hi] at z1; cases z1
      · rw [List.getElem?_set_ne hj] at z1
        exact hj (f.sep i j b b' (.lst ds) d' a e z1 h1 z2)
  refine ⟨⟨by rw [List.length_set]; exact f.len, f.tb, f.trk, fun j b' d' z => ?_, fun j b' d' z => ?_, fun j k b1 b2 d1 d2 c z1 z2 z3 z4 => ?_⟩, a, h1, rp⟩
  · by_cases hj : i = j
    · subst hj
      rw [List.getElem?_set_self hi] at z; cases z
      exact ⟨_, h1, rp⟩
    · rw [List.getElem?_set_ne hj] at z
      obtain ⟨v, e1, e2⟩ := f.sh j b' d' z
      exact ⟨v, e1, e2.lat lt⟩
  · by_cases hj : i = j
    · subst hj
      rw [List.getElem?_set_self hi] at z; cases z
    · rw [List.getElem?_set_ne hj] at z
      obtain ⟨a', e1, e2, e3⟩ := f.ow j b' d' z
      exact ⟨a', e1, e2, e3.lat lt rfl⟩
  · have n1 : i ≠ j := fun e => by
      subst e
      rw [List.getElem?_set_self hi] at z1; cases z1
    have n2 : i ≠ k := fun e => by
      subst e
      rw [List.getElem?_set_self hi] at z2; cases z2
    rw [List.getElem?_set_ne n1] at z1
    rw [List.getElem?_set_ne n2] at z2
    exact f.sep j k b1 b2 d1 d2 c z1 z2 z3 z4
theorem bk_set {q : Fm} {i : Nat} {t t' : Slot} (e : q[i]? = some t) (h : t'.isBor = true → t.isBor = true) : BK q (q.set i t') := by
  intro j ⟨u, h1, h2⟩
  by_cases hj : i = j
  · subst hj
    rw [List.getElem?_set_self (List.getElem?_eq_some_iff.mp e).1] at h1; cases h1
    exact ⟨t, e, h h2⟩
  · rw [List.getElem?_set_ne hj] at h1
    exact ⟨u, h1, h2⟩
theorem tE_var {i : Nat} {pk : Bool} {Q : VK} (h : tE Z K ex (.var i) pk s H Q) : tVar i s H Q := by
  obtain ⟨R0, q, f0, h⟩ := h
  unfold ev at h
  cases e : q[i]? with
  | none => rw [e] at h; exact h.elim
  | some t =>
    rw [e] at h
    cases t with
    | no => exact h.elim
    | pin => exact h.elim
    | sh b d =>
      obtain ⟨v, h1, h2⟩ := f0.sh i b d e
      exact ⟨v, h1, h v H (Lat.refl _ _) (BK.refl _) ⟨f0, h2⟩⟩
    | ow b d =>
      cases pk with
      | true =>
        obtain ⟨a, h1, _⟩ := f0.ow i b d e
        exact ⟨.ref a, h1, h _ H (Lat.refl _ _) (BK.refl _) ⟨f0, h1, b, d, e⟩⟩
      | false =>
        obtain ⟨f1, a, h1, h2⟩ := f0.demote e
        refine ⟨.ref a, h1, h _ H (Lat.sub fun c z => ow_demote z) (bk_set e fun z => z) ⟨f1, h2⟩⟩
theorem tE_tup {es : As} {pk : Bool} {Q : VK} (h : tE Z K ex (.tup es) pk s H Q) : tTup (tA Z K ex es) s H Q := by
  unfold tE at h
  rw [show ev K (.tup es) pk = fun q => bindR (evA K es q) fun ds q1 => if ds.length ≤ sizeLine then .ok (.val (.tup ds)) q1 else .bad from rfl] at h
  refine TR.bind h fun R0 q q1 a ws H1 f0 l b pp z => ?_
  obtain ⟨f1, p1⟩ := pp
  by_cases hz : a.length ≤ sizeLine
  · rw [if_pos hz] at z
    refine ⟨by rw [p1.length]; exact hz, fun p hp => ?_⟩
    have sm : Same H1 (upd H1 p (.tup ws)) := same_upd hp
    refine z _ _ (l.trans (Lat.same sm)) b ⟨f1.on sm (fun _ h => .inl h) fun b hb => (Lat.same (R := Ow s q) sm).tr b (f1.trk b hb), rep_new_tup (fun b hb => f1.rtT hb) hp p1⟩
  · rw [if_neg hz] at z; exact z.elim
theorem tE_lst {es : As} {pk : Bool} {Q : VK} (h : tE Z K ex (.lst es) pk s H Q) : tLst (tA Z K ex es) s H Q := by
  unfold tE at h
  rw [show ev K (.lst es) pk = fun q => bindR (evA K es q) fun ds q1 => if ds.length ≤ sizeLine then .ok (.new (.lst ds)) q1 else .bad from rfl] at h
  refine TR.bind h fun R0 q q1 a ws H1 f0 l b pp z => ?_
  obtain ⟨f1, p1⟩ := pp
  by_cases hz : a.length ≤ sizeLine
  · rw [if_pos hz] at z
    refine ⟨by rw [p1.length]; exact hz, fun p hp => ?_⟩
    have sm : Same H1 (upd H1 p (.lst ws)) := same_upd hp
    refine z _ _ (l.trans (Lat.same sm)) b ⟨p, rfl, l.new hp, f1.on sm (fun b hb => Or.elim hb .inl fun e => .inr (e ▸ hp)) (fun b hb => Or.elim hb (fun hb => (Lat.same (R := Ow s q) sm).tr b (f1.trk b hb)) fun e => ?_), a, ws, rfl, upd_same, p1.lat ((Lat.same sm).less fun b hb => ?_)⟩
    · rw [e, upd_same]; exact fun z => nomatch z
    · rcases hb with (hb | hb) | hb
      · exact .inl (.inl hb)
      · exact .inr (hb ▸ hp)
      · exact .inl (.inr hb)
  · rw [if_neg hz] at z; exact z.elim
theorem An.lateV {R0 : Pr} {q q1 : Fm} {H1 : Hp} {Q : VK} {r : Res RV} (l : Lat (Ow s q) H (Ow s q1) H1) (b : BK q q1) (h : An Z ex R0 s q H (PoV Z R0 s H) Q r) : An Z ex R0 s q1 H1 (PoV Z R0 s H1) Q r :=
  An.late l b (fun _ _ _ _ l2 p => p.early l) h
theorem tE_ife {t : T} {a b : E} {pk : Bool} {Q : VK} (h : tE Z K ex (.ife t a b) pk s H Q) : tIf (tT Z K ex t) (tE Z K ex a false) (tE Z K ex b false) s H Q := by
  unfold tE at h
  rw [show ev K (.ife t a b) pk = fun q => bindR (evT K t q) fun c q1 => if c then ev K a false q1 else ev K b false q1 from rfl] at h
  refine TR.bind h fun R0 q q1 c w H1 f0 l bk pp z => ?_
  obtain ⟨f1, rfl⟩ := pp
  cases w with
  | true => exact ⟨R0, q1, f1, An.lateV l bk z⟩
  | false => exact ⟨R0, q1, f1, An.lateV l bk z⟩
theorem rep_bl {R : Pr} {w : V} {b : Bool} (h : Rep Z H R w (.bl b)) : w = .bl b := by cases h; rfl
theorem tE_andV {a b : E} {pk : Bool} {Q : VK} (h : tE Z K ex (.andV a b) pk s H Q) : tAndV (tE Z K ex a true) (tE Z K ex b false) s H Q := by
  unfold tE at h
  rw [show ev K (.andV a b) pk = fun q => bindR (ev K a true q) fun r q1 => match r with
    | .val (.bl true) => ev K b false q1
    | .val (.bl false) => .ok (.val (.bl false)) q1
    | _ => .bad from rfl] at h
  refine TR.bind h fun R0 q q1 c w H1 f0 l bk pp z => ?_
  cases c with
  | val d =>
    cases d with
    | bl k =>
      obtain ⟨f1, r⟩ := pp
      cases k with
      | true => exact ⟨true, rep_bl r, ⟨R0, q1, f1, An.lateV l bk z⟩⟩
      | false => exact ⟨false, rep_bl r, z _ H1 l bk ⟨f1, .bl _⟩⟩
    | _ => exact z.elim
  | _ => exact z.elim
theorem tru_of {R : Pr} {w : V} {d : D} {c : Bool} (h : RepP Z H R w d) (e : truD d = some c) : TruV Z.K w H c := by
  cases d <;> first | (cases e; done) | skip
  · cases e; rw [h.non]; rfl
  · cases e; rw [h.bl]; rfl
  · cases e; rw [h.int]; rfl
  · rename_i z
    simp only [truD] at e
    split at e
    · rename_i hz
      cases e
      rw [h.str]
      refine ⟨hz, ?_⟩
      cases hl : z.length with
      | zero => rfl
      | succ n =>
        have : ((n + 1 : Nat) : Int) ≠ 0 := by omega
        rw [show ((n + 1 : Nat) != 0) = true from rfl]
        exact (bne_iff_ne.mpr this).symm
    · cases e
  · cases e
    obtain ⟨a, xs, rfl, h1, h2⟩ := h.tup
    refine .inr (.inl ⟨xs, h1.sq, ?_⟩)
    cases h2 <;> rfl
  · cases e
    obtain ⟨a, xs, rfl, h1, h2⟩ := h.lst
    refine .inl ⟨xs, h1, ?_⟩
    cases h2 <;> rfl
/-- a value's truth -/
theorem pov_tru {R0 : Pr} {q q1 : Fm} {w : V} {r : RV} {d : D} {H1 : Hp} (f0 : FR Z R0 s q H) (p : PoV Z R0 s H q1 H1 w r) (e : r.at_ q1 = some d) : FR Z R0 s q1 H1 ∧ RepP Z H1 (Rt R0 s q1) w d := by
  obtain ⟨f1, p1⟩ := p.down f0
  refine ⟨f1, RepR.atP f1 p1 ?_⟩
  rw [← e]
  cases r <;> rfl
theorem tE_notV {a : E} {pk : Bool} {Q : VK} (h : tE Z K ex (.notV a) pk s H Q) : tNotT Z.K (tE Z K ex a true) s H Q := by
  unfold tE at h
  rw [show ev K (.notV a) pk = fun q => bindR (ev K a true q) fun r q1 => match r.at_ q1 with
    | some d => match truD d with
      | some c => .ok (.val (.bl (!c))) q1
      | none => .bad
    | none => .bad from rfl] at h
  refine TR.bind h fun R0 q q1 c w H1 f0 l bk pp z => ?_
  cases e : c.at_ q1 with
  | none => rw [e] at z; exact z.elim
  | some d =>
    rw [e] at z
    dsimp only at z
    cases e2 : truD d with
    | none => rw [e2] at z; exact z.elim
    | some k =>
      rw [e2] at z
      obtain ⟨f1, rp⟩ := pov_tru f0 pp e
      exact ⟨k, tru_of rp e2, z _ H1 l bk ⟨f1, .bl _⟩⟩
theorem tT_val {e : E} {Q : Bool → Hp → Prop} (h : tT Z K ex (.val e) s H Q) : tE Z K ex e true s H fun x H' => ∃ k, TruV Z.K x H' k ∧ Q k H' := by
  unfold tT at h
  rw [show evT K (.val e) = fun q => bindR (ev K e true q) fun r q1 => match r.at_ q1 with
    | some d => match truD d with
      | some c => .ok c q1
      | none => .bad
    | none => .bad from rfl] at h
  refine TR.bind h fun R0 q q1 c w H1 f0 l bk pp z => ?_
  cases e : c.at_ q1 with
  | none => rw [e] at z; exact z.elim
  | some d =>
    rw [e] at z
    dsimp only at z
    cases e2 : truD d with
    | none => rw [e2] at z; exact z.elim
    | some k =>
      rw [e2] at z
      obtain ⟨f1, rp⟩ := pov_tru f0 pp e
      exact ⟨k, tru_of rp e2, z k H1 l bk ⟨f1, rfl⟩⟩
theorem tT_yes {Q : Bool → Hp → Prop} (h : tT Z K ex .yes s H Q) : Q true H := by
  obtain ⟨R0, q, f0, h⟩ := h
  exact h true H (Lat.refl _ _) (BK.refl _) ⟨f0, rfl⟩
theorem tT_any {a b : T} {Q : Bool → Hp → Prop} (h : tT Z K ex (.any a b) s H Q) : tOr (tT Z K ex a) (tT Z K ex b) s H Q := by
  unfold tT at h
  rw [show evT K (.any a b) = fun q => bindR (evT K a q) fun c q1 => if c then .ok true q1 else evT K b q1 from rfl] at h
  refine TR.bind h fun R0 q q1 c w H1 f0 l bk pp z => ?_
  obtain ⟨f1, rfl⟩ := pp
  cases w with
  | false => exact ⟨R0, q1, f1, An.late (Po' := PoB Z R0 s H1) l bk (fun _ _ _ _ _ p => p) z⟩
  | true => exact z true H1 l bk ⟨f1, rfl⟩
theorem tT_not {a : T} {Q : Bool → Hp → Prop} (h : tT Z K ex (.not a) s H Q) : tNot (tT Z K ex a) s H Q := by
  unfold tT at h
  rw [show evT K (.not a) = fun q => bindR (evT K a q) fun c q1 => .ok (!c) q1 from rfl] at h
  refine TR.bind h fun R0 q q1 c w H1 f0 l bk pp z => ?_
  obtain ⟨f1, rfl⟩ := pp
  exact z (!w) H1 l bk ⟨f1, rfl⟩
/-- the operands of one, two, three places -/
theorem tEs1 {a : E} {Q : List V → Hp → Prop} (h : tEs Z K ex (.cons a .nil) s H Q) : tE Z K ex a true s H fun x H1 => Q [x] H1 :=
  (tEs_cons h).mono fun _ _ z => tEs_nil z
theorem tEs2 {a b : E} {Q : List V → Hp → Prop} (h : tEs Z K ex (.cons a (.cons b .nil)) s H Q) : tE Z K ex a true s H fun x H1 => tE Z K ex b true s H1 fun y H2 => Q [x, y] H2 :=
  (tEs_cons h).mono fun _ _ z => tEs1 z
theorem tEs3 {a b c : E} {Q : List V → Hp → Prop} (h : tEs Z K ex (.cons a (.cons b (.cons c .nil))) s H Q) : tE Z K ex a true s H fun x H1 => tE Z K ex b true s H1 fun y H2 => tE Z K ex c true s H2 fun z H3 => Q [x, y, z] H3 :=
  (tEs_cons h).mono fun _ _ z => tEs2 z
end
end M

set_option Elab.async false
set_option linter.all false
set_option maxRecDepth 100000
set_option maxHeartbeats 4000000
/-! A8: calls: arguments, what is lent and given back. -/
namespace M
open PySem L2 PyProof.Rows

/-- what a def promises: that it does what the evaluator tells -/
def spF (Z : Zc) (K : Calls) (f : Nat) : Sp := fun vs H Q E => TR Z E (fun q => noSlot (K.fn f q)) (PoV Z) (vs.map some) H Q
def GaR (Z : Zc) (H : Hp) (R0 : Pr) (s : Sg) (q : Fm) : List V → List Ga → Prop
  | [], [] => True
  | w :: ws, .v d :: gs => Rep Z H (Rt R0 s q) w d ∧ GaR Z H R0 s q ws gs
  | w :: ws, .b i :: gs => s[i]? = some (some w) ∧ GaR Z H R0 s q ws gs
  | _, _ => False
def PoG (Z : Zc) (R0 : Pr) (s : Sg) (H : Hp) (q' : Fm) (H' : Hp) (ws : List V) (gs : List Ga) : Prop := FR Z R0 s q' H' ∧ GaR Z H' R0 s q' ws gs
def tGs (Z : Zc) (K : Calls) (ex : XK) (g : Gs) : TA := TR Z ex (evG K g) (PoG Z)
theorem GaR.lat {Z : Zc} {H H' : Hp} {R0 : Pr} {s : Sg} {q q' : Fm} (l : Lat (Ow s q) H (Ow s q') H') : ∀ {ws : List V} {gs : List Ga}, GaR Z H R0 s q ws gs → GaR Z H' R0 s q' ws gs
  | [], [], _ => True.intro
  | w :: ws, .v d :: gs, h => ⟨Rep.lat (lat_rt l) h.1, GaR.lat l h.2⟩
  | w :: ws, .b i :: gs, h => ⟨h.1, GaR.lat l h.2⟩
  | [], _ :: _, h => h.elim
  | _ :: _, [], h => h.elim
section
variable {Z : Zc} {K : Calls} {ex : XK} {s : Sg} {H : Hp}
theorem tGs_nil {Q : List V → Hp → Prop} (h : tGs Z K ex .nil s H Q) : tNil s H Q := by
  obtain ⟨R0, q, f0, h⟩ := h
  unfold evG at h
  exact h [] H (Lat.refl _ _) (BK.refl _) ⟨f0, True.intro⟩
theorem tGs_v {e : E} {r : Gs} {Q : List V → Hp → Prop} (h : tGs Z K ex (.v e r) s H Q) : tCons (tE Z K ex e false) (tGs Z K ex r) s H Q := by
  unfold tGs at h
  rw [show evG K (.v e r) = fun q => bindR (ev K e false q) fun x q1 => match x.vd with
    | some d => bindR (evG K r q1) fun l q2 => .ok (.v d :: l) q2
    | none => .bad from rfl] at h
  refine TR.bind h fun R0 q q1 a w H1 f0 l b p z => ?_
  cases e1 : a.vd with
  | none => rw [e1] at z; exact z.elim
  | some d =>
    rw [e1] at z
    obtain ⟨f1, p1⟩ := p.vd f0 e1
    refine ⟨R0, q1, f1, (An.late (Po' := PoG Z R0 s H1) l b (fun _ _ _ _ _ p => p) z).bind fun q2 ws H2 rs _ l2 b2 p2 z2 => ?_⟩
    exact z2 (w :: ws) H2 l2 b2 ⟨p2.1, p1.lat (lat_rt l2), p2.2⟩
theorem tGs_b {i : Nat} {r : Gs} {Q : List V → Hp → Prop} (h : tGs Z K ex (.b i r) s H Q) : tCons (tVar i) (tGs Z K ex r) s H Q := by
  obtain ⟨R0, q, f0, h⟩ := h
  rw [show evG K (.b i r) q = (match q[i]? with
    | some (.ow _ _) => bindR (evG K r q) fun l q1 => .ok (.b i :: l) q1
    | _ => .bad) from rfl] at h
  cases e : q[i]? with
  | none => rw [e] at h; exact h.elim
  | some t =>
    rw [e] at h
    cases t with
    | no => exact h.elim
    | pin => exact h.elim
    | sh _ _ => exact h.elim
    | ow b d =>
      obtain ⟨a, h1, _⟩ := f0.ow i b d e
      refine ⟨.ref a, h1, R0, q, f0, h.bind fun q1 ws H1 rs _ l b p z => ?_⟩
      exact z (.ref a :: ws) H1 l b ⟨p.1, h1, p.2⟩
end
/-! ### giving back -/
theorem gb_len : ∀ {gs : List Ga} {as q : Fm}, (giveBack gs as q).length = q.length
  | [], _, _ => rfl
  | .v _ :: r, [], _ => rfl
  | .v _ :: r, _ :: l, _ => gb_len (gs := r)
  | .b _ :: r, [], _ => rfl
  | .b _ :: r, _ :: l, q => by rw [giveBack, gb_len (gs := r), List.length_set]
theorem gb_other : ∀ {gs : List Ga} {as q : Fm} {i : Nat}, i ∉ lentIx gs → (giveBack gs as q)[i]? = q[i]?
  | [], _, _, _, _ => rfl
  | .v _ :: r, [], _, _, _ => rfl
  | .v _ :: r, _ :: l, q, i, h => by rw [giveBack]; exact gb_other (gs := r) h
  | .b _ :: r, [], _, _, _ => rfl
  | .b j :: r, t :: l, q, i, h => by
    have h1 : i ≠ j ∧ i ∉ lentIx r := by simpa [lentIx] using h
    rw [giveBack, gb_other (gs := r) h1.2, List.getElem?_set_ne (Ne.symm h1.1)]
theorem gb_at : ∀ {gs : List Ga} {as q : Fm} {k i : Nat} {t : Slot}, (lentIx gs).Nodup → gs[k]? = some (.b i) → as[k]? = some t → i < q.length → (giveBack gs as q)[i]? = some (t.bors (q.getD i .no).isBor)
  | [], _, _, _, _, _, _, h, _, _ => by simp at h
  | .v _ :: r, [], _, _, _, _, _, _, h, _ => by simp at h
  | .v d :: r, u :: l, q, k, i, t, nd, h1, h2, hi => by
    cases k with
    | zero => simp at h1
    | succ k =>
      rw [giveBack]
      exact gb_at (gs := r) nd (by simpa using h1) (by simpa using h2) hi
  | .b _ :: r, [], _, _, _, _, _, _, h, _ => by simp at h
  | .b j :: r, u :: l, q, k, i, t, nd, h1, h2, hi => by
    have nd' : j ∉ lentIx r ∧ (lentIx r).Nodup := by simpa [lentIx] using nd
    rw [giveBack]
    cases k with
    | zero =>
      have e1 : j = i := by simpa using h1
      have e2 : u = t := by simpa using h2
      subst e1 e2
      rw [gb_other nd'.1, List.getElem?_set_self hi]
    | succ k =>
      have h1' : r[k]? = some (.b i) := by simpa using h1
      have hj : j ≠ i := by
        rintro rfl
        exact nd'.1 (lentIx_mem h1')
      rw [gb_at (gs := r) nd'.2 h1' (by simpa using h2) (by rw [List.length_set]; exact hi)]
      have : List.getD (List.set q j (u.bors (List.getD q j Slot.no).isBor)) i Slot.no = List.getD q i Slot.no := by
        simp only [List.getD_eq_getElem?_getD, List.getElem?_set_ne hj]
      rw [this]
where
  lentIx_mem : ∀ {r : List Ga} {k i : Nat}, r[k]? = some (.b i) → i ∈ lentIx r
    | [], _, _, h => by simp at h
    | .v _ :: r, 0, _, h => by simp at h
    | .v _ :: r, k + 1, i, h => by
      rw [lentIx]; exact lentIx_mem (by simpa using h)
    | .b j :: r, 0, i, h => by
      have e : j = i := by simpa using h
      subst e; simp [lentIx]
    | .b j :: r, k + 1, i, h => by
      have := lentIx_mem (r := r) (k := k) (i := i) (by simpa using h)
      simp [lentIx, this]
theorem lentIx_mem {r : List Ga} {k i : Nat} (h : r[k]? = some (Ga.b i)) : i ∈ lentIx r := gb_at.lentIx_mem h
theorem lentIx_at : ∀ {r : List Ga} {i : Nat}, i ∈ lentIx r → ∃ k : Nat, r[k]? = some (Ga.b i)
  | [], _, h => by simp [lentIx] at h
  | .v _ :: r, i, h => by
    obtain ⟨k, hk⟩ := lentIx_at (r := r) (by simpa [lentIx] using h)
    exact ⟨k + 1, by simpa using hk⟩
  | .b j :: r, i, h => by
    have h' : i = j ∨ i ∈ lentIx r := by simpa [lentIx] using h
    rcases h' with rfl | h'
    · exact ⟨0, by simp⟩
    · obtain ⟨k, hk⟩ := lentIx_at h'
      exact ⟨k + 1, by simpa using hk⟩
theorem lent_len : ∀ {gs : List Ga} {q as : Fm}, lent q gs = some as → as.length = gs.length
  | [], _, _, h => by cases h; rfl
  | .v d :: r, q, as, h => by
    unfold lent at h
    cases e : lent q r with
    | none => rw [e] at h; cases h
    | some l => rw [e] at h; cases h; simp [lent_len e]
  | .b i :: r, q, as, h => by
    unfold lent at h
    split at h
    · rename_i b d l e1 e2
      cases h; simp [lent_len e2]
    · cases h
/-- what is lent, place by place -/
theorem lent_at : ∀ {gs : List Ga} {q as : Fm} {k : Nat} {t : Slot}, lent q gs = some as → as[k]? = some t → (∃ d, gs[k]? = some (.v d) ∧ t = .sh false d) ∨ (∃ i b d, gs[k]? = some (.b i) ∧ q[i]? = some (.ow b d) ∧ t = .ow true d)
  | [], _, _, _, _, h, e => by cases h; simp at e
  | .v d :: r, q, as, k, t, h, e => by
    unfold lent at h
    cases e2 : lent q r with
    | none => rw [e2] at h; cases h
    | some l =>
      rw [e2] at h; cases h
      cases k with
      | zero => exact .inl ⟨d, by simp, by simpa using e.symm⟩
      | succ k => simpa using lent_at (k := k) e2 (by simpa using e)
  | .b i :: r, q, as, k, t, h, e => by
    unfold lent at h
    split at h
    · rename_i b d l e1 e2
      cases h
      cases k with
      | zero => exact .inr ⟨i, b, d, by simp, e1, by simpa using e.symm⟩
      | succ k => simpa using lent_at (k := k) e2 (by simpa using e)
    · cases h
theorem GaR.len {Z : Zc} {H : Hp} {R0 : Pr} {s : Sg} {q : Fm} : ∀ {ws : List V} {gs : List Ga}, GaR Z H R0 s q ws gs → ws.length = gs.length
  | [], [], _ => rfl
  | w :: ws, .v d :: gs, h => by simp [GaR.len h.2]
  | w :: ws, .b i :: gs, h => by simp [GaR.len h.2]
  | [], _ :: _, h => h.elim
  | _ :: _, [], h => h.elim
theorem GaR.at_v {Z : Zc} {H : Hp} {R0 : Pr} {s : Sg} {q : Fm} : ∀ {ws : List V} {gs : List Ga} {k : Nat} {d : D}, GaR Z H R0 s q ws gs → gs[k]? = some (.v d) → ∃ w, ws[k]? = some w ∧ Rep Z H (Rt R0 s q) w d
  | [], [], _, _, _, e => by simp at e
  | w :: ws, .v d :: gs, 0, _, h, e => by simp at e; subst e; exact ⟨w, rfl, h.1⟩
  | w :: ws, .v d :: gs, k + 1, _, h, e => by simpa using GaR.at_v (k := k) h.2 (by simpa using e)
  | w :: ws, .b i :: gs, 0, _, h, e => by simp at e
  | w :: ws, .b i :: gs, k + 1, _, h, e => by simpa using GaR.at_v (k := k) h.2 (by simpa using e)
  | [], _ :: _, _, _, h, _ => h.elim
  | _ :: _, [], _, _, h, _ => h.elim
theorem GaR.at_b {Z : Zc} {H : Hp} {R0 : Pr} {s : Sg} {q : Fm} : ∀ {ws : List V} {gs : List Ga} {k i : Nat}, GaR Z H R0 s q ws gs → gs[k]? = some (.b i) → ∃ w, ws[k]? = some w ∧ s[i]? = some (some w)
  | [], [], _, _, _, e => by simp at e
  | w :: ws, .v d :: gs, 0, _, h, e => by simp at e
  | w :: ws, .v d :: gs, k + 1, _, h, e => by simpa using GaR.at_b (k := k) h.2 (by simpa using e)
  | w :: ws, .b i :: gs, 0, _, h, e => by simp at e; subst e; exact ⟨w, rfl, h.1⟩
  | w :: ws, .b i :: gs, k + 1, _, h, e => by simpa using GaR.at_b (k := k) h.2 (by simpa using e)
  | [], _ :: _, _, _, h, _ => h.elim
  | _ :: _, [], _, _, h, _ => h.elim
/-- what the callee may not lean on -/
def R0c (R0 : Pr) (s : Sg) (q : Fm) (gs : List Ga) : Pr := fun b => R0 b ∨ ∃ (i : Nat) (b' : Bool) (d : D), i ∉ lentIx gs ∧ q[i]? = some (.ow b' d) ∧ s[i]? = some (some (.ref b))
theorem mget {vs : List V} {k : Nat} {v : V} (h : vs[k]? = some v) : (vs.map some)[k]? = some (some v) := by rw [List.getElem?_map, h]; rfl
theorem mget' {vs : List V} {k : Nat} {v : V} (h : (vs.map some)[k]? = some (some v)) : vs[k]? = some v := by
  rw [List.getElem?_map] at h
  cases e : vs[k]? with
  | none => rw [e] at h; cases h
  | some x => rw [e] at h; cases h; rfl
section
variable {Z : Zc} {K : Calls} {ex : XK} {s : Sg} {H H' : Hp} {R0 : Pr} {q : Fm} {gs : List Ga} {ws : List V} {as : Fm}
/-- the callee's frame at the start -/
theorem lend (f : FR Z R0 s q H) (g : GaR Z H R0 s q ws gs) (nd : (lentIx gs).Nodup) (hl : lent q gs = some as) : FR Z (R0c R0 s q gs) (ws.map some) as H := by
  have lt : Lat (Rt R0 s q) H (Rt (R0c R0 s q gs) (ws.map some) as) H := Lat.sub fun b z => by
    rcases z with (z | ⟨i, b', d, _, z1, z2⟩) | ⟨k, b', d, z1, z2⟩
    · exact .inl z
    · exact .inr ⟨i, b', d, z1, z2⟩
    · rcases lent_at hl z1 with ⟨d', e1, e2⟩ | ⟨i, b2, d2, e1, e2, e3⟩
      · cases e2
      · obtain ⟨w, h1, h2⟩ := g.at_b e1
        have := mget' z2
        rw [h1] at this; cases this
        exact .inr ⟨i, b2, d2, e2, h2⟩
  refine ⟨by rw [List.length_map, g.len, lent_len hl], f.tb, fun b z => ?_, fun k b d e => ?_, fun k b d e => ?_, fun k k' b b' d d' a e e' h1 h2 => ?_⟩
  · rcases z with z | ⟨i, b', d, _, z1, z2⟩
    · exact f.trk b z
    · obtain ⟨xs, e⟩ := f.owT ⟨i, b', d, z1, z2⟩
      rw [e]; exact fun z => nomatch z
  · rcases lent_at hl e with ⟨d', e1, e2⟩ | ⟨i, b2, d2, e1, e2, e3⟩
    · cases e2
      obtain ⟨w, h1, h2⟩ := g.at_v e1
      exact ⟨w, mget h1, h2.lat lt⟩
    · cases e3
  · rcases lent_at hl e with ⟨d', e1, e2⟩ | ⟨i, b2, d2, e1, e2, e3⟩
    · cases e2
    · cases e3
      obtain ⟨w, h1, h2⟩ := g.at_b e1
      obtain ⟨a, z1, z2, z3⟩ := f.ow i b2 d e2
      rw [h2] at z1; cases z1
      refine ⟨a, mget h1, fun z => ?_, z3.lat lt rfl⟩
      rcases z with z | ⟨j, b3, d3, nj, y1, y2⟩
      · exact z2 z
      · exact nj ((f.sep j i b3 b2 d3 d a y1 e2 y2 h2) ▸ lentIx_mem e1)
  · rcases lent_at hl e with ⟨_, _, e2⟩ | ⟨i, b2, d2, e1, e2, e3⟩
    · cases e2
    · rcases lent_at hl e' with ⟨_, _, e2'⟩ | ⟨i', b2', d2', e1', e2', e3'⟩
      · cases e2'
      · obtain ⟨w, y1, y2⟩ := g.at_b e1
        obtain ⟨w', y1', y2'⟩ := g.at_b e1'
        have t1 := mget' h1
        have t2 := mget' h2
        rw [y1] at t1; cases t1
        rw [y1'] at t2; cases t2
        have ei := f.sep i i' b2 b2' d2 d2' a e2 e2' y2 y2'
        subst ei
        exact nodup_lent nd e1 e1'
where
  nodup_lent : ∀ {gs : List Ga} {k k' i : Nat}, (lentIx gs).Nodup → gs[k]? = some (.b i) → gs[k']? = some (.b i) → k = k'
    | [], _, _, _, _, h, _ => by simp at h
    | .v _ :: r, 0, _, _, _, h, _ => by simp at h
    | .v _ :: r, _ + 1, 0, _, _, _, h => by simp at h
    | .v _ :: r, k + 1, k' + 1, i, nd, h, h' => by
      have := nodup_lent (gs := r) (k := k) (k' := k') nd (by simpa using h) (by simpa using h')
      omega
    | .b j :: r, 0, 0, i, nd, h, h' => rfl
    | .b j :: r, 0, k' + 1, i, nd, h, h' => by
      have nd' : j ∉ lentIx r ∧ (lentIx r).Nodup := by simpa [lentIx] using nd
      have e : j = i := by simpa using h
      subst e
      exact absurd (lentIx_mem (r := r) (k := k') (by simpa using h')) nd'.1
    | .b j :: r, k + 1, 0, i, nd, h, h' => by
      have nd' : j ∉ lentIx r ∧ (lentIx r).Nodup := by simpa [lentIx] using nd
      have e : j = i := by simpa using h'
      subst e
      exact absurd (lentIx_mem (r := r) (k := k) (by simpa using h)) nd'.1
    | .b j :: r, k + 1, k' + 1, i, nd, h, h' => by
      have nd' : j ∉ lentIx r ∧ (lentIx r).Nodup := by simpa [lentIx] using nd
      have := nodup_lent (gs := r) (k := k) (k' := k') nd'.2 (by simpa using h) (by simpa using h')
      omega
/-- behind the call: the caller's frame -/
theorem gb_cases {q1 : Fm} (nd : (lentIx gs).Nodup) (g : GaR Z H R0 s q ws gs) (hl : lent q gs = some as) (la : q1.length = ws.length) {i : Nat} {t : Slot} (h : (giveBack gs q1 q)[i]? = some t) :
    (i ∉ lentIx gs ∧ q[i]? = some t) ∨ (∃ (k : Nat) (t0 : Slot) (b : Bool) (w : V) (d : D) (b0 : Bool), gs[k]? = some (Ga.b i) ∧ as[k]? = some (Slot.ow true d) ∧ q1[k]? = some t0 ∧ t = t0.bors b ∧ ws[k]? = some w ∧ s[i]? = some (some w) ∧ q[i]? = some (.ow b0 d) ∧ b = b0) := by
  by_cases hi : i ∈ lentIx gs
  · obtain ⟨k, hk⟩ := lentIx_at hi
    have hlt : k < gs.length := (List.getElem?_eq_some_iff.mp hk).1
    have e1 : k < q1.length := by rw [la, g.len]; exact hlt
    have hiq : i < q.length := by
      have := (List.getElem?_eq_some_iff.mp h).1
      rwa [gb_len] at this
    have e2 := gb_at (q := q) nd hk (show q1[k]? = some q1[k] by simp [e1]) hiq
    rw [h] at e2; cases e2
    obtain ⟨w, y1, y2⟩ := g.at_b hk
    have e3 : k < as.length := by rw [lent_len hl]; exact hlt
    rcases lent_at hl (show as[k]? = some as[k] by simp [e3]) with ⟨d, z1, _⟩ | ⟨i', b, d, z1, z2, z3⟩
    · rw [hk] at z1; cases z1
    · rw [hk] at z1; cases z1
      refine .inr ⟨k, _, _, w, d, b, hk, by rw [← z3]; simp [e3], by simp [e1], rfl, y1, y2, z2, ?_⟩
      rw [List.getD_eq_getElem?_getD, z2]; rfl
  · rw [gb_other hi] at h
    exact .inl ⟨hi, h⟩
theorem bors_ow {t : Slot} {b b' : Bool} {d : D} (h : t.bors b = .ow b' d) : ∃ b2, t = .ow b2 d := by
  cases t with
  | no => cases h
  | pin => cases h
  | sh _ _ => cases h
  | ow b2 _ => cases h; exact ⟨b2, rfl⟩
theorem bors_sh {t : Slot} {b b' : Bool} {d : D} (h : t.bors b = .sh b' d) : ∃ b2, t = .sh b2 d := by
  cases t with
  | no => cases h
  | pin => cases h
  | sh b2 _ => cases h; exact ⟨b2, rfl⟩
  | ow _ _ => cases h
theorem gb_ow {q1 : Fm} (nd : (lentIx gs).Nodup) (g : GaR Z H R0 s q ws gs) (hl : lent q gs = some as) (la : q1.length = ws.length) {b : Addr} (h : Ow s (giveBack gs q1 q) b) :
    (∃ (i : Nat) (b' : Bool) (d : D), i ∉ lentIx gs ∧ q[i]? = some (.ow b' d) ∧ s[i]? = some (some (.ref b))) ∨ Ow (ws.map some) q1 b := by
  obtain ⟨i, b', d, h1, h2⟩ := h
  rcases gb_cases nd g hl la h1 with ⟨n, e⟩ | ⟨k, t0, bb, w, d0, b0, e1, e2, e3, e4, e5, e6, e7, _⟩
  · exact .inl ⟨i, b', d, n, e, h2⟩
  · obtain ⟨b2, rfl⟩ := bors_ow e4.symm
    rw [h2] at e6; cases e6
    exact .inr ⟨k, b2, d, e3, mget e5⟩
theorem gb_lat {q1 : Fm} (f : FR Z R0 s q H) (nd : (lentIx gs).Nodup) (g : GaR Z H R0 s q ws gs) (hl : lent q gs = some as) (la : q1.length = ws.length) (l : Lat (Ow (ws.map some) as) H (Ow (ws.map some) q1) H') : Lat (Ow s q) H (Ow s (giveBack gs q1 q)) H' := by
  refine ⟨fun b o h n => l.kp b o h fun z => n (ow_up z), fun b z => ?_, l.tr⟩
  rcases gb_ow nd g hl la z with ⟨i, b', d, _, z1, z2⟩ | z
  · exact .inl ⟨i, b', d, z1, z2⟩
  · exact Or.elim (l.nw b z) (fun z => .inl (ow_up z)) .inr
where
  ow_up : ∀ {b : Addr}, Ow (ws.map some) as b → Ow s q b := fun {b} z => by
    obtain ⟨k, b', d, z1, z2⟩ := z
    rcases lent_at hl z1 with ⟨_, _, e2⟩ | ⟨i, b2, d2, e1, e2, e3⟩
    · cases e2
    · obtain ⟨w, y1, y2⟩ := g.at_b e1
      have := mget' z2
      rw [y1] at this; cases this
      exact ⟨i, b2, d2, e2, y2⟩
/-- xa: new places that the callee's answer owns -/
theorem gb_fr {q1 : Fm} {R1 R1c : Pr} (f : FR Z R0 s q H) (nd : (lentIx gs).Nodup) (g : GaR Z H R0 s q ws gs) (hl : lent q gs = some as) (l : Lat (Ow (ws.map some) as) H (Ow (ws.map some) q1) H')
    (fc : FR Z R1c (ws.map some) q1 H') (h0 : ∀ b, R1 b → R0 b ∨ H b = none) (hc : ∀ b, R1 b → R1c b) (hcc : ∀ b, R0c R0 s q gs b → R1c b) :
    FR Z R1 s (giveBack gs q1 q) H' ∧ ∀ b, Rt R1 s (giveBack gs q1 q) b → Rt R1c (ws.map some) q1 b := by
  have la : q1.length = ws.length := by rw [← fc.len, List.length_map]
  have up : ∀ b, Rt R1 s (giveBack gs q1 q) b → Rt R1c (ws.map some) q1 b := fun b z => by
    rcases z with z | z
    · exact .inl (hc b z)
    · rcases gb_ow nd g hl la z with z | z
      · exact .inl (hcc b (.inr z))
      · exact .inr z
  have lg := gb_lat f nd g hl la l
  have lr : Lat (Rt R0 s q) H (Rt R1 s (giveBack gs q1 q)) H' := (lg.more (S := R0)).less fun b z => by
    rcases z with z | z
    · exact Or.elim (h0 b z) (fun z => .inl (.inl z)) .inr
    · exact .inl (.inr z)
  have lu : Lat (Rt R1c (ws.map some) q1) H' (Rt R1 s (giveBack gs q1 q)) H' := Lat.sub up
  refine ⟨⟨by rw [gb_len]; exact f.len, fc.tb, fun b z => fc.trk b (hc b z), fun i b d e => ?_, fun i b d e => ?_, fun i j b b' d d' a e e' h1 h2 => ?_⟩, up⟩
  · rcases gb_cases nd g hl la e with ⟨n, e⟩ | ⟨k, t0, bb, w, d0, b0, e1, e2, e3, e4, e5, e6, e7, _⟩
    · obtain ⟨v, y1, y2⟩ := f.sh i b d e
      exact ⟨v, y1, y2.lat lr⟩
    · obtain ⟨b2, rfl⟩ := bors_sh e4.symm
      obtain ⟨v, y1, y2⟩ := fc.sh k b2 d e3
      have := mget' y1
      rw [e5] at this; cases this
      exact ⟨w, e6, y2.lat lu⟩
  · rcases gb_cases nd g hl la e with ⟨n, e⟩ | ⟨k, t0, bb, w, d0, b0, e1, e2, e3, e4, e5, e6, e7, _⟩
    · obtain ⟨a, y1, y2, ds, xs, y3, y4, y5⟩ := f.ow i b d e
      refine ⟨a, y1, fun z => Or.elim (h0 a z) y2 (fun z => by rw [y4] at z; cases z), ds, xs, y3, l.kp a _ y4 (fun z => ?_) (fun _ z => nomatch z), y5.lat lr⟩
      obtain ⟨k, b', d', z1, z2⟩ := z
      rcases lent_at hl z1 with ⟨_, _, e2⟩ | ⟨i', b2, d2, e1, e2, e3⟩
      · cases e2
      · obtain ⟨w, x1, x2⟩ := g.at_b e1
        have := mget' z2
        rw [x1] at this; cases this
        exact n ((f.sep i i' b b2 d d2 a e e2 y1 x2) ▸ lentIx_mem e1)
    · obtain ⟨b2, rfl⟩ := bors_ow e4.symm
      obtain ⟨a, y1, y2, y3⟩ := fc.ow k b2 d e3
      have := mget' y1
      rw [e5] at this; cases this
      exact ⟨a, e6, fun z => y2 (hc a z), y3.lat lu rfl⟩
  · rcases gb_cases nd g hl la e with ⟨n, e⟩ | ⟨k, t0, bb, w, d0, b0, e1, e2, e3, e4, e5, e6, e7, _⟩
    · rcases gb_cases nd g hl la e' with ⟨n', e'⟩ | ⟨k', t0', bb', w', d0', b0', e1', e2', e3', e4', e5', e6', e7', _⟩
      · exact f.sep i j b b' d d' a e e' h1 h2
      · obtain ⟨b2, rfl⟩ := bors_ow e4'.symm
        rw [h2] at e6'; cases e6'
        obtain ⟨a', y1, y2, _⟩ := fc.ow k' b2 d' e3'
        have := mget' y1
        rw [e5'] at this; cases this
        exact absurd (hcc a (.inr ⟨i, b, d, n, e, h1⟩)) y2
    · obtain ⟨b2, rfl⟩ := bors_ow e4.symm
      rw [h1] at e6; cases e6
      rcases gb_cases nd g hl la e' with ⟨n', e'⟩ | ⟨k', t0', bb', w', d0', b0', e1', e2', e3', e4', e5', e6', e7', _⟩
      · obtain ⟨a', y1, y2, _⟩ := fc.ow k b2 d e3
        have := mget' y1
        rw [e5] at this; cases this
        exact absurd (hcc a (.inr ⟨j, b', d', n', e', h2⟩)) y2
      · obtain ⟨b2', rfl⟩ := bors_ow e4'.symm
        rw [h2] at e6'; cases e6'
        have := fc.sep k k' b2 b2' d d' a e3 e3' (mget e5) (mget e5')
        subst this
        rw [e1] at e1'; cases e1'; rfl
theorem gb_bk {q1 : Fm} (nd : (lentIx gs).Nodup) (g : GaR Z H R0 s q ws gs) (hl : lent q gs = some as) (la : q1.length = ws.length) : BK q (giveBack gs q1 q) := by
  intro i ⟨t, h1, h2⟩
  rcases gb_cases nd g hl la h1 with ⟨n, e⟩ | ⟨k, t0, bb, w, d0, b0, e1, e2, e3, e4, e5, e6, e7, e8⟩
  · exact ⟨t, e, h2⟩
  · refine ⟨_, e7, ?_⟩
    subst e8 e4
    cases t0 with
    | no => cases h2
    | pin => cases h2
    | sh _ _ => exact h2
    | ow _ _ => exact h2
/-- a call: from the caller's answer to the promise's -/
theorem call_an {f : Nat} {Q : VK} (f0 : FR Z R0 s q H) (g : GaR Z H R0 s q ws gs) (h : An Z ex R0 s q H (PoV Z R0 s H) Q (callR K f gs q)) : spF Z K f ws H Q ex := by
  unfold callR at h
  by_cases nd : (lentIx gs).Nodup
  · rw [if_pos nd] at h
    cases hl : lent q gs with
    | none => rw [hl] at h; exact h.elim
    | some as =>
      rw [hl] at h
      dsimp only at h
      refine ⟨R0c R0 s q gs, as, lend f0 g nd hl, ?_⟩
      show An Z ex _ _ as H _ Q (noSlot (K.fn f as))
      cases hr : noSlot (K.fn f as) with
      | bad => rw [hr] at h; exact h.elim
      | exc c ds q1 =>
        rw [hr] at h
        intro d H1 l b fc x
        have la : q1.length = ws.length := by rw [← fc.len, List.length_map]
        obtain ⟨f1, up⟩ := gb_fr (R1 := R0) f0 nd g hl l fc (fun _ z => .inl z) (fun _ z => .inl z) (fun _ z => z)
        exact h d H1 (gb_lat f0 nd g hl la l) (gb_bk nd g hl la) f1 (x.lat (Lat.sub up))
      | ok r q1 =>
        rw [hr] at h
        intro w H1 l b p
        cases r with
        | slot i => 
          cases e : K.fn f as with
          | ok r2 q2 => rw [e] at hr; cases r2 <;> cases hr
          | exc _ _ _ => rw [e] at hr; cases hr
          | bad => rw [e] at hr; cases hr
        | val d =>
          obtain ⟨fc, rp⟩ := p
          have la : q1.length = ws.length := by rw [← fc.len, List.length_map]
          obtain ⟨f1, up⟩ := gb_fr (R1 := R0) f0 nd g hl l fc (fun _ z => .inl z) (fun _ z => .inl z) (fun _ z => z)
          exact h w H1 (gb_lat f0 nd g hl la l) (gb_bk nd g hl la) ⟨f1, rp.lat (Lat.sub up)⟩
        | new d =>
          obtain ⟨a, ew, hn, fc, o⟩ := p
          have la : q1.length = ws.length := by rw [← fc.len, List.length_map]
          obtain ⟨f1, up⟩ := gb_fr (R1 := P1 R0 a) f0 nd g hl l fc (fun _ z => Or.elim z .inl fun e => .inr (e ▸ hn)) (fun _ z => Or.elim z (fun z => .inl (.inl z)) .inr) (fun _ z => .inl z)
          exact h w H1 (gb_lat f0 nd g hl la l) (gb_bk nd g hl la) ⟨a, ew, hn, f1, o.lat (Lat.sub up) rfl⟩
  · rw [if_neg nd] at h; exact h.elim
end
section
variable {Z : Zc} {K : Calls} {ex : XK} {s : Sg} {H : Hp}
theorem lateV' {R0 : Pr} {q q1 : Fm} {H1 : Hp} {Q : VK} {r : Res RV} (l : Lat (Ow s q) H (Ow s q1) H1) (b : BK q q1) (h : An Z ex R0 s q H (PoV Z R0 s H) Q r) : An Z ex R0 s q1 H1 (PoV Z R0 s H1) Q r :=
  An.late l b (fun _ _ _ _ l2 p => p.early l) h
theorem tE_call {f : Nat} {gs : Gs} {pk : Bool} {Q : VK} (h : tE Z K ex (.call f gs) pk s H Q) : tGs Z K ex gs s H fun vs H1 => spF Z K f vs H1 Q ex := by
  unfold tE at h
  rw [show ev K (.call f gs) pk = fun q => bindR (evG K gs q) fun l q1 => callR K f l q1 from rfl] at h
  refine TR.bind h fun R0 q q1 a w H1 f0 l b p z => ?_
  exact call_an p.1 p.2 (lateV' l b z)
/-- with one new list, handed over -/
theorem after_own {R0 R2 : Pr} {q1 : Fm} {H1 H2 : Hp} {a : Addr} (f1 : FR Z (P1 R0 a) s q1 H1) (kp : ∀ b o, H1 b = some o → b ≠ a → NT o → H2 b = some o) (tr : ∀ b, H1 b ≠ none → H2 b ≠ none) (tb : Grd Z H2)
    (h2 : ∀ b, R2 b → R0 b ∨ H1 b = none) (ht : ∀ b, R2 b → H2 b ≠ none) : FR Z R2 s q1 H2 := by
  have lt : Lat (Rt (P1 R0 a) s q1) H1 (Rt R2 s q1) H2 := ⟨fun b o hb n => kp b o hb fun e => n (.inl (.inr e)), fun b y => by
    rcases y with y | y
    · exact Or.elim (h2 b y) (fun y => .inl (.inl (.inl y))) .inr
    · exact .inl (.inr y), tr⟩
  refine ⟨f1.len, tb, ht, fun i b d e => ?_, fun i b d e => ?_, f1.sep⟩
  · obtain ⟨v, e1, e2⟩ := f1.sh i b d e
    exact ⟨v, e1, e2.lat lt⟩
  · obtain ⟨a', e1, n, ds', xs', e2, e3, e4⟩ := f1.ow i b d e
    exact ⟨a', e1, fun y => Or.elim (h2 a' y) (fun y => n (.inl y)) (fun y => by rw [e3] at y; cases y), ds', xs', e2, kp _ _ e3 (fun e => n (.inr e)) (fun _ z => nomatch z), e4.lat lt⟩
theorem os1 {a b : Addr} {q : Fm} (y : Ow [some (.ref a)] q b) : b = a := by
  obtain ⟨i, b', d', y1, y2⟩ := y
  cases i with
  | zero => simpa using y2.symm
  | succ i => simp at y2
/-- with one new list, handed over -/
theorem tE_callO {f : Nat} {e : E} {pk : Bool} {Q : VK} (h : tE Z K ex (.callO f e) pk s H Q) : tE Z K ex e false s H fun v H1 => spF Z K f [v] H1 Q ex := by
  unfold tE at h
  rw [show ev K (.callO f e) pk = fun q => bindR (ev K e false q) fun r q1 => match r with
    | .new d => match noSlot (K.fn f [.ow false d]) with
      | .ok r' _ => .ok r' q1
      | .exc c ds _ => .exc c ds q1
      | .bad => .bad
    | _ => .bad from rfl] at h
  refine TR.bind h fun R0 q q1 r w H1 f0 l b p z => ?_
  cases r with
  | val d => exact z.elim
  | slot d => exact z.elim
  | new d =>
    dsimp only at z
    obtain ⟨a, rfl, hn, f1, ds, xs, hd, ha, hr⟩ := p
    have nw : ¬ Rt R0 s q1 a := fun y => by
      rcases y with y | ⟨i, b', d', y1, y2⟩
      · exact f0.trk a y hn
      · obtain ⟨a', e1, n, _⟩ := f1.ow i b' d' y1
        rw [y2] at e1; cases e1
        exact n (.inr rfl)
    have fc : FR Z (Rt R0 s q1) [some (.ref a)] [.ow false d] H1 := by
      refine ⟨rfl, f1.tb, fun b hb => (f1.fewer fun _ y => .inl y).rtT hb, fun i b d e => ?_, fun i b d e => ?_, fun i j b b' d d' a' e e' h1 h2 => ?_⟩
      · cases i with
        | zero => simp at e
        | succ i => simp at e
      · cases i with
        | zero =>
          simp at e
          obtain ⟨rfl, rfl⟩ := e
          refine ⟨a, rfl, nw, ds, xs, hd, ha, hr.lat (Lat.sub fun b y => ?_)⟩
          rcases y with (y | y) | y
          · exact .inl (.inl y)
          · exact .inr y
          · exact .inl (.inr (os1 y))
        | succ i => simp at e
      · cases i with
        | zero =>
          cases j with
          | zero => rfl
          | succ j => simp at e'
        | succ i => simp at e
    refine ⟨Rt R0 s q1, [.ow false d], fc, ?_⟩
    show An Z ex _ _ _ H1 _ Q (noSlot (K.fn f [.ow false d]))
    have lc : ∀ {q2 : Fm} {H2 : Hp}, Lat (Ow [some (.ref a)] [.ow false d]) H1 (Ow [some (.ref a)] q2) H2 → Lat (Ow s q) H (Ow s q1) H2 := fun {q2 H2} l2 => by
      refine ⟨fun b o hb n t => l2.kp b o (l.kp b o hb n t) (fun y => ?_) t, l.nw, fun b hb => l2.tr b (l.tr b hb)⟩
      have e := os1 y
      subst e
      rw [hb] at hn; cases hn
    have kp : ∀ {q2 : Fm} {H2 : Hp}, Lat (Ow [some (.ref a)] [.ow false d]) H1 (Ow [some (.ref a)] q2) H2 → ∀ b o, H1 b = some o → b ≠ a → NT o → H2 b = some o := fun {q2 H2} l2 b o hb n => l2.kp b o hb fun y => n (os1 y)
    cases hr : noSlot (K.fn f [.ow false d]) with
    | bad => rw [hr] at z; exact z.elim
    | exc c ds q2 =>
      rw [hr] at z
      intro d2 H2 l2 b2 f2 x
      refine z d2 H2 (lc l2) b (after_own f1 (kp l2) l2.tr f2.tb (fun _ y => .inl y) fun b y => f2.trk b (.inl y)) (x.lat (Lat.sub fun b y => .inl y))
    | ok r2 q2 =>
      rw [hr] at z
      intro w H2 l2 b2 p2
      cases r2 with
      | slot i =>
        cases e : K.fn f [.ow false d] with
        | ok r3 q3 => rw [e] at hr; cases r3 <;> cases hr
        | exc _ _ _ => rw [e] at hr; cases hr
        | bad => rw [e] at hr; cases hr
      | val d2 =>
        obtain ⟨f2, rp⟩ := p2
        exact z w H2 (lc l2) b ⟨after_own f1 (kp l2) l2.tr f2.tb (fun _ y => .inl y) fun b y => f2.trk b (.inl y), rp.lat (Lat.sub fun b y => .inl y)⟩
      | new d2 =>
        obtain ⟨a2, ew, hn2, f2, o⟩ := p2
        refine z w H2 (lc l2) b ⟨a2, ew, l.new hn2, after_own f1 (kp l2) l2.tr f2.tb (fun _ y => Or.elim y .inl fun e => .inr (e ▸ hn2)) (fun b y => f2.trk b (Or.elim y (fun y => .inl (.inl y)) .inr)), o.lat (Lat.sub fun b y => ?_) rfl⟩
        rcases y with (y | y) | y
        · exact .inl (.inl (.inl y))
        · exact .inl (.inr y)
        · exact .inl (.inl (.inr y))
/-- a property -/
theorem tE_prop {c f : Nat} {e : E} {pk : Bool} {Q : VK} (h : tE Z K ex (.prop c f e) pk s H Q) : tE Z K ex e false s H fun v H1 => (∃ R ds, Rep Z H1 R v (.ins c ds)) ∧ spF Z K f [v] H1 Q E0 := by
  unfold tE at h
  rw [show ev K (.prop c f e) pk = fun q => bindR (ev K e false q) fun r q1 => match r with
    | .val (.ins c' fs) => if c' = c then match noSlot (K.fn f [.sh false (.ins c fs)]) with
        | .ok r' _ => .ok r' q1
        | _ => .bad
      else .bad
    | _ => .bad from rfl] at h
  refine TR.bind h fun R0 q q1 r w H1 f0 l b p z => ?_
  cases r with
  | new d => exact z.elim
  | slot d => exact z.elim
  | val d =>
    cases d with
    | ins c' fs =>
      dsimp only at z
      by_cases hc : c' = c
      case neg => rw [if_neg hc] at z; exact z.elim
      rw [if_pos hc] at z
      have hc2 := hc.symm
      subst hc2
      refine ⟨⟨_, fs, p.2⟩, ?_⟩
      have z1 : An Z ex R0 s q H (PoV Z R0 s H) Q (match noSlot (K.fn f [.sh false (.ins c fs)]) with
        | .ok r' _ => .ok r' q1
        | _ => .bad) := z
      refine call_an (ex := E0) (gs := [.v (.ins c fs)]) (ws := [w]) (f := f) (H := H1) p.1 ⟨p.2, True.intro⟩ (lateV' l b ?_)
      have : callR K f [.v (.ins c fs)] q1 = (match noSlot (K.fn f [.sh false (.ins c fs)]) with
        | .ok r' _ => .ok r' q1
        | .exc c ds _ => .exc c ds q1
        | .bad => .bad) := by
        unfold callR
        rw [if_pos (show (lentIx [Ga.v (.ins c fs)]).Nodup from List.nodup_nil)]
        show (match noSlot (K.fn f [.sh false (.ins c fs)]) with
          | .ok r as' => Res.ok r (giveBack [.v (.ins c fs)] as' q1)
          | .exc c' ds as' => .exc c' ds (giveBack [.v (.ins c fs)] as' q1)
          | .bad => .bad) = _
        have gb : ∀ as' : Fm, giveBack [.v (.ins c fs)] as' q1 = q1 := fun as' => by cases as' <;> rfl
        simp only [gb]
      rw [this]
      cases hr : noSlot (K.fn f [.sh false (.ins c fs)]) with
      | bad => rw [hr] at z1; exact z1.elim
      | exc _ _ _ => rw [hr] at z1; exact z1.elim
      | ok r' q2 => rw [hr] at z1; exact z1
    | _ => exact z.elim
theorem gaR_get {R0 : Pr} {q : Fm} : ∀ {ws : List V} {gs : List Ga} (i : Nat), GaR Z H R0 s q ws gs → (ws[i]? = none ∧ gs[i]? = none) ∨ ∃ w g, ws[i]? = some w ∧ gs[i]? = some g ∧ GaR Z H R0 s q [w] [g]
  | [], [], i, _ => .inl ⟨by simp, by simp⟩
  | w :: ws, .v d :: gs, 0, h => .inr ⟨w, .v d, rfl, rfl, h.1, True.intro⟩
  | w :: ws, .b d :: gs, 0, h => .inr ⟨w, .b d, rfl, rfl, h.1, True.intro⟩
  | w :: ws, .v d :: gs, i + 1, h => by simpa using gaR_get i h.2
  | w :: ws, .b d :: gs, i + 1, h => by simpa using gaR_get i h.2
  | [], _ :: _, _, h => h.elim
  | _ :: _, [], _, h => h.elim
theorem gaR_pick {R0 : Pr} {q : Fm} {ws : List V} {gs : List Ga} (h : GaR Z H R0 s q ws gs) : ∀ pm : List Nat, GaR Z H R0 s q (pick pm ws) (pick pm gs)
  | [] => True.intro
  | i :: pm => by
    have ih := gaR_pick h pm
    unfold pick at ih ⊢
    rw [List.filterMap_cons, List.filterMap_cons]
    rcases gaR_get i h with ⟨e1, e2⟩ | ⟨w, g, e1, e2, r⟩
    · rw [e1, e2]; exact ih
    · rw [e1, e2]
      cases g with
      | v d => exact ⟨r.1, ih⟩
      | b d => exact ⟨r.1, ih⟩
end
end M

set_option Elab.async false
set_option linter.all false
set_option maxRecDepth 100000
set_option maxHeartbeats 4000000
/-! G1: defs called where nothing is being shown (repr wants to know it); positional values, keywords, classes. -/
namespace M
open PySem L2 PyProof.Rows SlX

/-- nothing is being shown -/
def Qu (A : Around) : Prop := A.guards = some []
theorem Qu.deeper {A : Around} {env : Env} (q : Qu A) : Qu (A.deeper env) := q
theorem Qu.in1 {A : Around} (q : Qu A) : Qu A.in1 := q
theorem Qu.make {A : Around} {C : Addr} {us : List Value} {kw : List (Str × Value)} (q : Qu A) : Qu (A.under (.builtin "type.__call__" ⟨.ref C :: us, kw⟩)) := by
  unfold Qu at q ⊢
  show pushGuards (Code.guards (.builtin "type.__call__" ⟨.ref C :: us, kw⟩)) A.guards = _
  rw [q]
  rfl
section
variable (P : Program) (w : World) (K : PySem.W.Frag) (mg : Str → Option Value) (base : Heap) (CX : CXT) (k : Nat) (f : Addr)
/-- the promise of a def, whatever the call's form -/
structure FnA (fd : FuncData) (ps : List Str) (sp : Sp) : Prop where
  len : ∀ vs H Q E, sp vs H Q E → vs.length = ps.length
  run : ∀ (A : Around) (below : List Env) (s0 : Shared) (H : Hp) (gv : Args) (us : List Value) (vs : List V) (Q : VK) (E : XK), Qu A → Room k A → Env0 P w K mg base A below s0 H → BindsTo s0 fd gv (ps.zip us) → Vals vs us → sp vs H Q E →
    codeAny (model P w) A (.call (.ref f) gv) (CR CX below P w H s0 Q E) s0
/-- .. by position -/
def FnG (sp : Sp) : Prop := ∀ (A : Around) (below : List Env) (s0 : Shared) (H : Hp) (us : List Value) (vs : List V) (Q : VK) (E : XK), Qu A → Room k A → Env0 P w K mg base A below s0 H → Vals vs us → sp vs H Q E →
  codeAny (model P w) A (.call (.ref f) ⟨us, []⟩) (CR CX below P w H s0 Q E) s0
/-- .. n values by position, then the names ks; pm: how they come into the parameters' order -/
def FnK (n : Nat) (ks : List Str) (pm : List Nat) (sp : Sp) : Prop := ∀ (A : Around) (below : List Env) (s0 : Shared) (H : Hp) (us ws : List Value) (vs zs : List V) (Q : VK) (E : XK), Qu A → Room k A → Env0 P w K mg base A below s0 H → Vals vs us → Vals zs ws →
  vs.length = n → zs.length = ks.length → sp (pick pm (vs ++ zs)) H Q E → codeAny (model P w) A (.call (.ref f) ⟨us, ks.zip ws⟩) (CR CX below P w H s0 Q E) s0
end
theorem vals_get {vs : List V} {us : List Value} (h : Vals vs us) : ∀ i : Nat, (vs[i]? = none ∧ us[i]? = none) ∨ ∃ v u, vs[i]? = some v ∧ us[i]? = some u ∧ RelV v u := by
  induction h with
  | nil => exact fun i => .inl ⟨by simp, by simp⟩
  | cons r _ ih =>
    intro i
    cases i with
    | zero => exact .inr ⟨_, _, rfl, rfl, r⟩
    | succ i => simpa using ih i
theorem vals_pick {vs : List V} {us : List Value} (h : Vals vs us) : ∀ pm : List Nat, Vals (M.pick pm vs) (M.pick pm us)
  | [] => .nil
  | i :: pm => by
    unfold M.pick
    rw [List.filterMap_cons, List.filterMap_cons]
    rcases vals_get h i with ⟨e1, e2⟩ | ⟨v, u, e1, e2, r⟩
    · rw [e1, e2]; exact vals_pick h pm
    · rw [e1, e2]; exact .cons r (vals_pick h pm)
/-- how a call with names binds -/
def KB (K : PySem.W.Frag) (fd : FuncData) (ps : List Str) (n : Nat) (ks : List Str) (pm : List Nat) : Prop :=
  ∀ (s0 : Shared) (us ws : List Value), K.In s0.heap → us.length = n → ws.length = ks.length → BindsTo s0 fd ⟨us, ks.zip ws⟩ (ps.zip (pick pm (us ++ ws)))
section
variable {P : Program} {w : World} {K : PySem.W.Frag} {mg : Str → Option Value} {base : Heap} {CX : CXT} {j k n : Nat} {f : Addr} {fd : FuncData} {ps ks : List Str} {pm : List Nat} {sp sp' : Sp}
theorem FnG.mono (F : FnG P w K mg base CX j f sp) (h : j ≤ k) : FnG P w K mg base CX k f sp := fun A b s0 H us vs Q E q r => F A b s0 H us vs Q E q (r.mono h)
theorem FnA.pos (F : FnA P w K mg base CX k f fd ps sp) (hb : Binds K fd ps []) : FnG P w K mg base CX k f sp := fun A below s0 H us vs Q E q hr e0 r h => by
  have l : us.length = ps.length := by rw [← r.length]; exact F.len _ _ _ _ h
  have z := hb s0 us (e0.mod.kin.keeps fun b o e => (e0.bs b o e).1) (by rw [List.append_nil]; exact l)
  rw [List.append_nil] at z
  exact F.run A below s0 H ⟨us, []⟩ us vs Q E q hr e0 z r h
theorem FnA.kws (F : FnA P w K mg base CX k f fd ps sp) (hb : KB K fd ps n ks pm) : FnK P w K mg base CX k f n ks pm sp := fun A below s0 H us ws vs zs Q E q hr e0 r rz l1 l2 h => by
  have kin : K.In s0.heap := e0.mod.kin.keeps fun b o e => (e0.bs b o e).1
  exact F.run A below s0 H ⟨us, ks.zip ws⟩ (pick pm (us ++ ws)) (pick pm (vs ++ zs)) Q E q hr e0 (hb s0 us ws kin (r.length.symm.trans l1) (rz.length.symm.trans l2)) (vals_pick (r.append rz) pm) h
/-- from the walk of a def's body -/
theorem fnA_of {x qual : Str} {st : Stmt} {N : List Str} (Fu : L2.Fun K x qual st f fd) (S : FnScope N ps (defScope st)) (len : ∀ vs H Q E, sp vs H Q E → vs.length = ps.length)
    (walk : ∀ (cdv : Value) (A : Around) (below : List Env) (s0 : Shared) (H : Hp) (vs : List V) (Q : VK) (E : XK), Qu A → Room k (A.deeper (envOfC qual (defScope st) s0.heap.objs.size f cdv)) → sp vs H Q E →
      ∃ t, PSs (cxOf CX P w K mg base N qual (defScope st) f cdv A below s0 H E) (defBody st) t ∧ t { nx := fun _ H2 => Q .non H2, rt := Q } (L2.start N vs) H) : FnA P w K mg base CX (k + 1) f fd ps sp := by
  obtain ⟨oc, od, kV, doc, pm, an, cdv, ct, osl, rfl, lk, hcd⟩ := Fu.ex
  refine ⟨len, fun A below s0 H gv us vs Q E qu room e0 hb rv hs => ?_⟩
  have kin : K.In s0.heap := e0.mod.kin.keeps fun b o e => (e0.bs b o e).1
  have lim : s0.heap.NoLimit := e0.mod.nolimit.keeps fun b o e => (e0.bs b o e).1
  refine codeAny_call_function room.depth (kin _ _ lk) rfl S.co S.gen rfl (PySem.W.codeRec_of kin hcd) (hb _ _ _ _ ?_)
  refine wpAny_newFunctionEnv_cells S.kind (fun y hy => ?_) fun env he s1 inn => ?_
  · rcases S.par y.1 (List.of_mem_zip (show (y.1, y.2) ∈ ps.zip us from hy)).1 with z | z
    · exact .inl z
    · exact .inr ⟨z, PySem.W.cellsFrom_some _ _ _ (.inl z)⟩
  · subst he
    obtain ⟨t, ht, hz⟩ := walk cdv A below s0 H vs Q E qu (room.deeper _) hs
    have I := inv_start (CX := CX) (f := f) (cd := cdv) (E := E) S room.hd e0 (len _ _ _ _ hs) rv inn
    refine ⟨lim.keeps inn.toInCall.keep, codeAny_func (wpAny_mono (ht.run [] s1 (L2.start N vs) H _ I hz) (fun fl s2 z => ?_) fun e s2 z => z)⟩
    cases fl with
    | ret u => obtain ⟨v, σ2, H2, J, r2, z⟩ := z; exact ⟨v, H2, J.os, J.bare, J.base, J.hok, r2, z⟩
    | next => obtain ⟨σ2, H2, J, z⟩ := z; exact ⟨.non, H2, J.os, J.bare, J.base, J.hok, rfl, z⟩
    | brk => obtain ⟨_, _, _, z⟩ := z; exact z.elim
    | cont => obtain ⟨_, _, _, z⟩ := z; exact z.elim
end
section
variable {X : Cx} {CX : CXT} {k n : Nat} {f C : Addr} {sp : Sp} {E : XK} {Q : VK} {pins : List (Addr × Obj)} {σ : Sg} {H : Hp} {s : Shared} {us ws : List Value} {vs zs : List V} {ks : List Str} {pm : List Nat}
/-- behind a call: what the callee's end is to the caller -/
def Came (X : Cx) (pins : List (Addr × Obj)) (σ : Sg) (Q : VK) (r : Result) (s2 : Shared) : Prop := match r with
  | .ok (.ret v) => EP X pins σ Q v s2
  | .ok _ => False
  | .error e => X.xe e s2
theorem came {r : Result} {s2 : Shared} (hx : Passes CX X E) (I : Inv X pins σ H s) (h : CR CX X.stack X.prog X.w H s Q E r s2) : Came X pins σ Q r s2 := by
  cases r with
  | error e => exact hx pins σ H s e s2 I h
  | ok fl =>
    cases fl with
    | ret u => exact I.after h
    | next => exact h
    | brk => exact h
    | cont => exact h
theorem run_G {A : Around} (F : FnG X.prog X.w X.K X.mg X.base CX k f sp) (q : Qu A) (hr : Room k A) (e0 : Env0 X.prog X.w X.K X.mg X.base A X.stack s H) (hx : Passes CX X E) (I : Inv X pins σ H s) (r : Vals vs us) (h : sp vs H Q E) :
    codeAny (model X.prog X.w) A (.call (.ref f) ⟨us, []⟩) (Came X pins σ Q) s := codeAny_mono (F A X.stack s H us vs Q E q hr e0 r h) fun _ _ z => came hx I z
theorem run_K {A : Around} (F : FnK X.prog X.w X.K X.mg X.base CX k f n ks pm sp) (q : Qu A) (hr : Room k A) (e0 : Env0 X.prog X.w X.K X.mg X.base A X.stack s H) (hx : Passes CX X E) (I : Inv X pins σ H s) (r : Vals vs us) (rz : Vals zs ws) (l1 : vs.length = n) (l2 : zs.length = ks.length) (h : sp (pick pm (vs ++ zs)) H Q E) :
    codeAny (model X.prog X.w) A (.call (.ref f) ⟨us, ks.zip ws⟩) (Came X pins σ Q) s := codeAny_mono (F A X.stack s H us ws vs zs Q E q hr e0 r rz l1 l2 h) fun _ _ z => came hx I z
/-- a new instance: its __init__ has been run -/
def MadeE (X : Cx) (pins : List (Addr × Obj)) (σ : Sg) (Q2 : VK) (x : Addr) (r : Result) (s2 : Shared) : Prop := match r with
  | .ok (.ret v) => v = .none ∧ EP X pins σ Q2 (.ref x) s2
  | .ok _ => False
  | .error e => X.xe e s2
theorem made_end {r : Result} {s2 : Shared} {x : Addr} {Q2 : VK} (h : Came X pins σ (fun v H2 => v = .non ∧ Q2 (.ref x) H2) r s2) : MadeE X pins σ Q2 x r s2 := by
  cases r with
  | error e => exact h
  | ok fl =>
    cases fl with
    | ret u =>
      obtain ⟨v, H2, I2, rv, ev, z⟩ := h
      subst ev
      exact ⟨rv, .ref x, H2, I2, rfl, z⟩
    | next => exact h
    | brk => exact h
    | cont => exact h
theorem run_makeG (M : Mk X.K C f) (F : FnG X.prog X.w X.K X.mg X.base CX k f sp) (q : Qu X.A) (hr : Room (k + 1) X.A) (hx : Passes CX X E) (I : Inv X pins σ H s) (r : Vals vs us)
    (h : ∀ x dx, H x = none → H dx = none → dx ≠ x → sp (.ref x :: vs) (upd (upd H dx (.own x)) x (.ins C dx [])) (fun v H2 => v = .non ∧ Q (.ref x) H2) E) : wpAny (model X.prog X.w) X.A (call (.ref C) us) (EP X pins σ Q) X.xe s := by
  have z := h (s.heap.objs.size + 1) s.heap.objs.size (I.hok.fresh (Nat.le_succ _)) (I.hok.fresh (Nat.le_refl _)) (Nat.ne_of_lt (Nat.lt_succ_self _))
  have I2 := Inv.made (C := C) I
  refine wpAny_call (make_map (f := f) I.kIn M.makes M.init (beq_iff_eq.mp M.fn) (codeAny_mono (run_G (us := .ref (s.heap.objs.size + 1) :: us) (vs := .ref (s.heap.objs.size + 1) :: vs) F q.make (hr.make C us []) (I2.env0.make C us []) hx I2 (.cons rfl r) z) fun rr s2 y => ?_))
  have y2 := made_end y
  cases rr with
  | error e => exact y2
  | ok fl => cases fl <;> exact y2
theorem run_makeKw (M : Mk X.K C f) (F : FnK X.prog X.w X.K X.mg X.base CX k f (n + 1) ks pm sp) (q : Qu X.A) (hr : Room (k + 1) X.A) (hx : Passes CX X E) (I : Inv X pins σ H s) (r : Vals vs us) (rz : Vals zs ws) (l1 : vs.length = n) (l2 : zs.length = ks.length)
    (h : ∀ x dx, H x = none → H dx = none → dx ≠ x → sp (pick pm (.ref x :: vs ++ zs)) (upd (upd H dx (.own x)) x (.ins C dx [])) (fun v H2 => v = .non ∧ Q (.ref x) H2) E) : wpAny (model X.prog X.w) X.A (call (.ref C) us (ks.zip ws)) (EP X pins σ Q) X.xe s := by
  have z := h (s.heap.objs.size + 1) s.heap.objs.size (I.hok.fresh (Nat.le_succ _)) (I.hok.fresh (Nat.le_refl _)) (Nat.ne_of_lt (Nat.lt_succ_self _))
  have I2 := Inv.made (C := C) I
  refine wpAny_call (make_map (f := f) I.kIn M.makes M.init (beq_iff_eq.mp M.fn) (codeAny_mono (run_K (us := .ref (s.heap.objs.size + 1) :: us) (vs := .ref (s.heap.objs.size + 1) :: vs) F q.make (hr.make C us (ks.zip ws)) (I2.env0.make C us (ks.zip ws)) hx I2 (.cons rfl r) rz (by rw [List.length_cons, l1]) l2 z) fun rr s2 y => ?_))
  have y2 := made_end y
  cases rr with
  | error e => exact y2
  | ok fl => cases fl <;> exact y2
end
end M

set_option Elab.async false
set_option linter.all false
set_option maxRecDepth 100000
set_option maxHeartbeats 4000000
/-! A9: the program's expressions and our trees. -/
namespace M
open PySem L2 PyProof.Rows

/-- the world that stays -/
structure Wo where
  P : Program
  w : World
  mg : Str → Option Value
  base : Heap
  Z : Zc
  K : Calls
  hot : Bool
structure Gd (W : Wo) (n : Nat) (X : Cx) (ex : XK) : Prop where
  hP : X.prog = W.P
  hw : X.w = W.w
  hK : X.K = W.Z.K
  hm : X.mg = W.mg
  hb : X.base = W.base
  calm1 : W.hot = false → X.calm = true
  nd : X.N.Nodup
  rm : L2H.RoomH n X.A
  hd1 : W.hot = false → X.A.handled = none
  ps : Passes (L2.CX X.prog X.w) X ex
  qu : Qu X.A
/-- nothing is handled -/
class Calm (W : Wo) : Prop where
  h : W.hot = false
theorem Gd.calm {W : Wo} [c : Calm W] {n : Nat} {X : Cx} {ex : XK} (g : Gd W n X ex) : X.calm = true := g.calm1 c.h
theorem Gd.room {W : Wo} [c : Calm W] {n : Nat} {X : Cx} {ex : XK} (g : Gd W n X ex) : Room n X.A := ⟨g.hd1 c.h, g.rm.dp, g.rm.un⟩
theorem Gd.units {W : Wo} {n : Nat} {X : Cx} {ex : XK} (g : Gd W n X ex) : X.A.units + 64 < cLine := by have := g.rm.un; omega
theorem Gd.un {W : Wo} {n : Nat} {X : Cx} {ex : XK} (g : Gd W n X ex) : X.A.units + 65 < cLine := by have := g.rm.un; omega
def ME (W : Wo) (X : Cx) (ex : XK) (e : Expr) (t : E) : Prop := ∀ pk, PE X e (tE W.Z W.K ex t pk)
def MT (W : Wo) (X : Cx) (ex : XK) (e : Expr) (t : T) : Prop := PT X e (tT W.Z W.K ex t)
def MW (W : Wo) (X : Cx) (ex : XK) (e : Expr) (t : T) : Prop := PW X e (tT W.Z W.K ex t)
def MA (W : Wo) (X : Cx) (ex : XK) (es : List Expr) (t : As) : Prop := PA X es (tA W.Z W.K ex t)
def MG (W : Wo) (X : Cx) (ex : XK) (es : List Expr) (t : Gs) : Prop := PA X es (tGs W.Z W.K ex t)
/-- a def by its name -/
structure Fd (W : Wo) (n : Nat) (x : Str) (f : Nat) : Prop where
  ex : ∃ a, FnG W.P W.w W.Z.K W.mg W.base (L2.CX W.P W.w) n a (spF W.Z W.K f) ∧ W.mg x = some (.ref a) ∧ PySem.W.keepIn W.Z.K (.ref a) = true
section
variable {W : Wo} {X : Cx} {ex : XK} {n : Nat} {pos p1 p2 p3 p4 : Pos} {a b c : Expr} {A B C : E} {x : Str}
theorem opr_or {f : Value → Value → Sem Value} {r r' : R2} (h : OpR X f r) (h' : OpR X f r') : OpR X f (fun x y H Q => r x y H Q ∨ r' x y H Q) := by
  intro pins s σ H x y v u Q I r1 r2 q
  rcases q with q | q
  · exact h pins s σ H x y v u Q I r1 r2 q
  · exact h' pins s σ H x y v u Q I r1 r2 q
theorem callr_or {f : Value} {r r' : List V → Hp → VK → Prop} (h : CallR X f r) (h' : CallR X f r') : CallR X f (fun x H Q => r x H Q ∨ r' x H Q) := by
  intro pins s σ H x v Q I r1 q
  rcases q with q | q
  · exact h pins s σ H x v Q I r1 q
  · exact h' pins s σ H x v Q I r1 q
theorem me_var (i : Nat) (hN : X.N[i]? = some x := by rfl) (hv : Vis X.env.scope x := by first | exact Or.inl rfl | exact Or.inr (Or.inl rfl) | exact Or.inr (Or.inr rfl)) (hd : (x == ("__debug__" : Str)) = false := by decide)
    (hcd : (x == ("__classdict__" : Str)) = false := by decide) : ME W X ex (.Name x pos) (.var i) := fun pk => (pe_var hN hv hd hcd).imp fun _ _ _ h => tE_var h
theorem lit_of {e : E} {pk : Bool} {d : D} {s : Sg} {H : Hp} {Q : VK} {v : V} (hv : ∀ R, Rep W.Z H R v d) (he : ∀ q, ev W.K e pk q = .ok (.val d) q) (h : tE W.Z W.K ex e pk s H Q) : Q v H := by
  obtain ⟨R, k⟩ := tE_lit h he
  exact k v (hv R)
theorem me_int {i : Int} {j : Nat} : ME W X ex (.Constant (.int i) j pos) (.con (.int i)) := fun pk => pe_int.imp fun _ _ _ h => lit_of (fun _ => .int i) (fun _ => rfl) h
theorem me_bl {i : Bool} {j : Nat} : ME W X ex (.Constant (.bool i) j pos) (.con (.bl i)) := fun pk => pe_bl.imp fun _ _ _ h => lit_of (fun _ => .bl i) (fun _ => rfl) h
theorem me_non {j : Nat} : ME W X ex (.Constant .none j pos) (.con .non) := fun pk => pe_non.imp fun _ _ _ h => lit_of (fun _ => .non) (fun _ => rfl) h
theorem me_str {i : Str} {j : Nat} : ME W X ex (.Constant (.str i) j pos) (.con (.str i)) := fun pk => pe_str.imp fun _ _ _ h => lit_of (fun _ => .str i) (fun _ => rfl) h
theorem me_gInt (g : Gd W n X ex) {i : Int} {t : Tok} (hm : W.mg x = some (.int i t)) (hg : Gl X x := by rfl) (hd : (x == ("__debug__" : Str)) = false := by decide) : ME W X ex (.Name x pos) (.glo x (.int i)) :=
  fun pk => (pe_glob (v := .int i) hg (by rw [g.hm]; exact hm) ⟨t, rfl⟩ hd).imp fun _ _ _ h => lit_of (fun _ => .int i) (fun _ => rfl) h
theorem me_gStr (g : Gd W n X ex) {i : Str} {t : Tok} (hm : W.mg x = some (.str i t)) (hg : Gl X x := by rfl) (hd : (x == ("__debug__" : Str)) = false := by decide) : ME W X ex (.Name x pos) (.glo x (.str i)) :=
  fun pk => (pe_glob (v := .str i) hg (by rw [g.hm]; exact hm) ⟨t, rfl⟩ hd).imp fun _ _ _ h => lit_of (fun _ => .str i) (fun _ => rfl) h
/-! two operands -/
theorem me_op {op : Operator} {p : P} {r : R2} (ho : OpR X (binaryOp op) r) (hp : ∀ x y H Q, PrimPost W.Z p [x, y] H Q → r x y H Q) (ha : ME W X ex a A) (hb : ME W X ex b B) :
    ME W X ex (.BinOp a op b pos) (.prm p (.cons A (.cons B .nil))) := fun pk => (pe_op ho (ha true) (hb true)).imp fun s H Q h => by
  exact (tEs2 (tE_prm h)).mono fun x H1 z => z.mono fun y H2 z => hp x y H2 Q z
theorem me_add (ha : ME W X ex a A) (hb : ME W X ex b B) (g : Gd W n X ex) : ME W X ex (.BinOp a .Add b pos) (.prm .add (.cons A (.cons B .nil))) :=
  me_op (opr_or op_add (opr_or op_add_str (opr_or op_catA op_catL))) (fun x y H Q h => by rw [g.hK]; exact pr_add h) ha hb
theorem me_sub (ha : ME W X ex a A) (hb : ME W X ex b B) : ME W X ex (.BinOp a .Sub b pos) (.prm .sub (.cons A (.cons B .nil))) := me_op op_sub (fun x y H Q h => pr_sub h) ha hb
theorem me_mul (ha : ME W X ex a A) (hb : ME W X ex b B) (g : Gd W n X ex) : ME W X ex (.BinOp a .Mult b pos) (.prm .mul (.cons A (.cons B .nil))) :=
  me_op (opr_or op_mulB (opr_or op_repA op_repLA)) (fun x y H Q h => by rw [g.hK]; exact pr_mul h) ha hb
theorem me_mod (ha : ME W X ex a A) (hb : ME W X ex b B) : ME W X ex (.BinOp a .Mod b pos) (.prm .mod (.cons A (.cons B .nil))) := me_op op_modN (fun x y H Q h => pr_mod h) ha hb
theorem me_fdiv (ha : ME W X ex a A) (hb : ME W X ex b B) : ME W X ex (.BinOp a .FloorDiv b pos) (.prm .fdiv (.cons A (.cons B .nil))) := me_op op_fdivM (fun x y H Q h => pr_fdiv h) ha hb
theorem me_pow (ha : ME W X ex a A) (hb : ME W X ex b B) : ME W X ex (.BinOp a .Pow b pos) (.prm .pow (.cons A (.cons B .nil))) := me_op op_pow (fun x y H Q h => pr_pow h) ha hb
theorem me_neg (ha : ME W X ex a A) : ME W X ex (.UnaryOp .USub a pos) (.prm .neg (.cons A .nil)) := fun pk => (pe_un un_neg (ha true)).imp fun s H Q h =>
  (tEs1 (tE_prm h)).mono fun x H1 z => pr_neg z
theorem me_idx (ha : ME W X ex a A) (hb : ME W X ex b B) (g : Gd W n X ex) (hs : PlainIx b := by intro _ _; rfl) : ME W X ex (.Subscript a b pos) (.prm .idx (.cons A (.cons B .nil))) := fun pk =>
  (pe_ix ix_seq (ha true) (hb true) hs).imp fun s H Q h => (tEs2 (tE_prm h)).mono fun x H1 z => z.mono fun y H2 z => by rw [g.hK]; exact pr_idx z
/-! slices -/
theorem slr_ok (g : Gd W n X ex) {s : Sg} {H : Hp} {Q : VK} {x : V} {d : D} {R : Pr} {lo hi : Option Int} {nw : Bool} {r : D} (ht : ∀ b, R b → H b ≠ none) (rp : RepP W.Z H R x d) (e : sloD d lo hi = some (nw, r)) (k : ∀ w H', Same H H' → RepN W.Z H H' R w nw r → Q w H') :
    (rSlL X.K x lo hi H Q ∨ rSlA X.K x lo hi H Q) ∨ rSlS x lo hi H Q := by rw [g.hK]; exact sloD_ok ht rp e k
theorem me_slo10 (ha : ME W X ex a A) (hb : ME W X ex b B) (g : Gd W n X ex) : ME W X ex (.Subscript a (.Slice (some b) none none p1) pos) (.prm (.slo true false) (.cons A (.cons B .nil))) := fun pk =>
  (pe_slice ((sl_list.or sl_tupA).or sl_str) (ha true) (po_some (hb true)) po_none).imp fun s H Q h => (tEs2 (tE_prm h)).mono fun x H1 z => z.mono fun y H2 z => by
    obtain ⟨R, ds, ht, rq, nw, d, e, k⟩ := z
    obtain ⟨d0, d1, rfl, rp, ri⟩ := repPs2 rq
    simp only [evP] at e
    cases d1 <;> first | (cases e; done) | skip
    exact ⟨_, ri.int, slr_ok (s := s) g ht.2 rp e k⟩
theorem me_slo01 (ha : ME W X ex a A) (hb : ME W X ex b B) (g : Gd W n X ex) : ME W X ex (.Subscript a (.Slice none (some b) none p1) pos) (.prm (.slo false true) (.cons A (.cons B .nil))) := fun pk =>
  (pe_slice ((sl_list.or sl_tupA).or sl_str) (ha true) po_none (po_some (hb true))).imp fun s H Q h => (tEs2 (tE_prm h)).mono fun x H1 z => z.mono fun y H2 z => by
    obtain ⟨R, ds, ht, rq, nw, d, e, k⟩ := z
    obtain ⟨d0, d1, rfl, rp, ri⟩ := repPs2 rq
    simp only [evP] at e
    cases d1 <;> first | (cases e; done) | skip
    exact ⟨_, ri.int, slr_ok (s := s) g ht.2 rp e k⟩
theorem pe_slice2 {r : V → Option Int → Option Int → Hp → VK → Prop} {ta tb tc : TE} (hr : SlR X r) (he : PE X a ta) (hl : PE X b tb) (hu : PE X c tc) :
    PE X (.Subscript a (.Slice (some b) (some c) none p2) pos) (fun σ H Q => ta σ H fun x H1 => tb σ H1 fun l H2 => tc σ H2 fun u H3 => ∃ i j, l = .int i ∧ u = .int j ∧ r x (some i) (some j) H3 Q) := by
  refine ⟨fun pins s σ H Q I h => ?_⟩
  refine Subscript_ (thn (he.run pins s σ H _ I h) fun v s1 ⟨x, H1, I1, r1, q1⟩ => ?_)
  refine wpAny_Slice ?_
  rw [evalPart_some, evalPart_some]
  refine thn (hl.run pins s1 σ H1 _ I1 q1) fun vl s2 ⟨l, H2, I2, pl, q2⟩ => thn (hu.run pins s2 σ H2 _ I2 q2) fun vu s3 ⟨u, H3, I3, pu, i, j, el, eu, q3⟩ => ?_
  subst el eu
  obtain ⟨t1, rfl⟩ := pl
  obtain ⟨t2, rfl⟩ := pu
  rw [evalPart_none]
  refine wpAny_pure ?_
  have I4 : Inv X pins σ H3 { s3 with heap := s3.heap.push { cls := .type "slice", data := .fields #[.int i t1, .int j t2, .none] } } := I3.kept (t' := s3.toks) fun b ob q => Heap.get?_push_of_some _ q
  obtain ⟨T, id, hT, ht, hg⟩ := hr pins { s3 with heap := s3.heap.push { cls := .type "slice", data := .fields #[.int i t1, .int j t2, .none] } } σ H3 x v (.int i t1) (.int j t2) (some i) (some j) s3.heap.objs.size Q I4 r1 (Heap.IsSliceOf.new ..) (.int i t1) (.int j t2) q3
  show wpAny (model X.prog X.w) X.A (subscriptTail a (.Slice (some b) (some c) none p2) v (.ref s3.heap.objs.size)) (EP X pins σ Q) X.xe { s3 with heap := s3.heap.push { cls := .type "slice", data := .fields #[.int i t1, .int j t2, .none] } }
  exact tail_any (ops := [.ref s3.heap.objs.size, v]) ht hT hg (by with_unfolding_all rfl)
theorem me_slo11 (ha : ME W X ex a A) (hb : ME W X ex b B) (hc : ME W X ex c C) (g : Gd W n X ex) : ME W X ex (.Subscript a (.Slice (some b) (some c) none p1) pos) (.prm (.slo true true) (.cons A (.cons B (.cons C .nil)))) := fun pk =>
  (pe_slice2 ((sl_list.or sl_tupA).or sl_str) (ha true) (hb true) (hc true)).imp fun s H Q h => (tEs3 (tE_prm h)).mono fun x H1 z => z.mono fun y H2 z => z.mono fun u H3 z => by
    obtain ⟨R, ds, ht, rq, nw, d, e, k⟩ := z
    obtain ⟨d0, d1, d2, rfl, rp, ri, rj⟩ := repPs3 rq
    simp only [evP] at e
    cases d1 <;> first | (cases e; done) | skip
    cases d2 <;> first | (cases e; done) | skip
    exact ⟨_, _, ri.int, rj.int, slr_ok (s := s) g ht.2 rp e k⟩
/-! displays -/
theorem ma_nil : MA W X ex [] .nil := pa_nil.imp fun _ _ _ h => tA_nil h
theorem ma_one {es : List Expr} {r : As} (ha : ME W X ex a A) (hr : MA W X ex es r) (hs : starEach (a :: es) X.env = (false, eval a X.env) :: starEach es X.env := by rfl) : MA W X ex (a :: es) (.one A r) :=
  (pa_cons (ha false) hr hs).imp fun _ _ _ h => tA_one h
theorem me_tup {es : List Expr} {r : As} {k : Nat} (h : MA W X ex es r) : ME W X ex (.Tuple es k pos) (.tup r) := fun pk => (pe_tup h).imp fun _ _ _ h => tE_tup h
theorem me_lst {es : List Expr} {r : As} (h : MA W X ex es r) : ME W X ex (.List es pos) (.lst r) := fun pk => (pe_lst h).imp fun _ _ _ h => tE_lst h
/-! tests and choices -/
theorem me_ife {t : T} (hc : MT W X ex c t) (ha : ME W X ex a A) (hb : ME W X ex b B) : ME W X ex (.IfExp c a b pos) (.ife t A B) := fun pk => (pe_ifExp hc (ha false) (hb false)).imp fun _ _ _ h => tE_ife h
theorem me_one {op : PySem.BoolOp} (ha : ME W X ex a A) : ME W X ex (.BoolOp op [a] pos) A := fun pk => pe_one (ha pk)
theorem me_and {rest : List Expr} (ha : ME W X ex a A) (hb : ME W X ex (.BoolOp .And (b :: rest) pos) B) : ME W X ex (.BoolOp .And (a :: b :: rest) pos) (.andV A B) := fun pk => (pe_and (ha true) (hb false)).imp fun _ _ _ h => tE_andV h
theorem me_not (g : Gd W n X ex) (ha : ME W X ex a A) : ME W X ex (.UnaryOp .Not a pos) (.notV A) := fun pk => (pe_notT (ha true)).imp fun _ _ _ h => by rw [g.hK]; exact tE_notV h
theorem mt_val (g : Gd W n X ex) (ha : ME W X ex a A) (he : ∀ whole, isTrue a X.env whole = (do let v ← whole; standAt a.pos; holding [v] (truthy v)) := by intro _; rfl) : MT W X ex a (.val A) :=
  (pt_truth (ha true) he).imp fun _ _ _ h => by rw [g.hK]; exact tT_val h
theorem mt_not {t : T} (h : MT W X ex a t) : MT W X ex (.UnaryOp .Not a pos) (.not t) := (pt_not h).imp fun _ _ _ h => tT_not h
theorem mt_w {t : T} (h : MW W X ex a t) : MT W X ex a t := h.pt
theorem mw_or1 {t : T} (h : MT W X ex a t) : MW W X ex (.BoolOp .Or [a] pos) t := pw_or1 h
theorem mw_or {t u : T} {rest : List Expr} (h : MT W X ex a t) (h2 : MW W X ex (.BoolOp .Or (b :: rest) pos) u) : MW W X ex (.BoolOp .Or (a :: b :: rest) pos) (.any t u) := (pw_or h h2).imp fun _ _ _ h => tT_any h
/-- a comparison: its value is a bool -/
structure Cm (W : Wo) (X : Cx) (op : CmpOp) (p : P) where
  r : R2
  ho : OpR X (compareOp op) r
  hp : ∀ x y H Q, PrimPost W.Z p [x, y] H Q → r x y H Q
  hb : ∀ x y H (Q Q' : VK), r x y H Q → (∀ k H', Q (.bl k) H' → Q' (.bl k) H') → r x y H Q'
theorem me_cmp {op : CmpOp} {p : P} (m : Cm W X op p) (ha : ME W X ex a A) (hb : ME W X ex b B) (h1 : behindInMarks op b = false := by rfl) : ME W X ex (.Compare a [op] [b] pos) (.prm p (.cons A (.cons B .nil))) := fun pk =>
  (pe_cmpR m.ho (ha true) (hb true) h1).imp fun s H Q h => (tEs2 (tE_prm h)).mono fun x H1 z => z.mono fun y H2 z => m.hp x y H2 Q z
theorem mt_cmp {op : CmpOp} {p : P} (m : Cm W X op p) (ha : ME W X ex a A) (hb : ME W X ex b B) (h1 : behindInMarks op b = false := by rfl) : MT W X ex (.Compare a [op] [b] pos) (.val (.prm p (.cons A (.cons B .nil)))) :=
  (pt_cmpR m.ho (ha true) (hb true) h1).imp fun s H Q h => (tEs2 (tE_prm (tT_val h))).mono fun x H1 z => z.mono fun y H2 z =>
    m.hb _ _ _ _ _ (m.hp x y H2 _ z) fun k H' q => by
      obtain ⟨k', e, q⟩ := q
      cases (show k' = k from e)
      exact ⟨_, rfl, q⟩
def cm_int {op : CmpOp} {p : P} {f : Int → Int → Bool} (ho : OpR X (compareOp op) (rI0 fun i j => .bl (f i j))) (hp : evP p = cmpI f) : Cm W X op p where
  r := rI0 fun i j => .bl (f i j)
  ho := ho
  hp := fun x y H Q h => pr_cmpI hp h
  hb := fun x y H Q Q' h k => by
    obtain ⟨i, j, e1, e2, q⟩ := h
    exact ⟨i, j, e1, e2, k _ _ q⟩
def cm_lt : Cm W X .Lt .lt := cm_int op_lt rfl
def cm_le : Cm W X .LtE .le := cm_int op_le rfl
def cm_gt : Cm W X .Gt .gt := cm_int op_gt rfl
def cm_ge : Cm W X .GtE .ge := cm_int op_ge rfl
def cm_eq (g : Gd W n X ex) : Cm W X .Eq .eq where
  r := rEqD X.K
  ho := op_eqD g.units
  hp := fun x y H Q h => by rw [g.hK]; exact pr_eq h
  hb := fun x y H Q Q' h k => by
    obtain ⟨p, q, h1, h2, h3, h4, z⟩ := h
    exact ⟨p, q, h1, h2, h3, h4, k _ _ z⟩
def cm_ne (g : Gd W n X ex) : Cm W X .NotEq .ne where
  r := rNeD X.K
  ho := op_neD g.units
  hp := fun x y H Q h => by rw [g.hK]; exact pr_ne h
  hb := fun x y H Q Q' h k => by
    obtain ⟨p, q, h1, h2, h3, h4, z⟩ := h
    exact ⟨p, q, h1, h2, h3, h4, k _ _ z⟩
theorem mt_isN {j : Nat} (ha : ME W X ex a A) : MT W X ex (.Compare a [.Is] [.Constant .none j p1] pos) (.val (.prm .isN (.cons A .nil))) :=
  (pt_cmpR op_isN (ha true) pe_non rfl).imp fun s H Q h => (tEs1 (tE_prm (tT_val h))).mono fun x H1 z => ⟨rfl, by
    obtain ⟨k, e, q⟩ := pr_isN z
    cases (show k = _ from e)
    exact ⟨_, rfl, q⟩⟩
theorem mt_notN {j : Nat} (ha : ME W X ex a A) : MT W X ex (.Compare a [.IsNot] [.Constant .none j p1] pos) (.val (.prm .notN (.cons A .nil))) :=
  (pt_cmpR op_notN (ha true) pe_non rfl).imp fun s H Q h => (tEs1 (tE_prm (tT_val h))).mono fun x H1 z => ⟨rfl, by
    obtain ⟨k, e, q⟩ := pr_notN z
    cases (show k = _ from e)
    exact ⟨_, rfl, q⟩⟩
/-! a op b op c, ints -/
theorem tE_chain {Z : Zc} {K : Calls} {s : Sg} {H : Hp} {o1 o2 : P} {f1 f2 : Int → Int → Bool} (h1 : evP o1 = cmpI f1) (h2 : evP o2 = cmpI f2) {pk : Bool} {Q : VK} (h : tE Z K ex (.chain o1 o2 A B C) pk s H Q) :
    tChain (rI0 fun i j => .bl (f1 i j)) (rI0 fun i j => .bl (f2 i j)) (tE Z K ex A false) (tE Z K ex B false) (tE Z K ex C false) s H Q := by
  unfold tE at h
  rw [show ev K (.chain o1 o2 A B C) pk = fun q => bindR (ev K A false q) fun r1 q1 => bindR (ev K B false q1) fun r2 q2 => match r1.vd, r2.vd with
    | some x, some y => match evP o1 [x, y] with
      | some (_, .bl true) => bindR (ev K C false q2) fun r3 q3 => match r3.vd with
        | some z => match evP o2 [y, z] with
          | some (false, d) => .ok (.val d) q3
          | _ => .bad
        | none => .bad
      | some (_, .bl false) => .ok (.val (.bl false)) q2
      | _ => .bad
    | _, _ => .bad from rfl] at h
  refine TR.bind h fun R0 q q1 r w H1 f0 l b p z => ?_
  have fr1 : FR Z R0 s q1 H1 := (p.down f0).1
  refine ⟨R0, q1, fr1, (lateV' l b z).bind fun q2 w2 H2 r2 _ l2 b2 p2 z2 => ?_⟩
  have fr2 : FR Z R0 s q2 H2 := (p2.down fr1).1
  cases e1 : r.vd with
  | none => rw [e1] at z2; exact z2.elim
  | some x =>
    cases e2 : r2.vd with
    | none => rw [e1, e2] at z2; exact z2.elim
    | some y =>
      rw [e1, e2] at z2
      dsimp only at z2
      obtain ⟨_, v1⟩ := p.vd f0 e1
      obtain ⟨_, v2⟩ := p2.vd fr1 e2
      cases e3 : evP o1 [x, y] with
      | none => rw [e3] at z2; exact z2.elim
      | some nd =>
        obtain ⟨nw, d⟩ := nd
        rw [e3] at z2
        rw [h1] at e3
        obtain ⟨i, j, ei, rfl, rfl⟩ := cmpI_inv e3
        cases ei
        cases v1
        cases v2
        refine ⟨i, j, rfl, rfl, f1 i j, rfl, ?_⟩
        cases e4 : f1 i j with
        | false =>
          rw [e4] at z2
          exact iteF (z2 _ H2 l2 b2 ⟨fr2, .bl _⟩)
        | true =>
          rw [e4] at z2
          refine iteT ?_
          refine ⟨R0, q2, fr2, (lateV' l2 b2 z2).bind fun q3 w3 H3 r3 _ l3 b3 p3 z3 => ?_⟩
          cases e5 : r3.vd with
          | none => rw [e5] at z3; exact z3.elim
          | some zz =>
            rw [e5] at z3
            dsimp only at z3
            obtain ⟨fr3, v3⟩ := p3.vd fr2 e5
            cases e6 : evP o2 [.int j, zz] with
            | none => rw [e6] at z3; exact z3.elim
            | some nd =>
              obtain ⟨nw, d⟩ := nd
              rw [e6] at z3
              rw [h2] at e6
              obtain ⟨i', j', ei, rfl, rfl⟩ := cmpI_inv e6
              cases ei
              cases v3
              exact ⟨_, _, rfl, rfl, z3 _ H3 l3 b3 ⟨fr3, .bl _⟩⟩
/-- an int comparison -/
structure Ci (X : Cx) (op : CmpOp) (p : P) where
  f : Int → Int → Bool
  ho : OpR X (compareOp op) (rI0 fun i j => .bl (f i j))
  hp : evP p = cmpI f
def ci_lt : Ci X .Lt .lt := ⟨_, op_lt, rfl⟩
def ci_le : Ci X .LtE .le := ⟨_, op_le, rfl⟩
theorem rI0_bl {f : Int → Int → Bool} {x y : V} {H : Hp} {Q Q' : VK} (h : rI0 (fun i j => .bl (f i j)) x y H Q) (k : ∀ b H', Q (.bl b) H' → Q' (.bl b) H') : rI0 (fun i j => .bl (f i j)) x y H Q' := by
  obtain ⟨i, j, e1, e2, q⟩ := h
  exact ⟨i, j, e1, e2, k _ _ q⟩
theorem mt_chain {o1 o2 : CmpOp} {p q : P} (m1 : Ci X o1 p) (m2 : Ci X o2 q) (ha : ME W X ex a A) (hb : ME W X ex b B) (hc : ME W X ex c C) (hm : lastMarks [o1, o2] [b, c] = false := by with_unfolding_all rfl) :
    MT W X ex (.Compare a [o1, o2] [b, c] pos) (.val (.chain p q A B C)) := (pt_chain m1.ho m2.ho (ha false) (hb false) (hc false) hm).imp fun s H Q h => by
  refine (tE_chain m1.hp m2.hp (tT_val h)).mono fun x H1 z => z.mono fun y H2 z => rI0_bl z fun k H3 ⟨k', e, z⟩ => ⟨k', e, ?_⟩
  cases k' with
  | false =>
    obtain ⟨k, e, z⟩ := z
    cases (show k = false from e)
    exact iteF ⟨_, rfl, z⟩
  | true => exact iteT (z.mono fun w H4 z => rI0_bl z fun k H5 ⟨k', e, z⟩ => ⟨k, rfl, (show k' = k from e) ▸ z⟩)
end
end M

set_option Elab.async false
set_option linter.all false
set_option maxRecDepth 100000
set_option maxHeartbeats 4000000
/-! A10: calls, builtins, classes. -/
namespace M
open PySem L2 PyProof.Rows SlX

section
variable {W : Wo} {X : Cx} {ex : XK} {n k : Nat} {pos p1 p2 p3 p4 : Pos} {a b c : Expr} {A B C : E} {x : Str} {es : List Expr}
theorem mg_nil : MG W X ex [] .nil := pa_nil.imp fun _ _ _ h => tGs_nil h
theorem mg_v {r : Gs} (ha : ME W X ex a A) (hr : MG W X ex es r) (hs : starEach (a :: es) X.env = (false, eval a X.env) :: starEach es X.env := by rfl) : MG W X ex (a :: es) (.v A r) :=
  (pa_cons (ha false) hr hs).imp fun _ _ _ h => tGs_v h
theorem mg_b (i : Nat) {r : Gs} (hr : MG W X ex es r) (hN : X.N[i]? = some x := by rfl) (hv : Vis X.env.scope x := by first | exact Or.inl rfl | exact Or.inr (Or.inl rfl) | exact Or.inr (Or.inr rfl)) (hd : (x == ("__debug__" : Str)) = false := by decide)
    (hcd : (x == ("__classdict__" : Str)) = false := by decide) : MG W X ex (.Name x pos :: es) (.b i r) :=
  (pa_cons (pe_var hN hv hd hcd) hr rfl).imp fun _ _ _ h => tGs_b h
/-- a call by a promise of positional values -/
theorem pe_callF {CX : CXT} {f : Addr} {sp : Sp} {E : XK} {e : Expr} {t : TA} (F : FnG X.prog X.w X.K X.mg X.base CX k f sp) (qu : Qu X.A) (hr : Room k X.A) (hg : Gl X x) (hm : X.mg x = some (.ref f)) (hk : PySem.W.keepIn X.K (.ref f) = true) (hx : Passes CX X E)
    (ha : PA X (e :: es) t) (hdb : (x == ("__debug__" : Str)) = false := by decide) (he : starEach (e :: es) X.env = (false, eval e X.env) :: starEach es X.env := by rfl) (hpl : (backTo pos (starEach es X.env)).any (·.1) = false := by rfl) :
    PE X (.Call (.Name x p1) (e :: es) [] pos) (fun σ H Q => t σ H fun vs H1 => sp vs H1 Q E) := by
  refine ⟨fun pins s σ H Q I h => ?_⟩
  refine wpAny_Call_Name_kw (ld_glob I hg hm ?_ hdb)
  refine PySem.W.callWith_K (h₀ := X.base) I.ok.mod.kin hk (thn (ha.run pos pins s σ H _ I h) fun us s1 ⟨vs, H1, I1, r, q⟩ => ⟨I1.kIn, ?_⟩) he hpl
  exact wpAny_call (run_G F qu hr I1.env0 hx I1 r q)
/-- a property, a class -/
theorem pe_propG {CX : CXT} {te : TE} {C p h : Addr} {y : Str} {o : Expr} {sp : Sp} {E : XK} (he : PE X o te) (c : SCls X.K C) (at_ : PySem.W.findIn X.K (.ref C) y = some (some (.ref p))) (get : PySem.W.specialIn X.K (.ref p) "__get__" = some (some (.builtin "property.__get__")))
    (tk : PySem.W.takesIn X.K (.ref p) = some true) (rc : ∃ rest, PySem.W.recIn X.K p "property" = some (.ref h :: rest)) (F : FnG X.prog X.w X.K X.mg X.base CX k h sp) (qu : Qu X.A) (hr : Room (k + 1) X.A)
    (no : ∀ (H : Hp) (s : Shared) (e : Value) (s2 : Shared), CX X.stack H s E e s2 → False) (hb : attributeBase o y X.env (eval o X.env) = eval o X.env := by rfl) : PE X (.Attribute o y pos) (tPropSl C sp E te) := by
  refine ⟨fun pins s σ H Q I z => attr_of hb (thn (he.run pins s σ H _ I z) fun v s1 ⟨x, H1, I1, rx, a, dx, vs, ex, hs, q⟩ => ?_)⟩
  subst ex
  obtain rfl : v = Value.ref a := rx
  obtain ⟨sl, od, _, J, _⟩ := slt_inst I1 hs
  obtain ⟨rest, hrec⟩ := rc
  have I2 : Inv X pins σ H1 { s1 with toks := s1.toks + 1 } := I1.tok (s1.toks + 1)
  refine PySem.W.get_bind I1.kIn J (PySem.W.plainGet_of (c.get y)).1 (PySem.W.findObj_data c.ic at_ get tk) (PySem.W.plainGet_of (c.get y)).2 (wpAny_call (PySem.W.prop_get (s := { s1 with toks := s1.toks + 1 }) I1.kIn hrec ?_))
  refine codeAny_mono (F X.A.in1 X.stack _ H1 [.ref a] [.ref a] Q E qu.in1 hr.in1 I2.env0.in1 (.cons rfl .nil) q) fun r s2 w => ?_
  cases r with
  | error e => exact (no _ _ _ _ w).elim
  | ok fl =>
    cases fl with
    | ret u =>
      obtain ⟨v2, H2, I3, rv, q2⟩ := I2.after w
      exact wpAny_of_eq (PySem.W.handedOut_of (handed_of rv)) ⟨v2, H2, I3, rv, q2⟩
    | next => exact w.elim
    | brk => exact w.elim
    | cont => exact w.elim
theorem pe_makeG {CX : CXT} {C f : Addr} {sp : Sp} {E : XK} {e : Expr} {t : TA} (mk : Mk X.K C f) (F : FnG X.prog X.w X.K X.mg X.base CX k f sp) (qu : Qu X.A) (hr : Room (k + 1) X.A) (hg : Gl X x) (hm : X.mg x = some (.ref C)) (hx : Passes CX X E) (ha : PA X (e :: es) t) (hdb : (x == ("__debug__" : Str)) = false := by decide)
    (he : starEach (e :: es) X.env = (false, eval e X.env) :: starEach es X.env := by rfl) (hpl : (backTo pos (starEach es X.env)).any (·.1) = false := by rfl) : PE X (.Call (.Name x p1) (e :: es) [] pos) (StX.tMakeR C sp E t) := by
  refine ⟨fun pins s σ H Q I h => wpAny_Call_Name_kw (ld_glob I hg hm ?_ hdb)⟩
  exact PySem.W.callWith_K (h₀ := X.base) I.ok.mod.kin mk.kp (thn (ha.run pos pins s σ H _ I h) fun us s1 ⟨vs, H1, I1, r, q⟩ => ⟨I1.kIn, run_makeG mk F qu hr hx I1 r q⟩) he hpl
theorem Gd.fn (g : Gd W n X ex) {f : Addr} {sp : Sp} (F : FnG W.P W.w W.Z.K W.mg W.base (L2.CX W.P W.w) k f sp) : FnG X.prog X.w X.K X.mg X.base (L2.CX X.prog X.w) k f sp := by
  rw [g.hP, g.hw, g.hK, g.hm, g.hb]; exact F
theorem me_call [Calm W] {f : Nat} {gs : Gs} {e : Expr} (g : Gd W n X ex) (F : Fd W k x f) (ha : MG W X ex (e :: es) gs) (hk : k ≤ n := by omega) (hg : Gl X x := by rfl) (hdb : (x == ("__debug__" : Str)) = false := by decide) (he : starEach (e :: es) X.env = (false, eval e X.env) :: starEach es X.env := by rfl) (hpl : (backTo pos (starEach es X.env)).any (·.1) = false := by rfl) :
    ME W X ex (.Call (.Name x p1) (e :: es) [] pos) (.call f gs) := fun pk => by
  obtain ⟨a, h1, h2, h3⟩ := F.ex
  exact (pe_callF (g.fn h1) g.qu (g.room.mono hk) hg (by rw [g.hm]; exact h2) (by rw [g.hK]; exact h3) g.ps ha hdb he hpl).imp fun _ _ _ h => tE_call h
theorem me_callO [Calm W] {f : Nat} {e : Expr} (g : Gd W n X ex) (F : Fd W k x f) (ha : ME W X ex e A) (hk : k ≤ n := by omega) (hg : Gl X x := by rfl) (hdb : (x == ("__debug__" : Str)) = false := by decide) (he : starEach [e] X.env = (false, eval e X.env) :: starEach [] X.env := by rfl) (hpl : (backTo pos (starEach [] X.env)).any (·.1) = false := by rfl) :
    ME W X ex (.Call (.Name x p1) [e] [] pos) (.callO f A) := fun pk => by
  obtain ⟨a, h1, h2, h3⟩ := F.ex
  exact (pe_callF (g.fn h1) g.qu (g.room.mono hk) hg (by rw [g.hm]; exact h2) (by rw [g.hK]; exact h3) g.ps (pa_cons (ha false) pa_nil he) hdb he hpl).imp fun _ _ _ h => tE_callO h
/-! builtins -/
theorem me_b1 {p : P} {r : List V → Hp → VK → Prop} {id : String} (hc : CallR X (.builtin id) r) (hp : ∀ x H Q, PrimPost W.Z p [x] H Q → r [x] H Q) (hv : bootBuiltins x = some (.builtin id)) (hm : X.mg x = none) (ha : ME W X ex a A) (hg : Gl X x) (hn : x ≠ "__name__" := by decide)
    (hdb : (x == ("__debug__" : Str)) = false := by decide) (he : starEach [a] X.env = (false, eval a X.env) :: starEach [] X.env := by rfl) : ME W X ex (.Call (.Name x p1) [a] [] pos) (.prm p (.cons A .nil)) := fun pk =>
  (pe_callB hc hg hm hv (pa_cons (ha true) pa_nil he) hn hdb he rfl).imp fun s H Q h => (tEs1 (tE_prm h)).mono fun y H1 z => hp y H1 Q z
theorem me_t1 {p : P} {r : List V → Hp → VK → Prop} {id : String} (hc : CallR X (.type id) r) (hp : ∀ x H Q, PrimPost W.Z p [x] H Q → r [x] H Q) (hv : bootBuiltins x = some (.type id)) (hm : X.mg x = none) (ha : ME W X ex a A) (hg : Gl X x) (hn : x ≠ "__name__" := by decide)
    (hdb : (x == ("__debug__" : Str)) = false := by decide) (he : starEach [a] X.env = (false, eval a X.env) :: starEach [] X.env := by rfl) : ME W X ex (.Call (.Name x p1) [a] [] pos) (.prm p (.cons A .nil)) := fun pk =>
  (pe_callTy hc hg hm hv (pa_cons (ha true) pa_nil he) hn hdb he rfl).imp fun s H Q h => (tEs1 (tE_prm h)).mono fun y H1 z => hp y H1 Q z
theorem me_b2 {p : P} {r : List V → Hp → VK → Prop} {id : String} (hc : CallR X (.builtin id) r) (hp : ∀ x y H Q, PrimPost W.Z p [x, y] H Q → r [x, y] H Q) (hv : bootBuiltins x = some (.builtin id)) (hm : X.mg x = none) (ha : ME W X ex a A) (hb : ME W X ex b B) (hg : Gl X x) (hn : x ≠ "__name__" := by decide)
    (hdb : (x == ("__debug__" : Str)) = false := by decide) (he : starEach [a, b] X.env = (false, eval a X.env) :: starEach [b] X.env := by rfl) (he2 : starEach [b] X.env = (false, eval b X.env) :: starEach [] X.env := by rfl) (hpl : (backTo pos (starEach [b] X.env)).any (·.1) = false := by rfl) : ME W X ex (.Call (.Name x p1) [a, b] [] pos) (.prm p (.cons A (.cons B .nil))) := fun pk =>
  (pe_callB hc hg hm hv (pa_cons (ha true) (pa_cons (hb true) pa_nil he2) he) hn hdb he hpl).imp fun s H Q h => (tEs2 (tE_prm h)).mono fun y H1 z => z.mono fun u H2 z => hp y u H2 Q z
theorem me_len (g : Gd W n X ex) (hm : W.mg "len" = none) (ha : ME W X ex a A) (hg : Gl X "len" := by rfl) (he : starEach [a] X.env = (false, eval a X.env) :: starEach [] X.env := by rfl) : ME W X ex (.Call (.Name "len" p1) [a] [] pos) (.prm .len (.cons A .nil)) :=
  me_b1 (callr_or call_len_seq call_len_str) (fun x H Q h => by rw [g.hK]; exact pr_len h) boot_len (by rw [g.hm]; exact hm) ha hg (he := he)
theorem me_abs (g : Gd W n X ex) (hm : W.mg "abs" = none) (ha : ME W X ex a A) (hg : Gl X "abs" := by rfl) (he : starEach [a] X.env = (false, eval a X.env) :: starEach [] X.env := by rfl) : ME W X ex (.Call (.Name "abs" p1) [a] [] pos) (.prm .abs (.cons A .nil)) :=
  me_b1 call_abs (fun x H Q h => pr_abs h) boot_abs (by rw [g.hm]; exact hm) ha hg (he := he)
theorem me_sum [Calm W] (g : Gd W n X ex) (hm : W.mg "sum" = none) (ha : ME W X ex a A) (hg : Gl X "sum" := by rfl) (he : starEach [a] X.env = (false, eval a X.env) :: starEach [] X.env := by rfl) : ME W X ex (.Call (.Name "sum" p1) [a] [] pos) (.prm .sum (.cons A .nil)) :=
  me_b1 (cr_sum g.calm) (fun x H Q h => by rw [g.hK]; exact pr_sum h) boot_sum (by rw [g.hm]; exact hm) ha hg (he := he)
theorem me_all [Calm W] (g : Gd W n X ex) (hm : W.mg "all" = none) (ha : ME W X ex a A) (hg : Gl X "all" := by rfl) (he : starEach [a] X.env = (false, eval a X.env) :: starEach [] X.env := by rfl) : ME W X ex (.Call (.Name "all" p1) [a] [] pos) (.prm .all (.cons A .nil)) :=
  me_b1 (cr_all g.calm) (fun x H Q h => by rw [g.hK]; exact pr_all h) boot_all (by rw [g.hm]; exact hm) ha hg (he := he)
theorem me_max2 [Calm W] (g : Gd W n X ex) (hm : W.mg "max" = none) (ha : ME W X ex a A) (hb : ME W X ex b B) (hg : Gl X "max" := by rfl) (he : starEach [a, b] X.env = (false, eval a X.env) :: starEach [b] X.env := by rfl) (he2 : starEach [b] X.env = (false, eval b X.env) :: starEach [] X.env := by rfl) (hpl : (backTo pos (starEach [b] X.env)).any (·.1) = false := by rfl) : ME W X ex (.Call (.Name "max" p1) [a, b] [] pos) (.prm .max2 (.cons A (.cons B .nil))) :=
  me_b2 (call_max2 g.calm) (fun x y H Q h => pr_max2 h) boot_max (by rw [g.hm]; exact hm) ha hb hg (he := he) (he2 := he2) (hpl := hpl)
theorem me_min2 [Calm W] (g : Gd W n X ex) (hm : W.mg "min" = none) (ha : ME W X ex a A) (hb : ME W X ex b B) (hg : Gl X "min" := by rfl) (he : starEach [a, b] X.env = (false, eval a X.env) :: starEach [b] X.env := by rfl) (he2 : starEach [b] X.env = (false, eval b X.env) :: starEach [] X.env := by rfl) (hpl : (backTo pos (starEach [b] X.env)).any (·.1) = false := by rfl) : ME W X ex (.Call (.Name "min" p1) [a, b] [] pos) (.prm .min2 (.cons A (.cons B .nil))) :=
  me_b2 (call_min2 g.calm) (fun x y H Q h => pr_min2 h) boot_min (by rw [g.hm]; exact hm) ha hb hg (he := he) (he2 := he2) (hpl := hpl)
theorem me_divmod (g : Gd W n X ex) (hm : W.mg "divmod" = none) (ha : ME W X ex a A) (hb : ME W X ex b B) (hg : Gl X "divmod" := by rfl) (he : starEach [a, b] X.env = (false, eval a X.env) :: starEach [b] X.env := by rfl) (he2 : starEach [b] X.env = (false, eval b X.env) :: starEach [] X.env := by rfl) (hpl : (backTo pos (starEach [b] X.env)).any (·.1) = false := by rfl) : ME W X ex (.Call (.Name "divmod" p1) [a, b] [] pos) (.prm .divmod (.cons A (.cons B .nil))) :=
  me_b2 call_divmod (fun x y H Q h => pr_divmod h) boot_divmod (by rw [g.hm]; exact hm) ha hb hg (he := he) (he2 := he2) (hpl := hpl)
theorem me_toInt (g : Gd W n X ex) (hm : W.mg "int" = none) (ha : ME W X ex a A) (hg : Gl X "int" := by rfl) (he : starEach [a] X.env = (false, eval a X.env) :: starEach [] X.env := by rfl) : ME W X ex (.Call (.Name "int" p1) [a] [] pos) (.prm .int (.cons A .nil)) :=
  me_t1 (callr_or call_int1 call_int_str) (fun x H Q h => pr_int h) boot_int (by rw [g.hm]; exact hm) ha hg (he := he)
theorem me_tuple (g : Gd W n X ex) (hm : W.mg "tuple" = none) (ha : ME W X ex a A) (hg : Gl X "tuple" := by rfl) (he : starEach [a] X.env = (false, eval a X.env) :: starEach [] X.env := by rfl) : ME W X ex (.Call (.Name "tuple" p1) [a] [] pos) (.prm .tuple (.cons A .nil)) :=
  me_t1 call_tuple_of (fun x H Q h => by rw [g.hK]; exact pr_tuple h) boot_tuple (by rw [g.hm]; exact hm) ha hg (he := he)
theorem boot_str'' : bootBuiltins "str" = some (.type "str") := by decide +kernel
theorem me_strI (g : Gd W n X ex) (hm : W.mg "str" = none) (ha : ME W X ex a A) (hg : Gl X "str" := by rfl) (he : starEach [a] X.env = (false, eval a X.env) :: starEach [] X.env := by rfl) : ME W X ex (.Call (.Name "str" p1) [a] [] pos) (.prm .strI (.cons A .nil)) :=
  me_t1 call_str_int (fun x H Q h => pr_strI h) boot_str'' (by rw [g.hm]; exact hm) ha hg (he := he)
theorem me_join {apos : Pos} (g : Gd W n X ex) (ha : ME W X ex a A) (hb : ME W X ex b B) (hs : starEach [b] X.env = [(false, eval b X.env)] := by rfl) (hbase : attributeBase a "join" X.env (eval a X.env) = eval a X.env := by rfl) (hline : (apos.endLine == pos.line) = true := by rfl) :
    ME W X ex (.Call (.Attribute a "join" apos) [b] [] pos) (.mth .join A B) := fun pk =>
  (pe_join (ha false) (hb true) hs hbase hline).imp fun s H Q h => (tE_mth h).mono fun x H1 z => ⟨z.1, z.2.mono fun y H2 z => by rw [g.hK]; exact pr_join z⟩
theorem me_split {apos : Pos} (g : Gd W n X ex) (ha : ME W X ex a A) (hb : ME W X ex b B) (hs : starEach [b] X.env = [(false, eval b X.env)] := by rfl) (hbase : attributeBase a "split" X.env (eval a X.env) = eval a X.env := by rfl) (hline : (apos.endLine == pos.line) = true := by rfl) :
    ME W X ex (.Call (.Attribute a "split" apos) [b] [] pos) (.mth .split A B) := fun pk =>
  (pe_split (ha false) (hb true) hs hbase hline).imp fun s H Q h => (tE_mth h).mono fun x H1 z => ⟨z.1, z.2.mono fun y H2 z => pr_split z⟩
/-! classes with slots -/
/-- what isinstance asks of the classes 0 .. m-1 -/
structure Co (Z : Zc) (m : Nat) : Prop where
  sc : ∀ i, i < m → SCls Z.K (Z.C i)
  si : ∀ i, i < m → SIsi Z.K (Z.C i)
  kt : ∀ i, i < m → ∀ t ∈ ["int", "str", "tuple", "list", "bool"], PySem.W.kitOne Z.K (.ref (Z.C i)) (.type t) = some false
  kb : ∀ i, i < m → ∀ t ∈ ["int", "str", "tuple", "list", "bool", "NoneType", "dict"], PySem.W.kitOne Z.K (.type t) (.ref (Z.C i)) = some false
  kc : ∀ i j, i < m → j < m → PySem.W.kitOne Z.K (.ref (Z.C i)) (.ref (Z.C j)) = some (i == j)
theorem slt_of {Z : Zc} {H : Hp} {R : Pr} {v : V} {i : Nat} {ds : List D} (h : Rep Z H R v (.ins i ds)) : i < Z.nc ∧ ∃ a dx xs, v = .ref a ∧ Slt H a (Z.C i) dx (xs.map some) ∧ RepL Z H R xs ds := by
  cases h with
  | ins h0 h1 h2 n1 n2 b => exact ⟨h0, _, _, _, rfl, .inr ⟨h1, h2⟩, b⟩
def tyOf : D → String
  | .non => "NoneType" | .bl _ => "bool" | .int _ => "int" | .str _ => "str" | .tup _ => "tuple" | .lst _ => "list" | .ins _ _ => "" | .cls _ => "" | .exn _ _ => "" | .dct _ => "dict"
theorem tyX_of {Z : Zc} {H : Hp} {R : Pr} {v : V} {d : D} (h : RepP Z H R v d) (n : ∀ c fs, d ≠ .ins c fs) (n2 : ∀ c, d ≠ .cls c) (n3 : ∀ c fs, d ≠ .exn c fs) : TyX Z.K H v (.type (tyOf d)) := by
  cases d with
  | non => rw [h.non]; exact .base .non
  | bl b => rw [h.bl]; exact .base (.bl b)
  | int b => rw [h.int]; exact .base (.int b)
  | str b => rw [h.str]; exact .base (.str b)
  | ins c fs => exact absurd rfl (n c fs)
  | cls c => exact absurd rfl (n2 c)
  | exn c fs => exact absurd rfl (n3 c fs)
  | dct kvs =>
    rcases h with h | ⟨_, _, _, e, _⟩
    · cases h with
      | dct h1 n1 => exact .base (.dK h1)
    · cases e
  | tup ds =>
    obtain ⟨a, xs, rfl, h1, h2⟩ := h.tup
    rcases h1.sq with (h1 | ⟨o, h1⟩) | ⟨o, its, n, h1, h2, _⟩
    · exact .base (.tup h1)
    · exact .fTuple h1
    · exact .kTuple h1 h2
  | lst ds =>
    obtain ⟨a, xs, rfl, h1, h2⟩ := h.lst
    rcases h1 with (h1 | ⟨o, h1⟩) | ⟨o, its, n, h1, h2, _⟩
    · exact .base (.lst h1)
    · exact .base (.frz h1)
    · exact .kList h1 h2
theorem pr_isi {t : String} (co : Co W.Z W.Z.nc) (ht : t ∈ ["int", "str", "tuple", "list", "bool"]) {x : V} {H : Hp} {Q : VK} (h : PrimPost W.Z (.isi t) [x] H Q) : rIsi W.Z.K [x, .ty t] H Q ∨ rIsiSl W.Z.K (.type t) [x, .ty t] H Q := by
  obtain ⟨R, ds, hr, rq, nw, d, e, k⟩ := h
  obtain ⟨d0, rfl, rp⟩ := repPs1 rq
  simp only [evP] at e
  by_cases hi : ∃ c fs, d0 = .ins c fs
  · obtain ⟨c, fs, rfl⟩ := hi
    simp only [isiD] at e
    cases e
    obtain ⟨hc, a, dx, xs, rfl, hs, _⟩ := slt_of rp.ins
    exact .inr ⟨a, _, dx, _, .ty t, false, rfl, rfl, fun w z => z, hs, co.sc c hc, co.si c hc, co.kt c hc t ht, k _ H (Same.refl H) (.bl _)⟩
  · have hn : ∀ c fs, d0 ≠ .ins c fs := fun c fs z => hi ⟨c, fs, z⟩
    have hn2 : ∀ c, d0 ≠ .cls c := fun c z => by subst z; cases e
    have hn3 : ∀ c fs, d0 ≠ .exn c fs := fun c fs z => by subst z; cases e
    have key : ∃ b, isiD t d0 = some b ∧ kitB (tyOf d0) t = some b := by
      simp only [List.mem_cons, List.mem_nil_iff, or_false] at ht
      cases d0 with
      | ins c fs => exact absurd rfl (hn c fs)
      | cls c => exact absurd rfl (hn2 c)
      | exn c fs => exact absurd rfl (hn3 c fs)
      | _ => rcases ht with rfl | rfl | rfl | rfl | rfl <;> exact ⟨_, rfl, by simp only [tyOf]; decide +kernel⟩
    obtain ⟨b, k1, k2⟩ := key
    rw [k1] at e
    cases e
    exact .inl ⟨x, .ty t, _, _, b, rfl, .ty t, tyX_of rp hn hn2 hn3, kit_ty k2, k _ H (Same.refl H) (.bl _)⟩
theorem pr_isiC {i : Nat} (co : Co W.Z W.Z.nc) (hi : i < W.Z.nc) {x : V} {H : Hp} {Q : VK} (h : PrimPost W.Z (.isiC i) [x] H Q) : rIsi W.Z.K [x, .ref (W.Z.C i)] H Q ∨ rIsiSl W.Z.K (.ref (W.Z.C i)) [x, .ref (W.Z.C i)] H Q := by
  obtain ⟨R, ds, hr, rq, nw, d, e, k⟩ := h
  obtain ⟨d0, rfl, rp⟩ := repPs1 rq
  by_cases hj : ∃ c fs, d0 = .ins c fs
  · obtain ⟨c, fs, rfl⟩ := hj
    simp only [evP] at e
    cases e
    obtain ⟨hc, a, dx, xs, rfl, hs, _⟩ := slt_of rp.ins
    exact .inr ⟨a, _, dx, _, .ref (W.Z.C i), _, rfl, rfl, fun w z => z, hs, co.sc c hc, co.si c hc, co.kc c i hc hi, k _ H (Same.refl H) (.bl _)⟩
  · have hn : ∀ c fs, d0 ≠ .ins c fs := fun c fs z => hj ⟨c, fs, z⟩
    have hn2 : ∀ c, d0 ≠ .cls c := fun c z => by subst z; cases e
    have hn3 : ∀ c fs, d0 ≠ .exn c fs := fun c fs z => by subst z; cases e
    have e' : nw = false ∧ d = .bl false := by
      cases d0 with
      | ins c fs => exact absurd rfl (hn c fs)
      | cls c => exact absurd rfl (hn2 c)
      | exn c fs => exact absurd rfl (hn3 c fs)
      | _ => simp only [evP] at e; cases e; exact ⟨rfl, rfl⟩
    obtain ⟨rfl, rfl⟩ := e'
    have ht : tyOf d0 ∈ ["int", "str", "tuple", "list", "bool", "NoneType", "dict"] := by
      cases d0 with
      | ins c fs => exact absurd rfl (hn c fs)
      | cls c => exact absurd rfl (hn2 c)
      | exn c fs => exact absurd rfl (hn3 c fs)
      | _ => simp only [tyOf]; decide
    exact .inl ⟨x, .ref (W.Z.C i), _, _, false, rfl, .own _, tyX_of rp hn hn2 hn3, co.kb i hi _ ht, k _ H (Same.refl H) (.bl _)⟩
theorem boot_bool' : bootBuiltins "bool" = some (.type "bool") := by decide +kernel
theorem me_isiT {t : String} {T : Str} (g : Gd W n X ex) (co : Co W.Z W.Z.nc) (ht : t ∈ ["int", "str", "tuple", "list", "bool"]) (hv : bootBuiltins T = some (.type t)) (hm : W.mg "isinstance" = none) (hm2 : W.mg T = none) (ha : ME W X ex a A) (hg : Gl X "isinstance") (hg2 : Gl X T) (hn : T ≠ "__name__")
    (hd : (T == ("__debug__" : Str)) = false) (he : starEach [a, .Name T p2] X.env = (false, eval a X.env) :: starEach [.Name T p2] X.env) : ME W X ex (.Call (.Name "isinstance" p1) [a, .Name T p2] [] pos) (.prm (.isi t) (.cons A .nil)) := fun pk =>
  (pe_callB (callr_or call_isi (call_isiSl (.type t))) hg (by rw [g.hm]; exact hm) boot_isinstance (pa_cons (ha true) (pa_cons (pe_bltn (v := .ty t) hg2 (by rw [g.hm]; exact hm2) hv rfl hn hd) pa_nil) he) (he := he)).imp fun s H Q h => (tEs1 (tE_prm h)).mono fun y H1 z => by
    rw [g.hK]; exact pr_isi co ht z
theorem me_isiC {i : Nat} {T : Str} (g : Gd W n X ex) (co : Co W.Z W.Z.nc) (hi : i < W.Z.nc) (hm : W.mg "isinstance" = none) (hm2 : W.mg T = some (.ref (W.Z.C i))) (ha : ME W X ex a A) (hg : Gl X "isinstance" := by rfl) (hg2 : Gl X T := by rfl)
    (hd : (T == ("__debug__" : Str)) = false := by decide) (he : starEach [a, .Name T p2] X.env = (false, eval a X.env) :: starEach [.Name T p2] X.env := by rfl) : ME W X ex (.Call (.Name "isinstance" p1) [a, .Name T p2] [] pos) (.prm (.isiC i) (.cons A .nil)) := fun pk =>
  (pe_callB (callr_or call_isi (call_isiSl (.ref (W.Z.C i)))) hg (by rw [g.hm]; exact hm) boot_isinstance (pa_cons (ha true) (pa_cons (pe_glob (v := .ref (W.Z.C i)) hg2 (by rw [g.hm]; exact hm2) rfl hd) pa_nil) he) (he := he)).imp fun s H Q h => (tEs1 (tE_prm h)).mono fun y H1 z => by
    rw [g.hK]; exact pr_isiC co hi z
theorem me_isInt (g : Gd W n X ex) (co : Co W.Z W.Z.nc) (hm : W.mg "isinstance" = none) (hm2 : W.mg "int" = none) (ha : ME W X ex a A) (hg : Gl X "isinstance" := by rfl) (hg2 : Gl X "int" := by rfl) (he : starEach [a, .Name "int" p2] X.env = (false, eval a X.env) :: starEach [.Name "int" p2] X.env := by rfl) :
    ME W X ex (.Call (.Name "isinstance" p1) [a, .Name "int" p2] [] pos) (.prm (.isi "int") (.cons A .nil)) := me_isiT g co (by decide) boot_int hm hm2 ha hg hg2 (by decide) (by decide) he
theorem me_isBool (g : Gd W n X ex) (co : Co W.Z W.Z.nc) (hm : W.mg "isinstance" = none) (hm2 : W.mg "bool" = none) (ha : ME W X ex a A) (hg : Gl X "isinstance" := by rfl) (hg2 : Gl X "bool" := by rfl) (he : starEach [a, .Name "bool" p2] X.env = (false, eval a X.env) :: starEach [.Name "bool" p2] X.env := by rfl) :
    ME W X ex (.Call (.Name "isinstance" p1) [a, .Name "bool" p2] [] pos) (.prm (.isi "bool") (.cons A .nil)) := me_isiT g co (by decide) boot_bool' hm hm2 ha hg hg2 (by decide) (by decide) he
theorem me_isStr (g : Gd W n X ex) (co : Co W.Z W.Z.nc) (hm : W.mg "isinstance" = none) (hm2 : W.mg "str" = none) (ha : ME W X ex a A) (hg : Gl X "isinstance" := by rfl) (hg2 : Gl X "str" := by rfl) (he : starEach [a, .Name "str" p2] X.env = (false, eval a X.env) :: starEach [.Name "str" p2] X.env := by rfl) :
    ME W X ex (.Call (.Name "isinstance" p1) [a, .Name "str" p2] [] pos) (.prm (.isi "str") (.cons A .nil)) := me_isiT g co (by decide) boot_str hm hm2 ha hg hg2 (by decide) (by decide) he
theorem me_isTuple (g : Gd W n X ex) (co : Co W.Z W.Z.nc) (hm : W.mg "isinstance" = none) (hm2 : W.mg "tuple" = none) (ha : ME W X ex a A) (hg : Gl X "isinstance" := by rfl) (hg2 : Gl X "tuple" := by rfl) (he : starEach [a, .Name "tuple" p2] X.env = (false, eval a X.env) :: starEach [.Name "tuple" p2] X.env := by rfl) :
    ME W X ex (.Call (.Name "isinstance" p1) [a, .Name "tuple" p2] [] pos) (.prm (.isi "tuple") (.cons A .nil)) := me_isiT g co (by decide) boot_tuple hm hm2 ha hg hg2 (by decide) (by decide) he
/-! fields, properties -/
/-- the field f of the class c: the i-th -/
structure Sd (W : Wo) (c : Nat) (f : Str) (i : Nat) : Prop where
  sc : SCls W.Z.K (W.Z.C c)
  sl : ∃ p, Slot1 W.Z.K (W.Z.C c) f p i
theorem tE_fld {Z : Zc} {K : Calls} {s : Sg} {H : Hp} {c i : Nat} {pk : Bool} {Q : VK} (h : tE Z K ex (.fld c i A) pk s H Q) : tE Z K ex A false s H fun x H1 => ∃ a dx vs v, x = .ref a ∧ Slt H1 a (Z.C c) dx vs ∧ vs[i]? = some (some v) ∧ Q v H1 := by
  unfold tE at h
  rw [show ev K (.fld c i A) pk = fun q => bindR (ev K A false q) fun r q1 => match r with
    | .val (.ins c' fs) => if c' = c then match fs[i]? with
        | some d => .ok (.val d) q1
        | none => .bad
      else .bad
    | _ => .bad from rfl] at h
  refine TR.bind h fun R0 q q1 r w H1 f0 l b p z => ?_
  cases r with
  | new d => exact z.elim
  | slot d => exact z.elim
  | val d =>
    cases d with
    | ins c' fs =>
      dsimp only at z
      by_cases hc : c' = c
      · rw [if_pos hc] at z
        subst hc
        cases e : fs[i]? with
        | none => rw [e] at z; exact z.elim
        | some d =>
          rw [e] at z
          obtain ⟨_, a, dx, xs, rfl, hs, hr⟩ := slt_of p.2
          obtain ⟨v, e1, e2⟩ := hr.get e
          exact ⟨a, dx, _, v, rfl, hs, mget e1, z v H1 l b ⟨p.1, e2⟩⟩
      · rw [if_neg hc] at z; exact z.elim
    | _ => exact z.elim
theorem me_fld {c i : Nat} {f : Str} (g : Gd W n X ex) (S : Sd W c f i) (ha : ME W X ex a A) (hb : attributeBase a f X.env (eval a X.env) = eval a X.env := by rfl) : ME W X ex (.Attribute a f pos) (.fld c i A) := fun pk =>
  (pe_sl (ha false) hb).imp fun s H Q h => (tE_fld h).mono fun x H1 z => by
    obtain ⟨a, dx, vs, v, e1, e2, e3, q⟩ := z
    obtain ⟨p, t⟩ := S.sl
    rw [g.hK]
    exact ⟨a, _, dx, p, vs, i, v, e1, e2, S.sc, t, e3, q⟩
/-- the property f of the class c: the def's promise -/
structure Pd (W : Wo) (k c : Nat) (x : Str) (f : Nat) : Prop where
  sc : SCls W.Z.K (W.Z.C c)
  ex : ∃ p a, PySem.W.findIn W.Z.K (.ref (W.Z.C c)) x = some (some (.ref p)) ∧ PySem.W.specialIn W.Z.K (.ref p) "__get__" = some (some (.builtin "property.__get__")) ∧ PySem.W.takesIn W.Z.K (.ref p) = some true ∧
    (∃ rest, PySem.W.recIn W.Z.K p "property" = some (.ref a :: rest)) ∧ FnG W.P W.w W.Z.K W.mg W.base (L2.CX W.P W.w) k a (spF W.Z W.K f)
theorem me_prop [Calm W] {c f : Nat} {y : Str} (g : Gd W n X ex) (S : Pd W k c y f) (ha : ME W X ex a A) (hk : k + 1 ≤ n := by omega) (hb : attributeBase a y X.env (eval a X.env) = eval a X.env := by rfl) : ME W X ex (.Attribute a y pos) (.prop c f A) := fun pk => by
  obtain ⟨p, b, h1, h2, h3, h4, F⟩ := S.ex
  refine (pe_propG (C := W.Z.C c) (p := p) (CX := L2.CX X.prog X.w) (E := E0) (ha false) ?_ ?_ ?_ ?_ ?_ (g.fn F) g.qu (g.room.mono hk) (fun H s e s' hx => ?_) hb).imp fun s H Q h => (tE_prop h).mono fun x H1 z => ?_
  · rw [g.hK]; exact S.sc
  · rw [g.hK]; exact h1
  · rw [g.hK]; exact h2
  · rw [g.hK]; exact h3
  · rw [g.hK]; exact h4
  · obtain ⟨_, _, _, _, _, _, _, _, _, _, _, _, z⟩ := hx
    exact z.elim
  · obtain ⟨⟨R, ds, hr⟩, q⟩ := z
    obtain ⟨_, a', dx, xs, rfl, hs, _⟩ := slt_of hr
    exact ⟨a', dx, _, rfl, hs, q⟩
/-! an instance is made -/
def AnC (Z : Zc) (E : XK) (C : Addr) (R0 : Pr) (x dx : Addr) (H : Hp) (Q : VK) : Res (List D) → Prop
  | .ok fs _ => ∀ ws H', KpN H H' x dx → Grd Z H' → H' x = some (SlO x C dx (ws.map some)) → H' dx = some (.xd []) → RepL Z H' R0 ws fs → Q .non H'
  | .exc c ds _ => ∀ d H', KpN H H' x dx → Grd Z H' → XRep Z H' R0 c ds d → E (.ref (Z.C c)) d H'
  | .bad => False
def spC (Z : Zc) (K : Calls) (c : Nat) : Sp := fun vs H Q E => ∃ x dx vs' R0 q, vs = .ref x :: vs' ∧ H x = some (.ins (Z.C c) dx []) ∧ H dx = some (.own x) ∧ dx ≠ x ∧ R0 x ∧ R0 dx ∧ FR Z R0 (vs'.map some) q H ∧
  (∀ (i : Nat) b d, q[i]? ≠ some (.ow b d)) ∧ AnC Z E (Z.C c) R0 x dx H Q (K.cn c q)
structure Md (W : Wo) (k : Nat) (x : Str) (c : Nat) : Prop where
  ex : ∃ a, Mk W.Z.K (W.Z.C c) a ∧ FnG W.P W.w W.Z.K W.mg W.base (L2.CX W.P W.w) k a (spC W.Z W.K c) ∧ W.mg x = some (.ref (W.Z.C c))
  lt : c < W.Z.nc
theorem make_an {Z : Zc} {K : Calls} {s : Sg} {H H1 : Hp} {c : Nat} {Q : VK} {R0 : Pr} {q q1 : Fm} {ws : List V} {l : List Ga} (hc : c < Z.nc) (la : Lat (Ow s q) H (Ow s q1) H1) (bk : BK q q1) (p : PoG Z R0 s H q1 H1 ws l) (z : An Z ex R0 s q H (PoV Z R0 s H) Q (makeR K c l q1)) :
    ∀ x dx, H1 x = none → H1 dx = none → dx ≠ x → spC Z K c (.ref x :: ws) (upd (upd H1 dx (.own x)) x (.ins (Z.C c) dx [])) (fun v H2 => v = .non ∧ Q (.ref x) H2) ex := by
  obtain ⟨f1, ga⟩ := p
  intro x dx hx hdx ne
  unfold makeR at z
  by_cases hl : lentIx l = []
  case neg => rw [if_neg hl] at z; exact z.elim
  rw [if_pos hl] at z
  cases e : lent q1 l with
  | none => rw [e] at z; exact z.elim
  | some as =>
    rw [e] at z
    dsimp only at z
    have nd : (lentIx l).Nodup := by rw [hl]; exact List.nodup_nil
    have fc := lend f1 ga nd e
    have sm : Same H1 (upd (upd H1 dx (.own x)) x (.ins (Z.C c) dx [])) := fun b o h => by rw [upd_ne (ne_of_none h hx), upd_ne (ne_of_none h hdx)]; exact h
    have up : ∀ b, Rt R0 s q1 b → R0c R0 s q1 l b := fun b y => by
      rcases y with y | ⟨i, b', d, y1, y2⟩
      · exact .inl y
      · exact .inr ⟨i, b', d, by rw [hl]; simp, y1, y2⟩
    have smH : ∀ {H' : Hp}, KpN (upd (upd H1 dx (.own x)) x (.ins (Z.C c) dx [])) H' x dx → (∀ b o, H1 b = some o → NT o → H' b = some o) ∧ ∀ b, H1 b ≠ none → H' b ≠ none := fun {H'} kp => ⟨fun b o h nt => kp.kp b o (sm b o h) (ne_of_none h hx) (ne_of_none h hdx) nt, fun b h => kp.tr b ((Lat.same (R := Ow s q) sm).tr b h)⟩
    refine ⟨x, dx, ws, fun b => R0c R0 s q1 l b ∨ b = x ∨ b = dx, as, rfl, upd_same, by rw [upd_ne ne, upd_same], ne, .inr (.inl rfl), .inr (.inr rfl), fc.on sm (fun b y => ?_) (fun b y => ?_), fun i b d e2 => ?_, ?_⟩
    · rcases y with y | y | y
      · exact .inl y
      · exact .inr (y ▸ hx)
      · exact .inr (y ▸ hdx)
    · rcases y with y | y | y
      · exact (Lat.same (R := Ow s q) sm).tr b (fc.trk b y)
      · rw [y, upd_same]; exact fun z => nomatch z
      · rw [y, upd_ne ne, upd_same]; exact fun z => nomatch z
    · rcases lent_at e e2 with ⟨d', _, e3⟩ | ⟨i', b2, d2, e1, _, _⟩
      · cases e3
      · have := lentIx_mem e1
        rw [hl] at this
        cases this
    · cases hr : K.cn c as with
      | bad => rw [hr] at z; exact z.elim
      | exc c' ds q2 =>
        rw [hr] at z
        intro d H' kp gr x2
        obtain ⟨s3, t3⟩ := smH kp
        exact z d H' (la.trans (Lat.sameN s3 t3)) bk (f1.onN s3 t3 gr (fun _ y => .inl y) fun b y => t3 b (f1.trk b y)) (x2.lat (Lat.sub fun b y => .inl (up b y)))
      | ok fs q2 =>
        rw [hr] at z
        intro ws' H' kp gr h1 h2 hr2
        obtain ⟨s3, t3⟩ := smH kp
        refine ⟨rfl, z (.ref x) H' (la.trans (Lat.sameN s3 t3)) bk ⟨f1.onN s3 t3 gr (fun _ y => .inl y) fun b y => t3 b (f1.trk b y), .ins hc h1 h2 (fun y => ?_) (fun y => ?_) (hr2.lat (Lat.sub fun b y => .inl (up b y)))⟩⟩
        · exact f1.rtT y hx
        · exact f1.rtT y hdx
theorem tE_make {Z : Zc} {K : Calls} {s : Sg} {H : Hp} {c : Nat} {gs : Gs} {pk : Bool} {Q : VK} (hc : c < Z.nc) (h : tE Z K ex (.make c gs) pk s H Q) : StX.tMakeR (Z.C c) (spC Z K c) ex (tGs Z K ex gs) s H Q := by
  unfold tE at h
  rw [show ev K (.make c gs) pk = fun q => bindR (evG K gs q) fun l q1 => makeR K c l q1 from rfl] at h
  exact TR.bind h fun R0 q q1 l ws H1 f0 la bk p z => make_an hc la bk p z
theorem tE_makeP {Z : Zc} {K : Calls} {s : Sg} {H : Hp} {c : Nat} {pm : List Nat} {gs : Gs} {pk : Bool} {Q : VK} (hc : c < Z.nc) (h : tE Z K ex (.makeP c pm gs) pk s H Q) : tGs Z K ex gs s H fun vs H1 => ∀ x dx, H1 x = none → H1 dx = none → dx ≠ x →
    spC Z K c (.ref x :: pick pm vs) (upd (upd H1 dx (.own x)) x (.ins (Z.C c) dx [])) (fun v H2 => v = .non ∧ Q (.ref x) H2) ex := by
  unfold tE at h
  rw [show ev K (.makeP c pm gs) pk = fun q => bindR (evG K gs q) fun l q1 => makeR K c (pick pm l) q1 from rfl] at h
  exact TR.bind h fun R0 q q1 l ws H1 f0 la bk p z => make_an hc la bk ⟨p.1, gaR_pick p.2 pm⟩ z
theorem me_make [Calm W] {c : Nat} {gs : Gs} {e : Expr} (g : Gd W n X ex) (md : Md W k x c) (ha : MG W X ex (e :: es) gs) (hk : k + 1 ≤ n := by omega) (hg : Gl X x := by rfl) (hdb : (x == ("__debug__" : Str)) = false := by decide) (he : starEach (e :: es) X.env = (false, eval e X.env) :: starEach es X.env := by rfl) (hpl : (backTo pos (starEach es X.env)).any (·.1) = false := by rfl) :
    ME W X ex (.Call (.Name x p1) (e :: es) [] pos) (.make c gs) := fun pk => by
  obtain ⟨a, h1, h2, h3⟩ := md.ex
  exact (pe_makeG (by rw [g.hK]; exact h1) (g.fn h2) g.qu (g.room.mono hk) hg (by rw [g.hm]; exact h3) g.ps ha hdb he hpl).imp fun _ _ _ h => tE_make md.lt h
/-! append, extend -/
end
end M

set_option Elab.async false
set_option linter.all false
set_option maxRecDepth 100000
set_option maxHeartbeats 4000000
/-! A11: what is walked; targets. -/
namespace M
open PySem L2 PyProof.Rows

def Gen (Z : Zc) (R : Pr) (H : Hp) (J : It) (ds : List D) : Prop := ∃ G Y, Walk J ds.length G Y ∧ (∀ R' H', Lat R H R' H' → G H') ∧
  ∀ (i : Nat) x R' H' H'' d, ds[i]? = some d → Lat R H R' H' → (∀ b, R' b → H' b ≠ none) → Y i H' x H'' → Same H' H'' ∧ Rep Z H'' R' x d
def PoJ (Z : Zc) (R0 : Pr) (s : Sg) (H : Hp) (q' : Fm) (H' : Hp) (J : It) (ds : List D) : Prop := FR Z R0 s q' H' ∧ Gen Z (Rt R0 s q') H' J ds
def tI (Z : Zc) (K : Calls) (ex : XK) (it : I) : TI := TR Z ex (evI K it) (PoJ Z)
def MI (W : Wo) (X : Cx) (ex : XK) (tg e : Expr) (t : I) : Prop := PI X tg e (tI W.Z W.K ex t)
theorem _root_.L2.PI.imp {X : Cx} {tg e : Expr} {t t' : TI} (h : PI X tg e t) (i : ∀ s H Q, t' s H Q → t s H Q) : PI X tg e t' := ⟨fun pins s σ H Q I q => h.run pins s σ H Q I (i σ H Q q)⟩
theorem Gen.mono {Z : Zc} {R R' : Pr} {H H' : Hp} {J : It} {ds : List D} (g : Gen Z R H J ds) (l : Lat R H R' H') : Gen Z R' H' J ds := by
  obtain ⟨G, Y, w, h1, h2⟩ := g
  exact ⟨G, Y, w, fun R2 H2 l2 => h1 R2 H2 (l.trans l2), fun i x R2 H2 H3 d e l2 => h2 i x R2 H2 H3 d e (l.trans l2)⟩
section
variable {Z : Zc} {R : Pr} {H : Hp} {ds : List D} {a : Addr} {xs : List V}
theorem gen_lst (h : AtL Z.K H R a xs) (r : RepL Z H R xs ds) : Gen Z R H (Itl Z.K a) ds := by
  refine ⟨fun H => SqL Z.K H a xs, YAt xs, r.length ▸ walk_list, fun R' H' l => (h.lat l).sq, fun i x R' H' H'' d e l ht y => ?_⟩
  obtain ⟨rfl, y⟩ := y
  obtain ⟨v, h1, h2⟩ := (r.lat l).get e
  rw [y] at h1; cases h1
  exact ⟨Same.refl _, h2⟩
theorem gen_tup (h : AtT Z.K H R a xs) (r : RepL Z H R xs ds) : Gen Z R H (Itt Z.K a) ds := by
  refine ⟨fun H => SqT Z.K H a xs, YAt xs, r.length ▸ walk_tup, fun R' H' l => (h.lat l).sq, fun i x R' H' H'' d e l ht y => ?_⟩
  obtain ⟨rfl, y⟩ := y
  obtain ⟨v, h1, h2⟩ := (r.lat l).get e
  rw [y] at h1; cases h1
  exact ⟨Same.refl _, h2⟩
theorem gen_str (z : Str) : Gen Z R H (Its z) (strL z) := by
  have hl : (strL z).length = z.cps.size := by unfold strL; simp
  refine ⟨fun _ => True, _, hl ▸ walk_str, fun _ _ _ => True.intro, fun i x R' H' H'' d e l ht y => ?_⟩
  obtain ⟨rfl, c, h1, rfl⟩ := y
  refine ⟨Same.refl _, ?_⟩
  have : (strL z)[i]? = some (.str ⟨#[c]⟩) := by unfold strL; simp [h1]
  rw [this] at e; cases e
  exact .str _
theorem gen_rng {lo : Int} {n : Nat} : Gen Z R H (Itr lo n) (rngL lo n) := by
  have hl : (rngL lo n).length = n := by unfold rngL; simp
  refine ⟨fun _ => True, _, by rw [hl]; exact walk_range, fun _ _ _ => True.intro, fun i x R' H' H'' d e l ht y => ?_⟩
  obtain ⟨rfl, rfl⟩ := y
  refine ⟨Same.refl _, ?_⟩
  unfold rngL at e
  rw [List.getElem?_map] at e
  cases e2 : (List.range n)[i]? with
  | none => rw [e2] at e; cases e
  | some k =>
    rw [e2] at e; cases e
    have : k = i := by
      have := List.getElem?_eq_some_iff.mp e2
      obtain ⟨h1, h2⟩ := this
      simpa using h2.symm
    subst this
    exact .int _
theorem gen_rngC {lo c : Int} {n : Nat} : Gen Z R H (Itc lo c n) (rngC lo c n) := by
  have hl : (rngC lo c n).length = n := by unfold rngC; simp
  refine ⟨fun _ => True, _, by rw [hl]; exact walk_rangeC, fun _ _ _ => True.intro, fun i x R' H' H'' d e l ht y => ?_⟩
  obtain ⟨rfl, rfl⟩ := y
  refine ⟨Same.refl _, ?_⟩
  unfold rngC at e
  rw [List.getElem?_map] at e
  cases e2 : (List.range n)[i]? with
  | none => rw [e2] at e; cases e
  | some k =>
    rw [e2] at e; cases e
    have : k = i := by
      have := List.getElem?_eq_some_iff.mp e2
      obtain ⟨h1, h2⟩ := this
      simpa using h2.symm
    subst this
    exact .int _
/-- a list or a tuple -/
def AtX (b : Bool) (K : PySem.W.Frag) (H : Hp) (R : Pr) (a : Addr) (xs : List V) : Prop := match b with | true => AtT K H R a xs | false => AtL K H R a xs
theorem AtX.sq {b : Bool} {K : PySem.W.Frag} (h : AtX b K H R a xs) : SqX b K H a xs := by
  cases b with
  | true => exact AtT.sq h
  | false => exact AtL.sq h
theorem AtX.lat {b : Bool} {K : PySem.W.Frag} {R' : Pr} {H' : Hp} (l : Lat R H R' H') (h : AtX b K H R a xs) : AtX b K H' R' a xs := by
  cases b with
  | true => exact AtT.lat l h
  | false => exact AtL.lat l h
theorem rep_seq {v : V} {d : D} (h : Rep Z H R v d) (e : seqD d = some ds) : ∃ b a xs, v = .ref a ∧ AtX b Z.K H R a xs ∧ RepL Z H R xs ds := by
  cases h with
  | tup h1 h2 => cases e; exact ⟨true, _, _, rfl, h1, h2⟩
  | lst h1 h2 => cases e; exact ⟨false, _, _, rfl, h1, h2⟩
  | _ => cases e
theorem enmL_len : ∀ (k : Nat) (ds : List D), (enmL k ds).length = ds.length
  | _, [] => rfl
  | k, d :: ds => by rw [enmL, List.length_cons, enmL_len (k + 1) ds, List.length_cons]
theorem enmL_at : ∀ (k i : Nat) (ds : List D), (enmL k ds)[i]? = ds[i]?.map fun d => .tup [.int ((k + i : Nat)), d]
  | _, _, [] => by simp [enmL]
  | k, 0, d :: ds => by simp [enmL]
  | k, i + 1, d :: ds => by
    rw [enmL, List.getElem?_cons_succ, List.getElem?_cons_succ, enmL_at (k + 1) i ds]
    congr 1
    funext d
    rw [show k + 1 + i = k + (i + 1) by omega]
theorem zipL_len : ∀ (xs ys : List D), (zipL xs ys).length = min xs.length ys.length
  | [], _ => by simp [zipL]
  | _ :: _, [] => by simp [zipL]
  | a :: r, b :: t => by rw [zipL, List.length_cons, zipL_len r t]; simp only [List.length_cons]; omega
theorem zipL_at : ∀ (i : Nat) (xs ys : List D) (d : D), (zipL xs ys)[i]? = some d → ∃ x y, xs[i]? = some x ∧ ys[i]? = some y ∧ d = .tup [x, y]
  | _, [], _, _, h => by simp [zipL] at h
  | _, _ :: _, [], _, h => by simp [zipL] at h
  | 0, a :: r, b :: t, d, h => by simp [zipL] at h; exact ⟨a, b, rfl, rfl, h.symm⟩
  | i + 1, a :: r, b :: t, d, h => by
    rw [zipL, List.getElem?_cons_succ] at h
    simpa using zipL_at i r t d h
theorem gen_enm {b : Bool} (h : AtX b Z.K H R a xs) (r : RepL Z H R xs ds) : Gen Z R H (IteX b Z.K a) (enmL 0 ds) := by
  refine ⟨fun H => SqX b Z.K H a xs, YPair (fun i => some (.int (i : Nat))) (fun i => xs[i]?), ?_, fun R' H' l => (h.lat l).sq, fun i x R' H' H'' d e l ht y => ?_⟩
  · rw [enmL_len, ← r.length]
    refine ⟨fun i H hi q => ⟨xs, xs[i], q, by simp [hi]⟩, fun H q => ⟨xs, q, rfl⟩, fun i H v H' hi q y => ?_⟩
    obtain ⟨T, x, h1, h2, h3, h4⟩ := y
    exact ⟨T, .int (i : Nat), x, h1, h2, h3, rfl, h4 xs q⟩
  · obtain ⟨T, u, w, rfl, hn, rfl, e1, e2⟩ := y
    cases e1
    rw [enmL_at] at e
    cases e3 : ds[i]? with
    | none => rw [e3] at e; cases e
    | some d0 =>
      rw [e3] at e
      obtain ⟨v, h1, h2⟩ := (r.lat l).get e3
      have e2 : xs[i]? = some w := e2
      rw [e2] at h1; cases h1
      have e4 : D.tup [.int ((0 + i : Nat)), d0] = d := by simpa using e
      subst e4
      refine ⟨same_upd hn, rep_new_tup ht hn (.cons ?_ (.cons h2 .nil))⟩
      rw [Nat.zero_add]
      exact .int _
theorem gen_zip {b1 b2 : Bool} {a2 : Addr} {ys : List V} {es : List D} (h : AtX b1 Z.K H R a xs) (r : RepL Z H R xs ds) (h' : AtX b2 Z.K H R a2 ys) (r' : RepL Z H R ys es) : Gen Z R H (ItzX b1 b2 Z.K a a2) (zipL ds es) := by
  refine ⟨fun H => SqX b1 Z.K H a xs ∧ SqX b2 Z.K H a2 ys, YPair (fun i => xs[i]?) (fun i => ys[i]?), ?_, fun R' H' l => ⟨(h.lat l).sq, (h'.lat l).sq⟩, fun i x R' H' H'' d e l ht y => ?_⟩
  · rw [zipL_len, ← r.length, ← r'.length]
    refine ⟨fun i H hi q => ?_, fun H q => ⟨xs, ys, q.1, q.2, by omega, by omega, by omega⟩, fun i H v H' hi q y => ?_⟩
    · have h1 : i < xs.length := by omega
      have h2 : i < ys.length := by omega
      exact ⟨xs, ys, xs[i], ys[i], q.1, q.2, by simp [h1], by simp [h2]⟩
    · obtain ⟨T, x, w, h1, h2, h3, h4, h5⟩ := y
      exact ⟨T, x, w, h1, h2, h3, h4 xs q.1, h5 ys q.2⟩
  · obtain ⟨T, u, w, rfl, hn, rfl, e1, e2⟩ := y
    obtain ⟨x, y, e3, e4, rfl⟩ := zipL_at i ds es d e
    obtain ⟨v, h1, h2⟩ := (r.lat l).get e3
    obtain ⟨v', h1', h2'⟩ := (r'.lat l).get e4
    have e1 : xs[i]? = some u := e1
    have e2 : ys[i]? = some w := e2
    rw [e1] at h1; cases h1
    rw [e2] at h1'; cases h1'
    exact ⟨same_upd hn, rep_new_tup ht hn (.cons h2 (.cons h2' .nil))⟩
end
/-! rules -/
def iSeqX (K : PySem.W.Frag) (te : TE) : TI := fun σ H R => te σ H fun v H1 => (∃ a xs, v = .ref a ∧ SqL K H1 a xs ∧ R (Itl K a) H1) ∨ (∃ a xs, v = .ref a ∧ SqT K H1 a xs ∧ R (Itt K a) H1) ∨ ∃ z, v = .str z ∧ R (Its z) H1
theorem pi_seqX {X : Cx} {tg e : Expr} {te : TE} (he : PE X e te) : PI X tg e (iSeqX X.K te) := by
  refine ⟨fun pins s σ H R I h => ?_⟩
  refine thn (he.run pins s σ H _ I h) fun v s1 ⟨y, H1, I1, r1, q⟩ => ?_
  rcases q with ⟨a, xs, rfl, hq, q⟩ | ⟨a, xs, rfl, hq, q⟩ | ⟨x, rfl, q⟩
  · cases r1
    obtain ⟨its, rv, p, hz⟩ := I1.list hq
    refine wpAny_pyIter_list p.isList ?_
    refine ⟨s1.heap.objs.size, [s1.heap.objs.size], _, _, H1, rfl, I1.kept (t' := s1.toks) fun b o e => Heap.get?_push_of_some _ e, turn_list a _, ⟨_, Heap.get?_push_size _ rfl, rfl, rfl⟩, fun b hb => ?_, q⟩
    have e : b = s1.heap.objs.size := by simpa using hb
    subst e
    exact I1.fpOk (Nat.le_refl _) (I1.hok.fresh (Nat.le_refl _))
  · cases r1
    obtain ⟨its, rv, p, hz⟩ := I1.tuple hq
    refine wpAny_pyIter_tuple (show s1.heap.IsTuple a its.toArray from p) ?_
    refine ⟨s1.heap.objs.size, [s1.heap.objs.size], _, _, H1, rfl, I1.kept (t' := s1.toks) fun b o e => Heap.get?_push_of_some _ e, turn_tuple a _, ⟨_, Heap.get?_push_size _ rfl, rfl, rfl⟩, fun b hb => ?_, q⟩
    have e : b = s1.heap.objs.size := by simpa using hb
    subst e
    exact I1.fpOk (Nat.le_refl _) (I1.hok.fresh (Nat.le_refl _))
  · obtain ⟨t, rfl⟩ := r1
    cases ha : x.cps.all (· < 128)
    · exact wpAny_pyIter_wide ha (pi_one (tk := s1.toks) I1 _ (turn_str _ x t "str_iterator" (.inr rfl)) ⟨_, Heap.get?_push_size _ rfl, rfl, rfl⟩ q)
    · exact wpAny_pyIter_ascii ha (pi_one (tk := s1.toks) I1 _ (turn_str _ x t "str_ascii_iterator" (.inl rfl)) ⟨_, Heap.get?_push_size _ rfl, rfl, rfl⟩ q)
section
variable {W : Wo} {X : Cx} {ex : XK} {n : Nat} {pos p1 p2 : Pos} {a b c tg : Expr} {A B C : E} {x : Str}
theorem mi_seq (g : Gd W n X ex) (ha : ME W X ex a A) : MI W X ex tg a (.seq A) := (pi_seqX (ha false)).imp fun s H Q h => by
  unfold tI at h
  rw [show evI W.K (.seq A) = fun q => bindR (ev W.K A false q) fun r q1 => match r.vd with
    | some d => match itemsD d with
      | some l => .ok l q1
      | none => .bad
    | none => .bad from rfl] at h
  refine TR.bind h fun R0 q q1 r w H1 f0 l bk p z => ?_
  cases e : r.vd with
  | none => rw [e] at z; exact z.elim
  | some d =>
    rw [e] at z
    dsimp only at z
    obtain ⟨f1, rp⟩ := p.vd f0 e
    rw [g.hK]
    cases rp with
    | lst h1 h2 => exact .inl ⟨_, _, rfl, h1.sq, z _ H1 l bk ⟨f1, gen_lst h1 h2⟩⟩
    | tup h1 h2 => exact .inr (.inl ⟨_, _, rfl, h1.sq, z _ H1 l bk ⟨f1, gen_tup h1 h2⟩⟩)
    | str y => exact .inr (.inr ⟨_, rfl, z _ H1 l bk ⟨f1, gen_str y⟩⟩)
    | _ => exact z.elim
theorem vds_cons {r : RV} {rs : List RV} {ds : List D} (h : vds (r :: rs) = some ds) : ∃ d l, ds = d :: l ∧ r.vd = some d ∧ vds rs = some l := by
  unfold vds at h
  cases e : r.vd with
  | none => rw [e] at h; cases h
  | some d =>
    cases e2 : vds rs with
    | none => rw [e, e2] at h; cases h
    | some l => rw [e, e2] at h; cases h; exact ⟨d, l, rfl, rfl, rfl⟩
theorem vds_nil {ds : List D} (h : vds [] = some ds) : ds = [] := by cases h; rfl
theorem inR_iff {i : Int} (h : inR i = true) : -(2 ^ 62) ≤ i ∧ i < 2 ^ 62 := by
  unfold inR at h
  simpa using h
section
variable {Z : Zc} {K : Calls} {s : Sg} {H : Hp}
theorem tI_1 {it : I} {f : List D → Option (List D)} {Q : It → Hp → Prop} (he : evI K it = fun q => bindR (ev K A false q) fun r q1 => itR [r] q1 f) (h : tI Z K ex it s H Q) :
    tE Z K ex A false s H fun v H1 => ∃ R d l, (∀ b, R b → H1 b ≠ none) ∧ Rep Z H1 R v d ∧ f [d] = some l ∧ ∀ J, Gen Z R H1 J l → Q J H1 := by
  unfold tI at h
  rw [he] at h
  refine TR.bind h fun R0 q q1 r w H1 f0 l bk p z => ?_
  unfold itR at z
  cases e : vds [r] with
  | none => rw [e] at z; exact z.elim
  | some ds =>
    rw [e] at z
    dsimp only at z
    obtain ⟨d, l', rfl, e1, e2⟩ := vds_cons e
    cases vds_nil e2
    cases e3 : f [d] with
    | none => rw [e3] at z; exact z.elim
    | some li =>
      rw [e3] at z
      obtain ⟨f1, rp⟩ := p.vd f0 e1
      exact ⟨_, d, li, fun b hb => f1.rtT hb, rp, e3, fun J gg => z J H1 l bk ⟨f1, gg⟩⟩
theorem tI_2 {it : I} {f : List D → Option (List D)} {Q : It → Hp → Prop} (he : evI K it = fun q => bindR (ev K A false q) fun r q1 => bindR (ev K B false q1) fun r2 q2 => itR [r, r2] q2 f) (h : tI Z K ex it s H Q) :
    tE Z K ex A false s H fun v H1 => tE Z K ex B false s H1 fun v2 H2 => ∃ R d d2 l, Rep Z H2 R v d ∧ Rep Z H2 R v2 d2 ∧ f [d, d2] = some l ∧ ∀ J, Gen Z R H2 J l → Q J H2 := by
  unfold tI at h
  rw [he] at h
  refine TR.bind h fun R0 q q1 r w H1 f0 l b p z => ?_
  have fr1 : FR Z R0 s q1 H1 := (p.down f0).1
  refine ⟨R0, q1, fr1, (An.late (Po' := PoJ Z R0 s H1) l b (fun _ _ _ _ l2 p => p) z).bind fun q2 w2 H2 r2 _ l2 b2 p2 z2 => ?_⟩
  unfold itR at z2
  cases e : vds [r, r2] with
  | none => rw [e] at z2; exact z2.elim
  | some ds =>
    rw [e] at z2
    dsimp only at z2
    obtain ⟨d, l8, rfl, e1, e2⟩ := vds_cons e
    obtain ⟨d2, l9, rfl, e3, e4⟩ := vds_cons e2
    cases vds_nil e4
    cases e5 : f [d, d2] with
    | none => rw [e5] at z2; exact z2.elim
    | some li =>
      rw [e5] at z2
      obtain ⟨f2, rp2⟩ := p2.vd fr1 e3
      obtain ⟨_, rp1⟩ := p.vd f0 e1
      exact ⟨_, d, d2, li, rp1.lat (lat_rt l2), rp2, e5, fun J gg => z2 J H2 l2 b2 ⟨f2, gg⟩⟩
theorem tI_3 {it : I} {f : List D → Option (List D)} {Q : It → Hp → Prop} (he : evI K it = fun q => bindR (ev K A false q) fun r q1 => bindR (ev K B false q1) fun r2 q2 => bindR (ev K C false q2) fun r3 q3 => itR [r, r2, r3] q3 f) (h : tI Z K ex it s H Q) :
    tE Z K ex A false s H fun v H1 => tE Z K ex B false s H1 fun v2 H2 => tE Z K ex C false s H2 fun v3 H3 => ∃ R d d2 d3 l, Rep Z H3 R v d ∧ Rep Z H3 R v2 d2 ∧ Rep Z H3 R v3 d3 ∧ f [d, d2, d3] = some l ∧ ∀ J, Gen Z R H3 J l → Q J H3 := by
  unfold tI at h
  rw [he] at h
  refine TR.bind h fun R0 q q1 r w H1 f0 l b p z => ?_
  have fr1 : FR Z R0 s q1 H1 := (p.down f0).1
  refine ⟨R0, q1, fr1, (An.late (Po' := PoJ Z R0 s H1) l b (fun _ _ _ _ l2 p => p) z).bind fun q2 w2 H2 r2 _ l2 b2 p2 z2 => ?_⟩
  have fr2 : FR Z R0 s q2 H2 := (p2.down fr1).1
  refine ⟨R0, q2, fr2, (An.late (Po' := PoJ Z R0 s H2) l2 b2 (fun _ _ _ _ l2 p => p) z2).bind fun q3 w3 H3 r3 _ l3 b3 p3 z3 => ?_⟩
  unfold itR at z3
  cases e : vds [r, r2, r3] with
  | none => rw [e] at z3; exact z3.elim
  | some ds =>
    rw [e] at z3
    dsimp only at z3
    obtain ⟨d, l7, rfl, e1, e2⟩ := vds_cons e
    obtain ⟨d2, l8, rfl, e3, e4⟩ := vds_cons e2
    obtain ⟨d3, l9, rfl, e5, e6⟩ := vds_cons e4
    cases vds_nil e6
    cases e7 : f [d, d2, d3] with
    | none => rw [e7] at z3; exact z3.elim
    | some li =>
      rw [e7] at z3
      obtain ⟨f3, rp3⟩ := p3.vd fr2 e5
      obtain ⟨_, rp2⟩ := p2.vd fr1 e3
      obtain ⟨_, rp1⟩ := p.vd f0 e1
      exact ⟨_, d, d2, d3, li, (rp1.lat (lat_rt l2)).lat (lat_rt l3), rp2.lat (lat_rt l3), rp3, e7, fun J gg => z3 J H3 l3 b3 ⟨f3, gg⟩⟩
end
theorem rep_int {Z : Zc} {H : Hp} {R : Pr} {v : V} {i : Int} (h : Rep Z H R v (.int i)) : v = .int i := by cases h; rfl
theorem mi_rng1 (g : Gd W n X ex) (hm : W.mg "range" = none) (ha : ME W X ex a A) (hg : Gl X "range" := by rfl) (hs : starEach [a] X.env = [(false, eval a X.env)] := by rfl) : MI W X ex tg (.Call (.Name "range" p1) [a] [] pos) (.rng1 A) :=
  (pi_range1 hg (by rw [g.hm]; exact hm) (pa_cons (ha false) pa_nil hs) hs).imp fun s H Q h => (tI_1 rfl h).mono fun v H1 z => by
    obtain ⟨R, d, l, ht, rp, e, k⟩ := z
    cases d with
    | int j =>
      simp only [rng1F] at e
      split at e
      · rename_i hr
        cases e
        obtain ⟨h1, h2⟩ := inR_iff hr
        exact ⟨j, by rw [rep_int rp], h1, h2, k _ gen_rng⟩
      · cases e
    | _ => cases e
theorem mi_enm {elts : List Expr} {kk : Nat} {tpos : Pos} (g : Gd W n X ex) (hm : W.mg "enumerate" = none) (ha : ME W X ex a A) (hg : Gl X "enumerate" := by rfl) (hs : starEach [a] X.env = [(false, eval a X.env)] := by rfl) : MI W X ex (.Tuple elts kk tpos) (.Call (.Name "enumerate" p1) [a] [] pos) (.enm A) :=
  (pi_enumX hg (by rw [g.hm]; exact hm) (pa_cons (ha false) pa_nil hs) hs).imp fun s H Q h => (tI_1 rfl h).mono fun v H1 z => by
    obtain ⟨R, d, l, ht, rp, e, k⟩ := z
    cases e2 : seqD d with
    | none => simp only [enmF, e2] at e; cases e
    | some ds =>
      simp only [enmF, e2] at e
      cases e
      obtain ⟨b, a', xs, rfl, h1, h2⟩ := rep_seq rp e2
      rw [g.hK]
      exact ⟨a', xs, b, rfl, h1.sq, k _ (gen_enm h1 h2)⟩
theorem mi_zip {elts : List Expr} {kk : Nat} {tpos : Pos} (g : Gd W n X ex) (hm : W.mg "zip" = none) (ha : ME W X ex a A) (hb : ME W X ex b B) (hg : Gl X "zip" := by rfl) (hs : starEach [a, b] X.env = (false, eval a X.env) :: starEach [b] X.env := by rfl) (hs2 : starEach [b] X.env = (false, eval b X.env) :: starEach [] X.env := by rfl) (hpl : (backTo pos (starEach [b] X.env)).any (·.1) = false := by rfl) :
    MI W X ex (.Tuple elts kk tpos) (.Call (.Name "zip" p1) [a, b] [] pos) (.zip A B) :=
  (pi_zipX hg (by rw [g.hm]; exact hm) (pa_cons (ha false) (pa_cons (hb false) pa_nil hs2) hs) hs hpl).imp fun s H Q h => (tI_2 rfl h).mono fun v H1 z => z.mono fun v2 H2 z => by
    obtain ⟨R, d, d2, l, r1, r2, e, k⟩ := z
    cases e1 : seqD d with
    | none => simp only [zipF, e1] at e; cases e
    | some ds =>
      cases e2 : seqD d2 with
      | none => simp only [zipF, e1, e2] at e; cases e
      | some es =>
        simp only [zipF, e1, e2] at e
        cases e
        obtain ⟨b1, a1, xs, rfl, h1, h2⟩ := rep_seq r1 e1
        obtain ⟨b2, a2, ys, rfl, h3, h4⟩ := rep_seq r2 e2
        rw [g.hK]
        exact ⟨a1, a2, xs, ys, b1, b2, rfl, h1.sq, h3.sq, k _ (gen_zip h1 h2 h3 h4)⟩
end
end M

set_option Elab.async false
set_option linter.all false
set_option maxRecDepth 100000
set_option maxHeartbeats 4000000
/-! A12: targets. -/
namespace M
open PySem L2 PyProof.Rows

def BKs (σ : Sg) (q : Fm) (σ' : Sg) (q' : Fm) : Prop := ∀ i, bor q' i → bor q i ∧ σ'[i]? = σ[i]?
theorem BKs.refl (σ : Sg) (q : Fm) : BKs σ q σ q := fun _ h => ⟨h, rfl⟩
theorem BKs.trans {σ σ1 σ2 : Sg} {q q1 q2 : Fm} (a : BKs σ q σ1 q1) (b : BKs σ1 q1 σ2 q2) : BKs σ q σ2 q2 := fun i h => ⟨(a i (b i h).1).1, (b i h).2.trans (a i (b i h).1).2⟩
theorem BK.s {σ : Sg} {q q' : Fm} (b : BK q q') : BKs σ q σ q' := fun i h => ⟨b i h, rfl⟩
def PreG (Z : Zc) (R0 : Pr) (σ : Sg) (q : Fm) (H : Hp) (v : V) : RV → Prop
  | .val d => FR Z R0 σ q H ∧ Rep Z H (Rt R0 σ q) v d
  | .new d => ∃ a, v = .ref a ∧ ¬ R0 a ∧ FR Z (P1 R0 a) σ q H ∧ OwnAt Z H (Rt (P1 R0 a) σ q) a d
  | .slot _ => FR Z R0 σ q H
def Ax (r : RV) (v : V) : Pr := fun b => match r with | .new _ => v = .ref b | _ => False
def AnG (Z : Zc) (R0 : Pr) (σ : Sg) (q : Fm) (H : Hp) (B : Pr) (ns : List Nat) (Q : Sg → Hp → Prop) : Res Unit → Prop
  | .ok _ q' => ∀ σ' H', Lat B H (Ow σ' q') H' → BKs σ q σ' q' → (∀ i, i ∉ ns → σ'[i]? = σ[i]?) → σ'.length = σ.length → FR Z R0 σ' q' H' → Q σ' H'
  | _ => False
def tG (Z : Zc) (K : Calls) (l : LV) : TG := fun v σ H Q => ∃ R0 q r, PreG Z R0 σ q H v r ∧ AnG Z R0 σ q H (fun b => Ow σ q b ∨ Ax r v b) l.ns Q (evL K l r q)
def tGl (Z : Zc) (K : Calls) (l : LVs) : TGs := fun vs σ H Q => ∃ R0 q ds, FR Z R0 σ q H ∧ RepL Z H (Rt R0 σ q) vs ds ∧ AnG Z R0 σ q H (Ow σ q) l.ns Q (evLs K l ds q)
def ML (W : Wo) (X : Cx) (tg : Expr) (l : LV) : Prop := PG X tg (tG W.Z W.K l)
def MLs (W : Wo) (X : Cx) (tg : List Expr) (l : LVs) : Prop := PGs X tg (tGl W.Z W.K l)
theorem _root_.L2.PG.imp {X : Cx} {tg : Expr} {t t' : TG} (h : PG X tg t) (i : ∀ v s H Q, t' v s H Q → t v s H Q) : PG X tg t' := ⟨fun pins s σ H v u Q I r q => h.run pins s σ H v u Q I r (i v σ H Q q)⟩
theorem _root_.L2.PGs.imp {X : Cx} {tg : List Expr} {t t' : TGs} (h : PGs X tg t) (i : ∀ v s H Q, t' v s H Q → t v s H Q) : PGs X tg t' := ⟨fun pins s σ H v u Q I r q => h.run pins s σ H v u Q I r (i v σ H Q q)⟩
section
variable {Z : Zc} {K : Calls} {R0 : Pr} {σ : Sg} {q : Fm} {H : Hp} {v : V}
theorem own_rep {a : Addr} {d : D} (n : ¬ R0 a) (f : FR Z (P1 R0 a) σ q H) (o : OwnAt Z H (Rt (P1 R0 a) σ q) a d) : FR Z R0 σ q H ∧ Rep Z H (Rt R0 σ q) (.ref a) d := by
  refine ⟨f.fewer fun b z => .inl z, ?_⟩
  obtain ⟨ds, xs, e, h1, h2⟩ := o
  subst e
  refine .lst (.inl ⟨.inl h1, fun z => ?_⟩) (h2.lat (Lat.sub fun c z => Or.elim z (fun z => .inl (.inl z)) .inr))
  rcases z with z | ⟨i, b, d, z1, z2⟩
  · exact n z
  · obtain ⟨a', e1, n, _⟩ := f.ow i b d z1
    rw [z2] at e1; cases e1
    exact n (.inr rfl)
theorem PreG.vd {r : RV} {d : D} (h : PreG Z R0 σ q H v r) (e : r.vd = some d) : FR Z R0 σ q H ∧ Rep Z H (Rt R0 σ q) v d := by
  cases r with
  | val d' => cases e; exact h
  | new d' =>
    cases e
    obtain ⟨a, rfl, n, f, o⟩ := h
    exact own_rep n f o
  | slot i => cases e
theorem set_ow {i : Nat} {t : Slot} {b : Addr} (ht : t.isOw = false) {x : Option V} (h : Ow (σ.set i x) (q.set i t) b) : Ow σ q b := by
  obtain ⟨j, b', d, h1, h2⟩ := h
  by_cases hj : i = j
  · subst hj
    by_cases hl : i < q.length
    · rw [List.getElem?_set_self hl] at h1; cases h1; cases ht
    · rw [List.getElem?_eq_none (by simpa using hl)] at h1; cases h1
  · rw [List.getElem?_set_ne hj] at h1 h2
    exact ⟨j, b', d, h1, h2⟩
/-- a name gets a shared value -/
theorem FR.setSh (f : FR Z R0 σ q H) {i : Nat} {d : D} (hi : i < q.length) (r : Rep Z H (Rt R0 σ q) v d) : FR Z R0 (σ.set i (some v)) (q.set i (.sh false d)) H := by
  have lt : Lat (Rt R0 σ q) H (Rt R0 (σ.set i (some v)) (q.set i (.sh false d))) H := Lat.sub fun b z => Or.elim z .inl fun z => .inr (set_ow rfl z)
  have hs : i < σ.length := by rw [f.len]; exact hi
  refine ⟨by rw [List.length_set, List.length_set]; exact f.len, f.tb, f.trk, fun j b d' e => ?_, fun j b d' e => ?_, fun j k b b' d1 d2 a e e' h1 h2 => ?_⟩
  · by_cases hj : i = j
    · subst hj
      rw [List.getElem?_set_self hi] at e; cases e
      exact ⟨v, List.getElem?_set_self hs, r.lat lt⟩
    · rw [List.getElem?_set_ne hj] at e
      obtain ⟨w, h1, h2⟩ := f.sh j b d' e
      exact ⟨w, by rw [List.getElem?_set_ne hj]; exact h1, h2.lat lt⟩
  · by_cases hj : i = j
    · subst hj
      rw [List.getElem?_set_self hi] at e; cases e
    · rw [List.getElem?_set_ne hj] at e
      obtain ⟨a, h1, h2, h3⟩ := f.ow j b d' e
      exact ⟨a, by rw [List.getElem?_set_ne hj]; exact h1, h2, h3.lat lt rfl⟩
  · have n1 : i ≠ j := fun z => by subst z; rw [List.getElem?_set_self hi] at e; cases e
    have n2 : i ≠ k := fun z => by subst z; rw [List.getElem?_set_self hi] at e'; cases e'
    rw [List.getElem?_set_ne n1] at e h1
    rw [List.getElem?_set_ne n2] at e' h2
    exact f.sep j k b b' d1 d2 a e e' h1 h2
theorem setOw_ow {i : Nat} {a b : Addr} {d : D} (hs : i < σ.length) (h : Ow (σ.set i (some (.ref a))) (q.set i (.ow false d)) b) : Ow σ q b ∨ b = a := by
  obtain ⟨j, b', d', h1, h2⟩ := h
  by_cases hj : i = j
  · subst hj
    rw [List.getElem?_set_self hs] at h2
    cases h2
    exact .inr rfl
  · rw [List.getElem?_set_ne hj] at h1 h2
    exact .inl ⟨j, b', d', h1, h2⟩
/-- a name gets a new list -/
theorem FR.setOw {a : Addr} (f : FR Z (P1 R0 a) σ q H) (n : ¬ R0 a) {i : Nat} {d : D} (hi : i < q.length) (o : OwnAt Z H (Rt (P1 R0 a) σ q) a d) : FR Z R0 (σ.set i (some (.ref a))) (q.set i (.ow false d)) H := by
  have hs : i < σ.length := by rw [f.len]; exact hi
  have lt : Lat (Rt (P1 R0 a) σ q) H (Rt R0 (σ.set i (some (.ref a))) (q.set i (.ow false d))) H := Lat.sub fun b z => by
    rcases z with z | z
    · exact .inl (.inl z)
    · exact Or.elim (setOw_ow hs z) .inr fun e => .inl (.inr e)
  refine ⟨by rw [List.length_set, List.length_set]; exact f.len, f.tb, fun b z => f.trk b (.inl z), fun j b d' e => ?_, fun j b d' e => ?_, fun j k b b' d1 d2 c e e' h1 h2 => ?_⟩
  · have hj : i ≠ j := fun z => by subst z; rw [List.getElem?_set_self hi] at e; cases e
    rw [List.getElem?_set_ne hj] at e
    obtain ⟨w, h1, h2⟩ := f.sh j b d' e
    exact ⟨w, by rw [List.getElem?_set_ne hj]; exact h1, h2.lat lt⟩
  · by_cases hj : i = j
    · subst hj
      rw [List.getElem?_set_self hi] at e; cases e
      exact ⟨a, List.getElem?_set_self hs, n, o.lat lt rfl⟩
    · rw [List.getElem?_set_ne hj] at e
      obtain ⟨a', h1, h2, h3⟩ := f.ow j b d' e
      exact ⟨a', by rw [List.getElem?_set_ne hj]; exact h1, fun z => h2 (.inl z), h3.lat lt rfl⟩
  · have key : ∀ {k : Nat} {b' : Bool} {d2 : D}, i ≠ k → q[k]? = some (.ow b' d2) → σ[k]? = some (some (.ref a)) → False := fun {k b' d2} hk e h => by
      obtain ⟨a', h1, h2, _⟩ := f.ow k b' d2 e
      rw [h] at h1; cases h1
      exact h2 (.inr rfl)
    by_cases hj : i = j
    · by_cases hk : i = k
      · exact hj.symm.trans hk
      · subst hj
        rw [List.getElem?_set_self hs] at h1; cases h1
        rw [List.getElem?_set_ne hk] at e' h2
        exact (key hk e' h2).elim
    · by_cases hk : i = k
      · subst hk
        rw [List.getElem?_set_self hs] at h2; cases h2
        rw [List.getElem?_set_ne hj] at e h1
        exact (key hj e h1).elim
      · rw [List.getElem?_set_ne hj] at e h1
        rw [List.getElem?_set_ne hk] at e' h2
        exact f.sep j k b b' d1 d2 c e e' h1 h2
/-- an owned list is written -/
theorem FR.put (f : FR Z R0 σ q H) {i : Nat} {b : Bool} {d : D} {a : Addr} {ds : List D} {xs : List V} (e : q[i]? = some (.ow b d)) (es : σ[i]? = some (some (.ref a))) (r : RepL Z H (Rt R0 σ q) xs ds) :
    FR Z R0 σ (q.set i (.ow b (.lst ds))) (upd H a (.lst xs)) ∧ Lat (Ow σ q) H (Ow σ (q.set i (.ow b (.lst ds)))) (upd H a (.lst xs)) ∧ BK q (q.set i (.ow b (.lst ds))) := by
  have hi : i < q.length := (List.getElem?_eq_some_iff.mp e).1
  have ow' : ∀ {c : Addr}, Ow σ (q.set i (.ow b (.lst ds))) c → Ow σ q c := fun {c} ⟨j, b', d', h1, h2⟩ => by
    by_cases hj : i = j
    · subst hj
      exact ⟨i, b, d, e, h2⟩
    · rw [List.getElem?_set_ne hj] at h1
      exact ⟨j, b', d', h1, h2⟩
  have ha : Ow σ q a := ⟨i, b, d, e, es⟩
  have lt : Lat (Ow σ q) H (Ow σ (q.set i (.ow b (.lst ds)))) (upd H a (.lst xs)) := by
    refine ⟨fun c o h n _ => ?_, fun c z => .inl (ow' z), fun c h => ?_⟩
    · rw [upd_ne (fun z => by subst z; exact n ha)]; exact h
    · by_cases hc : c = a
      · rw [hc, upd_same]; exact fun z => nomatch z
      · rw [upd_ne hc]; exact h
  have lr := lat_rt (R0 := R0) lt
  refine ⟨⟨by rw [List.length_set]; exact f.len, f.tb.upd (f.owT ha).choose_spec, fun c z => lt.tr c (f.trk c z), fun j b' d' z => ?_, fun j b' d' z => ?_, fun j k b1 b2 d1 d2 c z1 z2 h1 h2 => ?_⟩, lt, bk_set e fun z => z⟩
  · have hj : i ≠ j := fun y => by subst y; rw [List.getElem?_set_self hi] at z; cases z
    rw [List.getElem?_set_ne hj] at z
    obtain ⟨w, h1, h2⟩ := f.sh j b' d' z
    exact ⟨w, h1, h2.lat lr⟩
  · by_cases hj : i = j
    · subst hj
      rw [List.getElem?_set_self hi] at z; cases z
      obtain ⟨a', h1, h2, _⟩ := f.ow i b d e
      rw [es] at h1; cases h1
      exact ⟨a, es, h2, ds, xs, rfl, upd_same, r.lat lr⟩
    · rw [List.getElem?_set_ne hj] at z
      obtain ⟨a', h1, h2, ds', xs', h3, h4, h5⟩ := f.ow j b' d' z
      refine ⟨a', h1, h2, ds', xs', h3, ?_, h5.lat lr⟩
      rw [upd_ne (fun y => by subst y; exact hj (f.sep i j b b' d d' _ e z es h1))]
      exact h4
  · have g1 : ∃ b' d', q[j]? = some (.ow b' d') := by
      by_cases hj : i = j
      · exact ⟨b, d, hj ▸ e⟩
      · rw [List.getElem?_set_ne hj] at z1; exact ⟨_, _, z1⟩
    have g2 : ∃ b' d', q[k]? = some (.ow b' d') := by
      by_cases hj : i = k
      · exact ⟨b, d, hj ▸ e⟩
      · rw [List.getElem?_set_ne hj] at z2; exact ⟨_, _, z2⟩
    obtain ⟨_, _, g1⟩ := g1
    obtain ⟨_, _, g2⟩ := g2
    exact f.sep j k _ _ _ _ c g1 g2 h1 h2
theorem bks_set {i : Nat} {t t' : Slot} {x : Option V} (e : q[i]? = some t) (h : t'.isBor = false) : BKs σ q (σ.set i x) (q.set i t') := by
  intro j ⟨u, h1, h2⟩
  by_cases hj : i = j
  · subst hj
    rw [List.getElem?_set_self (List.getElem?_eq_some_iff.mp e).1] at h1; cases h1
    rw [h] at h2; cases h2
  · rw [List.getElem?_set_ne hj] at h1 ⊢
    exact ⟨⟨u, h1, h2⟩, rfl⟩
theorem tG_nm {i : Nat} {Q : Sg → Hp → Prop} (h : tG Z K (.nm i) v σ H Q) : gName i v σ H Q := by
  obtain ⟨R0, q, r, p, h⟩ := h
  rw [show evL K (.nm i) r q = setName i r q from rfl] at h
  unfold setName at h
  cases e : q[i]? with
  | none => rw [e] at h; exact h.elim
  | some t =>
    rw [e] at h
    dsimp only at h
    cases hb : t.isBor with
    | true => rw [hb] at h; exact h.elim
    | false =>
      rw [hb] at h
      have hi : i < q.length := (List.getElem?_eq_some_iff.mp e).1
      have ns : ∀ x : Option V, ∀ j, j ∉ (LV.nm i).ns → (σ.set i x)[j]? = σ[j]? := fun x j hj => List.getElem?_set_ne (fun z => hj (by subst z; simp [LV.ns]))
      cases r with
      | slot _ => exact h.elim
      | val d =>
        obtain ⟨f, rp⟩ := p
        exact h (σ.set i (some v)) H (Lat.sub fun b z => .inl (set_ow rfl z)) (bks_set e rfl) (ns _) List.length_set (f.setSh hi rp)
      | new d =>
        obtain ⟨a, rfl, n, f, o⟩ := p
        have hs : i < σ.length := by rw [f.len]; exact hi
        exact h (σ.set i (some (.ref a))) H (Lat.sub fun b z => Or.elim (setOw_ow hs z) .inl fun e => .inr (by rw [e]; exact rfl)) (bks_set e rfl) (ns _) List.length_set (f.setOw n hi o)
theorem tGl_nil {Q : Sg → Hp → Prop} {vs : List V} (h : tGl Z K .nil vs σ H Q) : gNil vs σ H Q := by
  obtain ⟨R0, q, ds, f, r, h⟩ := h
  cases r with
  | nil => exact ⟨rfl, h σ H (Lat.refl _ _) (BKs.refl _ _) (fun _ _ => rfl) rfl f⟩
  | cons _ _ => exact h.elim
theorem tGl_cons {l : LV} {ls : LVs} {Q : Sg → Hp → Prop} {vs : List V} (h : tGl Z K (.cons l ls) vs σ H Q) : gCons (tG Z K l) (tGl Z K ls) vs σ H Q := by
  obtain ⟨R0, q, ds, f, r, h⟩ := h
  cases r with
  | nil => exact h.elim
  | @cons v vs d ds r1 r2 =>
    rw [show evLs K (.cons l ls) (d :: ds) q = (match evL K l (.val d) q with
      | .ok _ q1 => evLs K ls ds q1
      | _ => .bad) from rfl] at h
    refine ⟨v, vs, rfl, R0, q, .val d, ⟨f, r1⟩, ?_⟩
    cases e : evL K l (.val d) q with
    | bad => rw [e] at h; exact h.elim
    | exc _ _ _ => rw [e] at h; exact h.elim
    | ok u q1 =>
      rw [e] at h
      intro σ1 H1 l1 b1 n1 len1 f1
      have l1 : Lat (Ow σ q) H (Ow σ1 q1) H1 := ⟨fun b o hb n => l1.kp b o hb fun z => Or.elim z n fun z => z.elim, fun b z => Or.elim (l1.nw b z) (fun z => Or.elim z .inl fun z => z.elim) .inr, l1.tr⟩
      refine ⟨R0, q1, ds, f1, r2.lat l1.more, ?_⟩
      dsimp only at h
      cases e2 : evLs K ls ds q1 with
      | bad => rw [e2] at h; exact h.elim
      | exc _ _ _ => rw [e2] at h; exact h.elim
      | ok u2 q2 =>
        rw [e2] at h
        intro σ2 H2 l2 b2 n2 len2 f2
        refine h σ2 H2 (l1.trans l2) (b1.trans b2) (fun i hi => ?_) (len2.trans len1) f2
        have hi' : i ∉ l.ns ∧ i ∉ ls.ns := by simpa [LVs.ns] using hi
        exact (n2 i hi'.2).trans (n1 i hi'.1)
theorem tG_tp {ls : LVs} {Q : Sg → Hp → Prop} (h : tG Z K (.tp ls) v σ H Q) : gTup Z.K ls.len (tGl Z K ls) v σ H Q := by
  obtain ⟨R0, q, r, p, h⟩ := h
  rw [show evL K (.tp ls) r q = (match r.vd with
    | some (.tup ds) => if ds.length = ls.len then evLs K ls ds q else .bad
    | _ => .bad) from rfl] at h
  cases e : r.vd with
  | none => rw [e] at h; exact h.elim
  | some d =>
    rw [e] at h
    cases d with
    | tup ds =>
      dsimp only at h
      by_cases hl : ds.length = ls.len
      case neg => rw [if_neg hl] at h; exact h.elim
      rw [if_pos hl] at h
      obtain ⟨f, rp⟩ := p.vd e
      cases rp with
      | tup h1 h2 =>
        refine ⟨_, _, rfl, h1.sq, by rw [h2.length]; exact hl, R0, q, ds, f, h2, ?_⟩
        cases e2 : evLs K ls ds q with
        | bad => rw [e2] at h; exact h.elim
        | exc _ _ _ => rw [e2] at h; exact h.elim
        | ok u q1 =>
          rw [e2] at h
          intro σ1 H1 l1 b1 n1 len1 f1
          exact h σ1 H1 ⟨fun b o hb n => l1.kp b o hb fun z => n (.inl z), fun b z => Or.elim (l1.nw b z) (fun z => .inl (.inl z)) .inr, l1.tr⟩ b1 n1 len1 f1
    | _ => exact h.elim
theorem tG_sub {i : Nat} {k : E} {Q : Sg → Hp → Prop} {ex : XK} (h : tG Z K (.sub i k) v σ H Q) : gSub (tVar i) (tE Z K ex k false) rSetL v σ H Q := by
  obtain ⟨R0, q, r, p, h⟩ := h
  rw [show evL K (.sub i k) r q = (match r.vd, q[i]? with
    | some d, some (.ow _ _) => match ev K k false q with
      | .ok (.val z) q1 => setSub i z d q1
      | _ => .bad
    | _, _ => .bad) from rfl] at h
  cases e : r.vd with
  | none => rw [e] at h; exact h.elim
  | some d =>
    obtain ⟨f, rp⟩ := p.vd e
    cases e2 : q[i]? with
    | none => rw [e, e2] at h; exact h.elim
    | some t =>
      cases t with
      | no => rw [e, e2] at h; exact h.elim
      | pin => rw [e, e2] at h; exact h.elim
      | sh _ _ => rw [e, e2] at h; exact h.elim
      | ow b0 d0 =>
        rw [e, e2] at h
        dsimp only at h
        obtain ⟨a, ha, _⟩ := f.ow i b0 d0 e2
        refine ⟨.ref a, ha, R0, q, f, ?_⟩
        cases e3 : ev K k false q with
        | bad => rw [e3] at h; exact h.elim
        | exc _ _ _ => rw [e3] at h; exact h.elim
        | ok x q1 =>
          rw [e3] at h
          intro w H2 l2 b2 p2
          cases x with
          | new _ => exact h.elim
          | slot _ => exact h.elim
          | val z =>
            dsimp only at h
            obtain ⟨f2, rz⟩ := p2
            unfold setSub at h
            cases e4 : q1[i]? with
            | none => rw [e4] at h; exact h.elim
            | some t =>
              cases t with
              | no => rw [e4] at h; exact h.elim
              | pin => rw [e4] at h; exact h.elim
              | sh _ _ => rw [e4] at h; exact h.elim
              | ow b1 d1 =>
                cases d1 with
                | lst ds =>
                  cases z with
                  | int zi =>
                    rw [e4] at h
                    dsimp only at h
                    cases rz
                    obtain ⟨a', ha', _, ds', xs, hd, hx, hr⟩ := f2.ow i b1 _ e4
                    cases hd
                    rw [ha] at ha'; cases ha'
                    cases e5 : ixN ds.length zi with
                    | none => rw [e5] at h; exact h.elim
                    | some j =>
                      rw [e5] at h
                      dsimp only at h
                      have rv : Rep Z H2 (Rt R0 σ q1) v d := rp.lat (lat_rt l2)
                      obtain ⟨f3, l3, b3⟩ := f2.put e4 ha (hr.set rv j)
                      refine ⟨a, xs, zi, j, rfl, rfl, hx, by rw [hr.length]; exact e5, ?_⟩
                      have l4 := l2.trans l3
                      exact h σ _ ⟨fun b o hb n => l4.kp b o hb fun z => n (.inl z), fun b z => Or.elim (l4.nw b z) (fun z => .inl (.inl z)) .inr, l4.tr⟩ (b2.s.trans b3.s) (fun _ _ => rfl) rfl f3
                  | _ => rw [e4] at h; exact h.elim
                | _ => rw [e4] at h; exact h.elim
end
section
variable {W : Wo} {X : Cx} {ex : XK} {n : Nat} {pos p1 p2 : Pos} {a b c tg : Expr} {A B C : E} {x : Str}
theorem ml_nm (g : Gd W n X ex) (i : Nat) (hi : X.N[i]? = some x := by rfl) (hx : Loc X.env.scope x := by first | exact Or.inl rfl | exact Or.inr rfl) (hf : X.fn x = true ∨ X.env.scope.names.lookup x = some .local := by first | exact .inl rfl | exact .inr rfl) : ML W X (.Name x pos) (.nm i) :=
  (pg_name g.nd hi hx hf).imp fun _ _ _ _ h => tG_nm h
theorem mls_nil : MLs W X [] .nil := pgs_nil.imp fun _ _ _ _ h => tGl_nil h
theorem mls_cons {l : LV} {ls : LVs} {es : List Expr} (h1 : ML W X a l) (h2 : MLs W X es ls) (hs : (assignEach (a :: es) X.env).map (·.2) = assign a X.env :: (assignEach es X.env).map (·.2) := by rfl) : MLs W X (a :: es) (.cons l ls) :=
  (pgs_cons h1 h2 hs).imp fun _ _ _ _ h => tGl_cons h
theorem ml_tp [Calm W] {ls : LVs} {es : List Expr} {k : Nat} (g : Gd W n X ex) (h : MLs W X es ls) (hn : (assignEach es X.env).length = ls.len := by rfl) (hst : (assignEach es X.env).findIdx? (·.1) = none := by rfl) : ML W X (.Tuple es k pos) (.tp ls) :=
  (pg_tup g.calm h hn hst).imp fun _ _ _ _ h => by rw [g.hK]; exact tG_tp h
theorem ml_sub {k : E} (g : Gd W n X ex) (i : Nat) (hk : ME W X ex b k) (hN : X.N[i]? = some x := by rfl) (hv : Vis X.env.scope x := by first | exact Or.inl rfl | exact Or.inr (Or.inl rfl) | exact Or.inr (Or.inr rfl)) (hd : (x == ("__debug__" : Str)) = false := by decide)
    (hcd : (x == ("__classdict__" : Str)) = false := by decide) (ha : ∀ v, assign (.Subscript (.Name x p1) b pos) X.env v = (do
      let ov ← holding [v] (eval (.Name x p1) X.env)
      let iv ← holding [v, ov] (eval b X.env)
      standAt pos
      holding [v, ov, iv] (setItem ov iv v)
      release [v, ov, iv] []) := by intro _; rfl) : ML W X (.Subscript (.Name x p1) b pos) (.sub i k) :=
  (pg_sub (pe_var hN hv hd hcd) (hk false) set_list ha).imp fun _ _ _ _ h => tG_sub h
end
end M

set_option Elab.async false
set_option linter.all false
set_option maxRecDepth 100000
set_option maxHeartbeats 4000000
/-! A13: comprehensions. -/
namespace M
open PySem L2 PyProof.Rows

theorem wipe_out {σ : Sg} {i : Nat} : ∀ {vs : List Nat}, i ∉ vs → (wipe σ vs)[i]? = σ[i]?
  | [], _ => rfl
  | v :: vs, h => by
    have h' : i ≠ v ∧ i ∉ vs := by simpa using h
    unfold wipe
    rw [List.getElem?_set_ne (Ne.symm h'.1), wipe_out h'.2]
theorem wipe_in {σ : Sg} {i : Nat} : ∀ {vs : List Nat}, i ∈ vs → (wipe σ vs)[i]? = if i < σ.length then some none else none
  | [], h => by cases h
  | v :: vs, h => by
    unfold wipe
    by_cases hv : v = i
    · subst hv
      by_cases hl : v < σ.length
      · rw [List.getElem?_set_self (by rw [wipe_length]; exact hl), if_pos hl]
      · rw [if_neg hl]; exact List.getElem?_eq_none (by rw [List.length_set, wipe_length]; omega)
    · rw [List.getElem?_set_ne hv]
      exact wipe_in (by simpa [Ne.symm hv] using h)
theorem wipe_ext {σ σ' : Sg} {vs : List Nat} (hl : σ'.length = σ.length) (h : ∀ i, i ∉ vs → σ'[i]? = σ[i]?) : wipe σ' vs = wipe σ vs := by
  apply List.ext_getElem?
  intro i
  by_cases hi : i ∈ vs
  · rw [wipe_in hi, wipe_in hi, hl]
  · rw [wipe_out hi, wipe_out hi, h i hi]
theorem wipe_idem {σ : Sg} {vs : List Nat} : wipe (wipe σ vs) vs = wipe σ vs := wipe_ext (wipe_length σ vs) fun _ h => wipe_out h
theorem wipeF_len {q : Fm} : ∀ {vs : List Nat}, (wipeF vs q).length = q.length
  | [] => rfl
  | v :: vs => by
    show ((wipeF vs q).set v .no).length = _
    rw [List.length_set, wipeF_len]
theorem wipeF_out {q : Fm} {i : Nat} : ∀ {vs : List Nat}, i ∉ vs → (wipeF vs q)[i]? = q[i]?
  | [], _ => rfl
  | v :: vs, h => by
    have h' : i ≠ v ∧ i ∉ vs := by simpa using h
    show ((wipeF vs q).set v .no)[i]? = _
    rw [List.getElem?_set_ne (Ne.symm h'.1), wipeF_out h'.2]
theorem wipeF_in {q : Fm} {i : Nat} {t : Slot} : ∀ {vs : List Nat}, i ∈ vs → (wipeF vs q)[i]? = some t → t = .no
  | [], h, _ => by cases h
  | v :: vs, h, e => by
    have e : ((wipeF vs q).set v .no)[i]? = some t := e
    by_cases hv : v = i
    · subst hv
      have hl : v < (wipeF vs q).length := by simpa using (List.getElem?_eq_some_iff.mp e).1
      rw [List.getElem?_set_self hl] at e; cases e; rfl
    · rw [List.getElem?_set_ne hv] at e
      exact wipeF_in (by simpa [Ne.symm hv] using h) e
theorem backF_len {old q : Fm} : ∀ {vs : List Nat}, (backF vs old q).length = q.length
  | [] => rfl
  | v :: vs => by
    show ((backF vs old q).set v (old.getD v .no)).length = _
    rw [List.length_set, backF_len]
theorem backF_out {old q : Fm} {i : Nat} : ∀ {vs : List Nat}, i ∉ vs → (backF vs old q)[i]? = q[i]?
  | [], _ => rfl
  | v :: vs, h => by
    have h' : i ≠ v ∧ i ∉ vs := by simpa using h
    show ((backF vs old q).set v (old.getD v .no))[i]? = _
    rw [List.getElem?_set_ne (Ne.symm h'.1), backF_out h'.2]
theorem backF_in {old q : Fm} {i : Nat} {t : Slot} : ∀ {vs : List Nat}, i ∈ vs → (backF vs old q)[i]? = some t → t = old.getD i .no
  | [], h, _ => by cases h
  | v :: vs, h, e => by
    have e : ((backF vs old q).set v (old.getD v .no))[i]? = some t := e
    by_cases hv : v = i
    · subst hv
      have hl : v < (backF vs old q).length := by simpa using (List.getElem?_eq_some_iff.mp e).1
      rw [List.getElem?_set_self hl] at e; cases e; rfl
    · rw [List.getElem?_set_ne hv] at e
      exact backF_in (by simpa [Ne.symm hv] using h) e
section
variable {Z : Zc} {K : Calls} {ex : XK} {R0 R1 : Pr} {σ : Sg} {q q1 q2 : Fm} {H H' : Hp} {vs : List Nat}
theorem wipe_ow {b : Addr} (h : Ow (wipe σ vs) (wipeF vs q) b) : Ow σ q b := by
  obtain ⟨i, b', d, h1, h2⟩ := h
  have hi : i ∉ vs := fun hi => nomatch (wipeF_in hi h1)
  rw [wipeF_out hi] at h1
  rw [wipe_out hi] at h2
  exact ⟨i, b', d, h1, h2⟩
theorem FR.wipe (f : FR Z R0 σ q H) (vs : List Nat) : FR Z R0 (wipe σ vs) (wipeF vs q) H := by
  have lt : Lat (Rt R0 σ q) H (Rt R0 (L2.wipe σ vs) (wipeF vs q)) H := Lat.sub fun b z => Or.elim z .inl fun z => .inr (wipe_ow z)
  refine ⟨by rw [wipe_length, wipeF_len]; exact f.len, f.tb, f.trk, fun i b d e => ?_, fun i b d e => ?_, fun i j b b' d d' a e e' h1 h2 => ?_⟩
  · have hi : i ∉ vs := fun hi => nomatch (wipeF_in hi e)
    rw [wipeF_out hi] at e
    obtain ⟨v, h1, h2⟩ := f.sh i b d e
    exact ⟨v, by rw [wipe_out hi]; exact h1, h2.lat lt⟩
  · have hi : i ∉ vs := fun hi => nomatch (wipeF_in hi e)
    rw [wipeF_out hi] at e
    obtain ⟨v, h1, h2, h3⟩ := f.ow i b d e
    exact ⟨v, by rw [wipe_out hi]; exact h1, h2, h3.lat lt rfl⟩
  · have hi : i ∉ vs := fun hi => nomatch (wipeF_in hi e)
    have hj : j ∉ vs := fun hi => nomatch (wipeF_in hi e')
    rw [wipeF_out hi] at e
    rw [wipeF_out hj] at e'
    rw [wipe_out hi] at h1
    rw [wipe_out hj] at h2
    exact f.sep i j b b' d d' a e e' h1 h2
theorem noOw_at (h : noOw vs q = true) {i : Nat} (hi : i ∈ vs) {b : Bool} {d : D} : q[i]? ≠ some (.ow b d) := by
  intro e
  unfold noOw at h
  rw [List.all_eq_true] at h
  have := h i hi
  rw [e] at this
  cases this
theorem back_slot (hn : noOw vs q1 = true) {i : Nat} {t : Slot} (h : (backF vs q1 q2)[i]? = some t) : (i ∈ vs ∧ (t = .no ∨ (t = .pin ∧ q1[i]? = some .pin) ∨ ∃ b d, t = .sh b d ∧ q1[i]? = some (.sh b d))) ∨ (i ∉ vs ∧ q2[i]? = some t) := by
  by_cases hi : i ∈ vs
  · have e := backF_in hi h
    refine .inl ⟨hi, ?_⟩
    rw [List.getD_eq_getElem?_getD] at e
    cases e1 : q1[i]? with
    | none => rw [e1] at e; exact .inl e
    | some u =>
      rw [e1] at e
      have e : t = u := e
      subst e
      cases t with
      | no => exact .inl rfl
      | pin => exact .inr (.inl ⟨rfl, rfl⟩)
      | sh b d => exact .inr (.inr ⟨b, d, rfl, rfl⟩)
      | ow b d => exact absurd e1 (noOw_at hn hi)
  · rw [backF_out hi] at h
    exact .inr ⟨hi, h⟩
theorem back_ow (hn : noOw vs q1 = true) {b : Addr} (h : Ow σ (backF vs q1 q2) b) : Ow (wipe σ vs) (wipeF vs q2) b := by
  obtain ⟨i, b', d, h1, h2⟩ := h
  rcases back_slot hn h1 with ⟨_, e | ⟨e, _⟩ | ⟨_, _, e, _⟩⟩ | ⟨hi, e⟩
  · cases e
  · cases e
  · cases e
  · exact ⟨i, b', d, by rw [wipeF_out hi]; exact e, by rw [wipe_out hi]; exact h2⟩
theorem FR.back (f1 : FR Z R0 σ q1 H) (hn : noOw vs q1 = true) (f2 : FR Z R1 (L2.wipe σ vs) (wipeF vs q2) H') (l : Lat (Rt R0 σ q1) H (Rt R1 (L2.wipe σ vs) (wipeF vs q2)) H') : FR Z R1 σ (backF vs q1 q2) H' := by
  have lt : Lat (Rt R1 (L2.wipe σ vs) (wipeF vs q2)) H' (Rt R1 σ (backF vs q1 q2)) H' := Lat.sub fun b z => Or.elim z .inl fun z => .inr (back_ow hn z)
  refine ⟨?_, f2.tb, f2.trk, fun i b d e => ?_, fun i b d e => ?_, fun i j b b' d d' a e e' h1 h2 => ?_⟩
  · rw [backF_len, ← wipeF_len (vs := vs), ← f2.len, wipe_length]
  · rcases back_slot hn e with ⟨_, e | ⟨e, _⟩ | ⟨_, _, e, e1⟩⟩ | ⟨hi, e⟩
    · cases e
    · cases e
    · cases e
      obtain ⟨v, h1, h2⟩ := f1.sh i b d e1
      exact ⟨v, h1, h2.lat (l.trans lt)⟩
    · obtain ⟨v, h1, h2⟩ := f2.sh i b d (by rw [wipeF_out hi]; exact e)
      rw [wipe_out hi] at h1
      exact ⟨v, h1, h2.lat lt⟩
  · rcases back_slot hn e with ⟨_, e | ⟨e, _⟩ | ⟨_, _, e, e1⟩⟩ | ⟨hi, e⟩
    · cases e
    · cases e
    · cases e
    · obtain ⟨v, h1, h2, h3⟩ := f2.ow i b d (by rw [wipeF_out hi]; exact e)
      rw [wipe_out hi] at h1
      exact ⟨v, h1, h2, h3.lat lt rfl⟩
  · rcases back_slot hn e with ⟨_, e | ⟨e, _⟩ | ⟨_, _, e, e1⟩⟩ | ⟨hi, e⟩
    · cases e
    · cases e
    · cases e
    · rcases back_slot hn e' with ⟨_, e' | ⟨e', _⟩ | ⟨_, _, e', e1⟩⟩ | ⟨hj, e'⟩
      · cases e'
      · cases e'
      · cases e'
      · exact f2.sep i j b b' d d' a (by rw [wipeF_out hi]; exact e) (by rw [wipeF_out hj]; exact e') (by rw [wipe_out hi]; exact h1) (by rw [wipe_out hj]; exact h2)
/-- a walk, with an invariant -/
theorem walk_by {J : It} {n : Nat} {G : Hp → Prop} {Y : Nat → Hp → V → Hp → Prop} (w : Walk J n G Y) {Hs : Hp} {Qd : Hp → Prop} {B : V → Hp → (Hp → Prop) → Prop} (Pv : Nat → Hp → Prop) (h0 : Pv 0 Hs) (hG : ∀ i H, i ≤ n → Pv i H → G H)
    (hs : ∀ i x H H', i < n → Pv i H → Y i H x H' → B x H' (Pv (i + 1))) (hd : ∀ H, Pv n H → Qd H) :
    ∃ W : Nat → Nat → Hp → Prop, (∃ m, W 0 m Hs) ∧ ∀ i m H, W i m H →
      (J.stop i H ∧ Qd H) ∨ (J.go i H ∧ ∃ Nx : Hp → Prop, (∀ H', Nx H' → ∃ m', m' < m ∧ W (i + 1) m' H') ∧ ∀ x H', J.yld i H x H' → B x H' Nx) := by
  refine ⟨fun i m H => m = n - i ∧ i ≤ n ∧ Pv i H, ⟨n, by simp, Nat.zero_le _, h0⟩, ?_⟩
  rintro i m H ⟨rfl, hi, p⟩
  have q := hG i H hi p
  by_cases hlt : i < n
  · exact .inr ⟨w.goes i H hlt q, Pv (i + 1), fun H' p' => ⟨n - (i + 1), by omega, rfl, hlt, p'⟩, fun x H' y => hs i x H H' hlt p (w.yields i H x H' hlt q y)⟩
  · have e : i = n := by omega
    subst e
    exact .inl ⟨w.stops H q, hd H p⟩
/-! the list that is being made stands at L -/
/-- Lat with L besides -/
def LaD (L : Addr) (σ : Sg) (q : Fm) (H : Hp) (σ' : Sg) (q' : Fm) (H' : Hp) : Prop := Lat (fun b => Ow σ q b ∨ b = L) H (fun b => Ow σ' q' b ∨ b = L) H'
theorem LaD.of {L : Addr} {σ' : Sg} {q' : Fm} (l : Lat (Ow σ q) H (Ow σ' q') H') : LaD L σ q H σ' q' H' :=
  ⟨fun b o h n => l.kp b o h fun z => n (.inl z), fun b z => Or.elim z (fun z => Or.elim (l.nw b z) (fun z => .inl (.inl z)) .inr) fun z => .inl (.inr z), l.tr⟩
/-- the state of the making -/
structure CI (Z : Zc) (R0 : Pr) (L : Addr) (σ : Sg) (q : Fm) (H : Hp) (acc : List D) : Prop where
  fr : FR Z (P1 R0 L) σ q H
  li : ∃ xs, H L = some (.lst xs) ∧ RepL Z H (Rt (P1 R0 L) σ q) xs acc
variable {L : Addr} {acc : List D}
theorem CI.not (c : CI Z R0 L σ q H acc) : ¬ Ow σ q L := fun ⟨i, b, d, h1, h2⟩ => by
  obtain ⟨a, e, n, _⟩ := c.fr.ow i b d h1
  rw [h2] at e; cases e
  exact n (.inr rfl)
/-- an evaluation goes by it -/
theorem CI.step {σ' : Sg} {q' : Fm} (c : CI Z R0 L σ q H acc) (l : Lat (Ow σ q) H (Ow σ' q') H') (f : FR Z (P1 R0 L) σ' q' H') : CI Z R0 L σ' q' H' acc := by
  obtain ⟨xs, h1, h2⟩ := c.li
  exact ⟨f, xs, l.kp L _ h1 c.not (fun _ z => nomatch z), h2.lat l.more⟩
theorem CI.wipe (c : CI Z R0 L σ q H acc) (vs : List Nat) : CI Z R0 L (wipe σ vs) (wipeF vs q) H acc := by
  obtain ⟨xs, h1, h2⟩ := c.li
  exact ⟨c.fr.wipe vs, xs, h1, h2.lat (Lat.sub fun b z => Or.elim z .inl fun z => .inr (wipe_ow z))⟩
/-- one more item -/
theorem CI.add {v : V} {d : D} (c : CI Z R0 L σ q H acc) (r : Rep Z H (Rt (P1 R0 L) σ q) v d) : ∃ xs, H L = some (.lst xs) ∧ xs.length = acc.length ∧ CI Z R0 L σ q (upd H L (.lst (xs ++ [v]))) (acc ++ [d]) ∧ LaD L σ q H σ q (upd H L (.lst (xs ++ [v]))) := by
  obtain ⟨xs, h1, h2⟩ := c.li
  have lt : Lat (fun b => b = L) H (fun b => b = L) (upd H L (.lst (xs ++ [v]))) := ⟨fun b o h n _ => by rw [upd_ne n]; exact h, fun b h => .inl h, fun b h => by
    by_cases hb : b = L
    · rw [hb, upd_same]; exact fun z => nomatch z
    · rw [upd_ne hb]; exact h⟩
  have lr : Lat (Rt (P1 R0 L) σ q) H (Rt (P1 R0 L) σ q) (upd H L (.lst (xs ++ [v]))) := ⟨fun b o h n => lt.kp b o h fun z => n (.inl (.inr z)), fun b h => .inl h, lt.tr⟩
  refine ⟨xs, h1, h2.length, ⟨⟨c.fr.len, c.fr.tb.upd h1, fun b z => lt.tr b (c.fr.trk b z), fun i b d e => ?_, fun i b d e => ?_, c.fr.sep⟩, xs ++ [v], upd_same, (h2.append (.cons r .nil)).lat lr⟩, ⟨fun b o h n => lt.kp b o h fun z => n (.inr z), fun b h => .inl h, lt.tr⟩⟩
  · obtain ⟨w, e1, e2⟩ := c.fr.sh i b d e
    exact ⟨w, e1, e2.lat lr⟩
  · obtain ⟨a, e1, n, ds, ys, e2, e3, e4⟩ := c.fr.ow i b d e
    exact ⟨a, e1, n, ds, ys, e2, lt.kp a _ e3 (fun z => n (.inr z)) (fun _ z => nomatch z), e4.lat lr⟩
theorem lad_rt {σ' : Sg} {q' : Fm} (l : LaD L σ q H σ' q' H') : Lat (Rt (P1 R0 L) σ q) H (Rt (P1 R0 L) σ' q') H' :=
  ⟨fun b o h n => l.kp b o h fun z => n (Or.elim z .inr fun z => .inl (.inr z)), fun b z => by
    rcases z with (z | z) | z
    · exact .inl (.inl (.inl z))
    · exact .inl (.inl (.inr z))
    · exact Or.elim (l.nw b (.inl z)) (fun z => .inl (Or.elim z .inr fun z => .inl (.inr z))) .inr, l.tr⟩
/-- target and test of a turn -/
theorem turn_ok {g : LV} {t : T} {d : D} {v : V} {B : Sg → Bool → Hp → Prop} (hσ : wipe σ vs = σ) (c : CI Z R0 L σ q H acc) (rv : Rep Z H (Rt (P1 R0 L) σ q) v d) (hns : ∀ i, i ∈ g.ns → i ∈ vs)
    (k : ∃ u qa b qb, evL K g (.val d) q = .ok u qa ∧ evT K t qa = .ok b qb ∧ ∀ σ2 H3, wipe σ2 vs = σ → σ2.length = σ.length → CI Z R0 L σ2 qb H3 acc → Lat (Ow σ q) H (Ow σ2 qb) H3 → BKs σ q σ2 qb → B σ2 b H3) :
    tG Z K g v σ H fun σ2 H2 => wipe σ2 vs = σ ∧ tT Z K E0 t σ2 H2 fun b H3 => B σ2 b H3 := by
  obtain ⟨u, qa, b, qb, e1, e2, k⟩ := k
  refine ⟨P1 R0 L, q, .val d, ⟨c.fr, rv⟩, ?_⟩
  rw [e1]
  intro σ2 H2 l2 b2 n2 len2 f2
  have l2 : Lat (Ow σ q) H (Ow σ2 qa) H2 := ⟨fun b o hb n => l2.kp b o hb fun z => Or.elim z n fun z => z.elim, fun b z => Or.elim (l2.nw b z) (fun z => Or.elim z .inl fun z => z.elim) .inr, l2.tr⟩
  have hw : wipe σ2 vs = wipe σ vs := wipe_ext len2 fun i hi => n2 i fun z => hi (hns i z)
  refine ⟨hw.trans hσ, P1 R0 L, qa, f2, ?_⟩
  rw [e2]
  intro w H3 l3 b3 p3
  obtain ⟨f3, rfl⟩ := p3
  exact k σ2 H3 (hw.trans hσ) len2 ((c.step l2 f2).step l3 f3) (l2.trans l3) (b2.trans b3.s)
theorem elt_ok {e : E} {Nx : Hp → Prop} (c : CI Z R0 L σ q H acc) (hl : acc.length < sizeLine) (k : ∃ r qc x, ev K e false q = .ok r qc ∧ r.vd = some x ∧ ∀ H', CI Z R0 L σ qc H' (acc ++ [x]) → LaD L σ q H σ qc H' → BK q qc → Nx H') :
    tE Z K E0 e false σ H fun y H4 => ∃ xs, H4 L = some (.lst xs) ∧ xs.length < sizeLine ∧ Nx (upd H4 L (.lst (xs ++ [y]))) := by
  obtain ⟨r, qc, x, e1, e2, k⟩ := k
  refine ⟨P1 R0 L, q, c.fr, ?_⟩
  rw [e1]
  intro w H4 l4 b4 p4
  obtain ⟨f4, rp⟩ := p4.vd c.fr e2
  obtain ⟨xs, h1, h2, c5, l5⟩ := (c.step l4 f4).add rp
  exact ⟨xs, h1, by rw [h2]; exact hl, k _ c5 ((LaD.of l4).trans l5) b4⟩
theorem drop_at {l : List D} {i : Nat} {d : D} (h : l[i]? = some d) : l.drop i = d :: l.drop (i + 1) := by
  obtain ⟨h1, h2⟩ := List.getElem?_eq_some_iff.mp h
  rw [List.drop_eq_getElem_cons h1, h2]
/-- how a turn of the plain loop goes -/
theorem loopC_inv {asg : D → Fm → Res Unit} {test : Fm → Res Bool} {elt : Fm → Res RV} {d : D} {ds r : List D} {qe : Fm} (h : loopC vs asg test elt acc (d :: ds) q = .ok r qe) :
    ∃ u qa b qb, asg d (wipeF vs q) = .ok u qa ∧ test qa = .ok b qb ∧ ((b = false ∧ loopC vs asg test elt acc ds qb = .ok r qe) ∨
      (b = true ∧ ∃ x qc y, elt qb = .ok x qc ∧ x.vd = some y ∧ acc.length < sizeLine ∧ loopC vs asg test elt (acc ++ [y]) ds qc = .ok r qe)) := by
  rw [loopC] at h
  cases e1 : asg d (wipeF vs q) with
  | bad => rw [e1] at h; cases h
  | exc _ _ _ => rw [e1] at h; cases h
  | ok u qa =>
    rw [e1] at h
    dsimp only at h
    cases e2 : test qa with
    | bad => rw [e2] at h; cases h
    | exc _ _ _ => rw [e2] at h; cases h
    | ok b qb =>
      rw [e2] at h
      refine ⟨u, qa, b, qb, rfl, e2, ?_⟩
      cases b with
      | false =>
        dsimp only at h
        split at h
        · exact .inl ⟨rfl, h⟩
        · cases h
      | true =>
        dsimp only at h
        cases e3 : elt qb with
        | bad => rw [e3] at h; cases h
        | exc _ _ _ => rw [e3] at h; cases h
        | ok x qc =>
          rw [e3] at h
          dsimp only at h
          cases e4 : x.vd with
          | none => rw [e4] at h; cases h
          | some y =>
            rw [e4] at h
            dsimp only at h
            split at h
            · rename_i hh
              rw [Bool.and_eq_true] at hh
              exact .inr ⟨rfl, x, qc, y, rfl, e4, of_decide_eq_true hh.1, h⟩
            · cases h
/-- bors, but for the names of the block -/
def BKo (vs : List Nat) (q q' : Fm) : Prop := ∀ i, i ∉ vs → bor q' i → bor q i
theorem bor_wipe {i : Nat} (h : bor (wipeF vs q) i) : bor q i ∧ i ∉ vs := by
  obtain ⟨t, h1, h2⟩ := h
  have hi : i ∉ vs := fun hi => by
    have := wipeF_in hi h1
    subst this
    cases h2
  rw [wipeF_out hi] at h1
  exact ⟨⟨t, h1, h2⟩, hi⟩
theorem tE_lc {g : LV} {it : I} {t : T} {e : E} {pk : Bool} {Q : VK} (hns : ∀ i, i ∈ g.ns → i ∈ vs) (h : tE Z K ex (.lc vs g it t e) pk σ H Q) : tLc (tI Z K ex it) (tG Z K g) (tT Z K E0 t) (tE Z K E0 e false) vs σ H Q := by
  unfold tE at h
  rw [show ev K (.lc vs g it t e) pk = fun q => bindR (evI K it q) fun l q1 => if noOw vs q1 then
      match loopC vs (fun d q => evL K g (.val d) q) (evT K t) (ev K e false) [] l q1 with
      | .ok ds q2 => .ok (.new (.lst ds)) (backF vs q1 q2)
      | _ => .bad
    else .bad from rfl] at h
  refine TR.bind h fun R0 q q1 l J H1 f0 la bk p z => ?_
  obtain ⟨f1, G, Y, wk, gG, gY⟩ := p
  intro L hL
  have hno : noOw vs q1 = true := by
    cases e : noOw vs q1 with
    | true => rfl
    | false => rw [e] at z; exact z.elim
  rw [if_pos hno] at z
  cases hr : loopC vs (fun d q => evL K g (.val d) q) (evT K t) (ev K e false) [] l q1 with
  | bad => rw [hr] at z; exact z.elim
  | exc _ _ _ => rw [hr] at z; exact z.elim
  | ok dsr qr =>
    rw [hr] at z
    dsimp only at z
    have sm : Same H1 (upd H1 L (.lst [])) := same_upd hL
    have t0 : ∀ b, P1 R0 L b → (upd H1 L (.lst [])) b ≠ none := fun b y => by
      rcases y with y | y
      · exact (Lat.same (R := Ow σ q) sm).tr b (f1.trk b y)
      · rw [y, upd_same]; exact fun z => nomatch z
    have c0 : CI Z R0 L σ q1 (upd H1 L (.lst [])) [] := ⟨f1.on sm (fun b y => Or.elim y .inl fun e => .inr (e ▸ hL)) t0, [], upd_same, RepL.nil⟩
    have l0 : ∀ {q' : Fm} {H' : Hp}, LaD L (wipe σ vs) (wipeF vs q1) (upd H1 L (.lst [])) (wipe σ vs) (wipeF vs q') H' → Lat (Ow σ q1) H1 (Ow (wipe σ vs) (wipeF vs q')) H' := fun {q' H'} l2 => by
      refine ⟨fun b o hb n => l2.kp b o (sm b o hb) fun y => ?_, fun b y => ?_, fun b hb => l2.tr b ((Lat.same (R := Ow σ q) sm).tr b hb)⟩
      · rcases y with y | y
        · exact n (wipe_ow y)
        · rw [y, hL] at hb; cases hb
      · rcases l2.nw b (.inl y) with (y | y) | y
        · exact .inl (wipe_ow y)
        · exact .inr (y ▸ hL)
        · exact .inr (sm.free y)
    refine walk_by wk (B := fun x H' Nx => tG Z K g x (wipe σ vs) H' fun σ2 H2 => wipe σ2 vs = wipe σ vs ∧ tT Z K E0 t σ2 H2 fun b H3 =>
        if b = true then tE Z K E0 e false σ2 H3 fun y H4 => ∃ acc, H4 L = some (.lst acc) ∧ acc.length < sizeLine ∧ Nx (upd H4 L (.lst (acc ++ [y]))) else Nx H3)
      (fun i H' => ∃ qi acc, CI Z R0 L (wipe σ vs) (wipeF vs qi) H' acc ∧ LaD L (wipe σ vs) (wipeF vs q1) (upd H1 L (.lst [])) (wipe σ vs) (wipeF vs qi) H' ∧ BKo vs q1 qi ∧ loopC vs (fun d q => evL K g (.val d) q) (evT K t) (ev K e false) acc (l.drop i) qi = .ok dsr qr) ?_ ?_ ?_ ?_
    · exact ⟨q1, [], c0.wipe vs, Lat.refl _ _, fun _ _ h => h, hr⟩
    · rintro i H' hi ⟨qi, acc, c, lp, _, _⟩
      refine gG (Rt R0 (wipe σ vs) (wipeF vs qi)) H' ((l0 lp).more)
    · rintro i x H2 H3 hi ⟨qi, acc, c, lp, bo, hl⟩ y
      obtain ⟨d, hd⟩ : ∃ d, l[i]? = some d := ⟨l[i], by simp [hi]⟩
      obtain ⟨s3, rx⟩ := gY i x (Rt (P1 R0 L) (wipe σ vs) (wipeF vs qi)) H2 H3 d hd ((Lat.more (S := R0) (l0 lp)).less fun b y => by
        rcases y with (y | y) | y
        · exact .inl (.inl y)
        · exact .inr (y ▸ hL)
        · exact .inl (.inr y)) (fun b hb => c.fr.rtT hb) y
      have c3 : CI Z R0 L (wipe σ vs) (wipeF vs qi) H3 acc := c.step (Lat.same s3) (c.fr.on s3 (fun _ y => .inl y) fun b y => (Lat.same (R := Ow σ q) s3).tr b (c.fr.trk b y))
      rw [drop_at hd] at hl
      obtain ⟨u, qa, b, qb, e1, e2, hl⟩ := loopC_inv hl
      refine turn_ok wipe_idem c3 rx hns ⟨u, qa, b, qb, e1, e2, fun σ2 H4 hw len2 c4 l4 b4 => ?_⟩
      have bo2 : BKo vs q1 qb := fun j hj hb => bo j hj (bor_wipe (b4 j hb).1).1
      have l5 : LaD L (wipe σ vs) (wipeF vs q1) (upd H1 L (.lst [])) σ2 qb H4 := (lp.trans (LaD.of (Lat.same s3))).trans (LaD.of l4)
      have fin : ∀ {acc' : List D} {qc : Fm} {H5 : Hp}, CI Z R0 L σ2 qc H5 acc' → LaD L σ2 qb H4 σ2 qc H5 → BK qb qc → loopC vs (fun d q => evL K g (.val d) q) (evT K t) (ev K e false) acc' (l.drop (i + 1)) qc = .ok dsr qr →
          ∃ qi acc, CI Z R0 L (wipe σ vs) (wipeF vs qi) H5 acc ∧ LaD L (wipe σ vs) (wipeF vs q1) (upd H1 L (.lst [])) (wipe σ vs) (wipeF vs qi) H5 ∧ BKo vs q1 qi ∧ loopC vs (fun d q => evL K g (.val d) q) (evT K t) (ev K e false) acc (l.drop (i + 1)) qi = .ok dsr qr := fun {acc' qc H5} c5 l6 b6 hl' => by
        refine ⟨qc, acc', ?_, (l5.trans l6).trans (Lat.sub fun b y => Or.elim y (fun y => .inl (wipe_ow (by rw [hw]; exact y))) .inr), fun j hj hb => bo2 j hj (b6 j hb), hl'⟩
        have := c5.wipe vs
        rw [hw] at this
        exact this
      rcases hl with ⟨rfl, hl⟩ | ⟨rfl, x2, qc, y2, e3, e4, e5, hl⟩
      · exact iteF (fin c4 (Lat.refl _ _) (BK.refl _) hl)
      · exact iteT (elt_ok c4 e5 ⟨x2, qc, y2, e3, e4, fun H5 c5 l6 b6 => fin c5 l6 b6 hl⟩)
    · rintro H2 ⟨qi, acc, c, lp, bo, hl⟩
      rw [List.drop_length] at hl
      rw [loopC] at hl
      cases hl
      have lz := l0 lp
      obtain ⟨xs, h1, h2⟩ := c.li
      have lb : Lat (Rt R0 σ q1) H1 (Rt (P1 R0 L) (wipe σ vs) (wipeF vs qr)) H2 := (Lat.more (S := R0) lz).less fun b y => by
        rcases y with (y | y) | y
        · exact .inl (.inl y)
        · exact .inr (y ▸ hL)
        · exact .inl (.inr y)
      have fb := f1.back hno c.fr lb
      have ls : Lat (Ow (wipe σ vs) (wipeF vs qr)) H2 (Ow σ (backF vs q1 qr)) H2 := Lat.sub fun b y => back_ow hno y
      refine z (.ref L) H2 (la.trans (lz.trans ls)) (bk.trans fun i ⟨t, e1, e2⟩ => ?_) ⟨L, rfl, la.new hL, fb, _, xs, rfl, h1, h2.lat (Lat.more ls)⟩
      rcases back_slot hno e1 with ⟨_, e | ⟨e, e3⟩ | ⟨b, d, e, e3⟩⟩ | ⟨hi, e⟩
      · subst e; cases e2
      · subst e; exact ⟨_, e3, e2⟩
      · subst e; exact ⟨_, e3, e2⟩
      · exact bo i hi ⟨t, e, e2⟩
end
theorem wipeF_in' {q : Fm} {i : Nat} : ∀ {vs : List Nat}, i ∈ vs → (wipeF vs q)[i]? = if i < q.length then some .no else none
  | [], h => by cases h
  | v :: vs, h => by
    show ((wipeF vs q).set v .no)[i]? = _
    by_cases hv : v = i
    · subst hv
      by_cases hl : v < q.length
      · rw [List.getElem?_set_self (by rw [wipeF_len]; exact hl), if_pos hl]
      · rw [if_neg hl]; exact List.getElem?_eq_none (by rw [List.length_set, wipeF_len]; omega)
    · rw [List.getElem?_set_ne hv]
      exact wipeF_in' (by simpa [Ne.symm hv] using h)
theorem wipeF_two {q : Fm} {vs vs1 : List Nat} (h : ∀ i, i ∈ vs1 → i ∈ vs) : wipeF vs (wipeF vs1 q) = wipeF vs q := by
  apply List.ext_getElem?
  intro i
  by_cases hi : i ∈ vs
  · rw [wipeF_in' hi, wipeF_in' hi, wipeF_len]
  · rw [wipeF_out hi, wipeF_out hi, wipeF_out fun z => hi (h i z)]
theorem wipe_two {σ : Sg} {vs vs1 : List Nat} (h : ∀ i, i ∈ vs1 → i ∈ vs) : wipe (wipe σ vs1) vs = wipe σ vs := wipe_ext (wipe_length σ vs1) fun i hi => wipe_out fun z => hi (h i z)
section
variable {Z : Zc} {K : Calls} {ex : XK} {R0 R1 : Pr} {σ : Sg} {q q1 q2 : Fm} {H H' : Hp} {vs vs1 : List Nat} {L : Addr} {acc : List D}
theorem loopC1_inv {asg : D → Fm → Res Unit} {test : Fm → Res Bool} {elt : Fm → Res RV} {d : D} {ds r : List D} {qe : Fm} (h : loopC1 vs vs1 asg test elt acc (d :: ds) q = .ok r qe) :
    ∃ u qa b qb, asg d (wipeF vs1 q) = .ok u qa ∧ test qa = .ok b qb ∧ ((b = false ∧ loopC1 vs vs1 asg test elt acc ds qb = .ok r qe) ∨
      (b = true ∧ ∃ x qc y, elt qb = .ok x qc ∧ x.vd = some y ∧ acc.length < sizeLine ∧ loopC1 vs vs1 asg test elt (acc ++ [y]) ds qc = .ok r qe)) := by
  rw [loopC1] at h
  cases e1 : asg d (wipeF vs1 q) with
  | bad => rw [e1] at h; cases h
  | exc _ _ _ => rw [e1] at h; cases h
  | ok u qa =>
    rw [e1] at h
    dsimp only at h
    cases e2 : test qa with
    | bad => rw [e2] at h; cases h
    | exc _ _ _ => rw [e2] at h; cases h
    | ok b qb =>
      rw [e2] at h
      refine ⟨u, qa, b, qb, rfl, e2, ?_⟩
      cases b with
      | false =>
        dsimp only at h
        split at h
        · exact .inl ⟨rfl, h⟩
        · cases h
      | true =>
        dsimp only at h
        cases e3 : elt qb with
        | bad => rw [e3] at h; cases h
        | exc _ _ _ => rw [e3] at h; cases h
        | ok x qc =>
          rw [e3] at h
          dsimp only at h
          cases e4 : x.vd with
          | none => rw [e4] at h; cases h
          | some y =>
            rw [e4] at h
            dsimp only at h
            split at h
            · rename_i hh
              rw [Bool.and_eq_true] at hh
              exact .inr ⟨rfl, x, qc, y, rfl, e4, of_decide_eq_true hh.1, h⟩
            · cases h
theorem loopC2_inv {asg : D → Fm → Res Unit} {test : Fm → Res Bool} {inner : List D → Fm → Res (List D)} {d : D} {ds r : List D} {qe : Fm} (h : loopC2 vs asg test inner acc (d :: ds) q = .ok r qe) :
    ∃ u qa b qb, asg d (wipeF vs q) = .ok u qa ∧ test qa = .ok b qb ∧ ((b = false ∧ loopC2 vs asg test inner acc ds qb = .ok r qe) ∨
      (b = true ∧ ∃ acc' qc, inner acc qb = .ok acc' qc ∧ loopC2 vs asg test inner acc' ds qc = .ok r qe)) := by
  rw [loopC2] at h
  cases e1 : asg d (wipeF vs q) with
  | bad => rw [e1] at h; cases h
  | exc _ _ _ => rw [e1] at h; cases h
  | ok u qa =>
    rw [e1] at h
    dsimp only at h
    cases e2 : test qa with
    | bad => rw [e2] at h; cases h
    | exc _ _ _ => rw [e2] at h; cases h
    | ok b qb =>
      rw [e2] at h
      refine ⟨u, qa, b, qb, rfl, e2, ?_⟩
      cases b with
      | false =>
        dsimp only at h
        split at h
        · exact .inl ⟨rfl, h⟩
        · cases h
      | true =>
        dsimp only at h
        cases e3 : inner acc qb with
        | bad => rw [e3] at h; cases h
        | exc _ _ _ => rw [e3] at h; cases h
        | ok x qc =>
          rw [e3] at h
          dsimp only at h
          split at h
          · exact .inr ⟨rfl, x, qc, rfl, h⟩
          · cases h
/-- the inner walk -/
theorem inner_ok {g1 : LV} {it1 : I} {t1 : T} {e : E} {acc' : List D} {qd : Fm} {Nx : Hp → Prop} (c : CI Z R0 L σ q H acc) (hns : ∀ i, i ∈ g1.ns → i ∈ vs1)
    (h : (bindR (evI K it1 q) fun l1 q2 => if noOw vs q2 then loopC1 vs vs1 (fun d q => evL K g1 (.val d) q) (evT K t1) (ev K e false) acc l1 q2 else .bad) = .ok acc' qd)
    (k : ∀ H', CI Z R0 L (wipe σ vs1) (wipeF vs1 qd) H' acc' → LaD L σ q H (wipe σ vs1) (wipeF vs1 qd) H' → BKo vs1 q qd → Nx H') :
    tI Z K E0 it1 σ H fun J1 H4 => ∃ W1 : Nat → Nat → Hp → Prop, (∃ m, W1 0 m H4) ∧ ∀ j k H, W1 j k H →
      (J1.stop j H ∧ Nx H) ∨ (J1.go j H ∧ ∃ Nx1 : Hp → Prop, (∀ H', Nx1 H' → ∃ k', k' < k ∧ W1 (j + 1) k' H') ∧ ∀ x H', J1.yld j H x H' → tG Z K g1 x (wipe σ vs1) H' fun σ3 H5 => wipe σ3 vs1 = wipe σ vs1 ∧ tT Z K E0 t1 σ3 H5 fun b H6 =>
        if b = true then tE Z K E0 e false σ3 H6 fun y H7 => ∃ acc, H7 L = some (.lst acc) ∧ acc.length < sizeLine ∧ Nx1 (upd H7 L (.lst (acc ++ [y]))) else Nx1 H6) := by
  refine ⟨P1 R0 L, q, c.fr, ?_⟩
  cases e1 : evI K it1 q with
  | bad => rw [e1] at h; cases h
  | exc _ _ _ => rw [e1] at h; cases h
  | ok l q2 =>
    rw [e1] at h
    have h : (if noOw vs q2 then loopC1 vs vs1 (fun d q => evL K g1 (.val d) q) (evT K t1) (ev K e false) acc l q2 else .bad) = .ok acc' qd := h
    split at h
    case isFalse => cases h
    intro J H4 la bk p
    obtain ⟨f1, G, Y, wk, gG, gY⟩ := p
    have c1 : CI Z R0 L σ q2 H4 acc := c.step la f1
    refine walk_by wk (B := fun x H' Nx => tG Z K g1 x (wipe σ vs1) H' fun σ2 H2 => wipe σ2 vs1 = wipe σ vs1 ∧ tT Z K E0 t1 σ2 H2 fun b H3 =>
        if b = true then tE Z K E0 e false σ2 H3 fun y H4 => ∃ acc, H4 L = some (.lst acc) ∧ acc.length < sizeLine ∧ Nx (upd H4 L (.lst (acc ++ [y]))) else Nx H3)
      (fun i H' => ∃ qi acc, CI Z R0 L (wipe σ vs1) (wipeF vs1 qi) H' acc ∧ LaD L σ q2 H4 (wipe σ vs1) (wipeF vs1 qi) H' ∧ BKo vs1 q2 qi ∧ loopC1 vs vs1 (fun d q => evL K g1 (.val d) q) (evT K t1) (ev K e false) acc (l.drop i) qi = .ok acc' qd) ?_ ?_ ?_ ?_
    · exact ⟨q2, acc, c1.wipe vs1, Lat.sub fun b y => Or.elim y (fun y => .inl (wipe_ow y)) .inr, fun _ _ h => h, h⟩
    · rintro i H' hi ⟨qi, acc, c, lp, _, _⟩
      exact gG _ H' (lad_rt lp)
    · rintro i x H2 H3 hi ⟨qi, acc, c, lp, bo, hl⟩ y
      obtain ⟨d, hd⟩ : ∃ d, l[i]? = some d := ⟨l[i], by simp [hi]⟩
      obtain ⟨s3, rx⟩ := gY i x (Rt (P1 R0 L) (wipe σ vs1) (wipeF vs1 qi)) H2 H3 d hd (lad_rt lp) (fun b hb => c.fr.rtT hb) y
      have c3 : CI Z R0 L (wipe σ vs1) (wipeF vs1 qi) H3 acc := c.step (Lat.same s3) (c.fr.on s3 (fun _ y => .inl y) fun b y => (Lat.same (R := Ow σ q) s3).tr b (c.fr.trk b y))
      rw [drop_at hd] at hl
      obtain ⟨u, qa, b, qb, e1, e2, hl⟩ := loopC1_inv hl
      refine turn_ok wipe_idem c3 rx hns ⟨u, qa, b, qb, e1, e2, fun σ2 H4' hw len2 c4 l4 b4 => ?_⟩
      have bo2 : BKo vs1 q2 qb := fun j hj hb => bo j hj (bor_wipe (b4 j hb).1).1
      have l5 : LaD L σ q2 H4 σ2 qb H4' := (lp.trans (LaD.of (Lat.same s3))).trans (LaD.of l4)
      have fin : ∀ {acc2 : List D} {qc : Fm} {H5 : Hp}, CI Z R0 L σ2 qc H5 acc2 → LaD L σ2 qb H4' σ2 qc H5 → BK qb qc → loopC1 vs vs1 (fun d q => evL K g1 (.val d) q) (evT K t1) (ev K e false) acc2 (l.drop (i + 1)) qc = .ok acc' qd →
          ∃ qi acc, CI Z R0 L (wipe σ vs1) (wipeF vs1 qi) H5 acc ∧ LaD L σ q2 H4 (wipe σ vs1) (wipeF vs1 qi) H5 ∧ BKo vs1 q2 qi ∧ loopC1 vs vs1 (fun d q => evL K g1 (.val d) q) (evT K t1) (ev K e false) acc (l.drop (i + 1)) qi = .ok acc' qd := fun {acc2 qc H5} c5 l6 b6 hl' => by
        refine ⟨qc, acc2, ?_, (l5.trans l6).trans (Lat.sub fun b y => Or.elim y (fun y => .inl (wipe_ow (by rw [hw]; exact y))) .inr), fun j hj hb => bo2 j hj (b6 j hb), hl'⟩
        have := c5.wipe vs1
        rw [hw] at this
        exact this
      rcases hl with ⟨rfl, hl⟩ | ⟨rfl, x2, qc, y2, e3, e4, e5, hl⟩
      · exact iteF (fin c4 (Lat.refl _ _) (BK.refl _) hl)
      · exact iteT (elt_ok c4 e5 ⟨x2, qc, y2, e3, e4, fun H5 c5 l6 b6 => fin c5 l6 b6 hl⟩)
    · rintro H2 ⟨qi, acc, c, lp, bo, hl⟩
      rw [List.drop_length] at hl
      rw [loopC1] at hl
      cases hl
      exact k H2 c ((LaD.of la).trans lp) fun i hi hb => bk i (bo i hi hb)
theorem tE_lc2 {g g1 : LV} {it it1 : I} {t t1 : T} {e : E} {pk : Bool} {Q : VK} (hns : ∀ i, i ∈ g.ns → i ∈ vs) (hns1 : ∀ i, i ∈ g1.ns → i ∈ vs1) (hvs : ∀ i, i ∈ vs1 → i ∈ vs) (h : tE Z K ex (.lc2 vs vs1 g it t g1 it1 t1 e) pk σ H Q) :
    tLc2 (tI Z K ex it) (tG Z K g) (tT Z K E0 t) (tI Z K E0 it1) (tG Z K g1) (tT Z K E0 t1) (tE Z K E0 e false) vs vs1 σ H Q := by
  unfold tE at h
  rw [show ev K (.lc2 vs vs1 g it t g1 it1 t1 e) pk = fun q => bindR (evI K it q) fun l q1 => if noOw vs q1 then
      match loopC2 vs (fun d q => evL K g (.val d) q) (evT K t) (fun acc q => bindR (evI K it1 q) fun l1 q2 => if noOw vs q2 then loopC1 vs vs1 (fun d q => evL K g1 (.val d) q) (evT K t1) (ev K e false) acc l1 q2 else .bad) [] l q1 with
      | .ok ds q2 => .ok (.new (.lst ds)) (backF vs q1 q2)
      | _ => .bad
    else .bad from rfl] at h
  generalize hin : (fun (acc : List D) (q : Fm) => bindR (evI K it1 q) fun l1 q2 => if noOw vs q2 then loopC1 vs vs1 (fun d q => evL K g1 (.val d) q) (evT K t1) (ev K e false) acc l1 q2 else .bad) = inner at h
  refine TR.bind h fun R0 q q1 l J H1 f0 la bk p z => ?_
  obtain ⟨f1, G, Y, wk, gG, gY⟩ := p
  intro L hL
  have hno : noOw vs q1 = true := by
    cases e : noOw vs q1 with
    | true => rfl
    | false => rw [e] at z; exact z.elim
  rw [if_pos hno] at z
  cases hr : loopC2 vs (fun d q => evL K g (.val d) q) (evT K t) inner [] l q1 with
  | bad => rw [hr] at z; exact z.elim
  | exc _ _ _ => rw [hr] at z; exact z.elim
  | ok dsr qr =>
    rw [hr] at z
    dsimp only at z
    have sm : Same H1 (upd H1 L (.lst [])) := same_upd hL
    have t0 : ∀ b, P1 R0 L b → (upd H1 L (.lst [])) b ≠ none := fun b y => by
      rcases y with y | y
      · exact (Lat.same (R := Ow σ q) sm).tr b (f1.trk b y)
      · rw [y, upd_same]; exact fun z => nomatch z
    have c0 : CI Z R0 L σ q1 (upd H1 L (.lst [])) [] := ⟨f1.on sm (fun b y => Or.elim y .inl fun e => .inr (e ▸ hL)) t0, [], upd_same, RepL.nil⟩
    have l0 : ∀ {q' : Fm} {H' : Hp}, LaD L (wipe σ vs) (wipeF vs q1) (upd H1 L (.lst [])) (wipe σ vs) (wipeF vs q') H' → Lat (Ow σ q1) H1 (Ow (wipe σ vs) (wipeF vs q')) H' := fun {q' H'} l2 => by
      refine ⟨fun b o hb n => l2.kp b o (sm b o hb) fun y => ?_, fun b y => ?_, fun b hb => l2.tr b ((Lat.same (R := Ow σ q) sm).tr b hb)⟩
      · rcases y with y | y
        · exact n (wipe_ow y)
        · rw [y, hL] at hb; cases hb
      · rcases l2.nw b (.inl y) with (y | y) | y
        · exact .inl (wipe_ow y)
        · exact .inr (y ▸ hL)
        · exact .inr (sm.free y)
    refine walk_by wk (B := fun x H' Nx => tG Z K g x (wipe σ vs) H' fun σ2 H2 => wipe σ2 vs = wipe σ vs ∧ tT Z K E0 t σ2 H2 fun b H3 =>
        if b = true then tI Z K E0 it1 σ2 H3 fun J1 H4 => ∃ W1 : Nat → Nat → Hp → Prop, (∃ m, W1 0 m H4) ∧ ∀ j k H, W1 j k H →
          (J1.stop j H ∧ Nx H) ∨ (J1.go j H ∧ ∃ Nx1 : Hp → Prop, (∀ H', Nx1 H' → ∃ k', k' < k ∧ W1 (j + 1) k' H') ∧ ∀ x H', J1.yld j H x H' → tG Z K g1 x (wipe σ2 vs1) H' fun σ3 H5 => wipe σ3 vs1 = wipe σ2 vs1 ∧ tT Z K E0 t1 σ3 H5 fun b H6 =>
            if b = true then tE Z K E0 e false σ3 H6 fun y H7 => ∃ acc, H7 L = some (.lst acc) ∧ acc.length < sizeLine ∧ Nx1 (upd H7 L (.lst (acc ++ [y]))) else Nx1 H6)
        else Nx H3)
      (fun i H' => ∃ qi acc, CI Z R0 L (wipe σ vs) (wipeF vs qi) H' acc ∧ LaD L (wipe σ vs) (wipeF vs q1) (upd H1 L (.lst [])) (wipe σ vs) (wipeF vs qi) H' ∧ BKo vs q1 qi ∧ loopC2 vs (fun d q => evL K g (.val d) q) (evT K t) inner acc (l.drop i) qi = .ok dsr qr) ?_ ?_ ?_ ?_
    · exact ⟨q1, [], c0.wipe vs, Lat.refl _ _, fun _ _ h => h, hr⟩
    · rintro i H' hi ⟨qi, acc, c, lp, _, _⟩
      refine gG (Rt R0 (wipe σ vs) (wipeF vs qi)) H' ((l0 lp).more)
    · rintro i x H2 H3 hi ⟨qi, acc, c, lp, bo, hl⟩ y
      obtain ⟨d, hd⟩ : ∃ d, l[i]? = some d := ⟨l[i], by simp [hi]⟩
      obtain ⟨s3, rx⟩ := gY i x (Rt (P1 R0 L) (wipe σ vs) (wipeF vs qi)) H2 H3 d hd ((Lat.more (S := R0) (l0 lp)).less fun b y => by
        rcases y with (y | y) | y
        · exact .inl (.inl y)
        · exact .inr (y ▸ hL)
        · exact .inl (.inr y)) (fun b hb => c.fr.rtT hb) y
      have c3 : CI Z R0 L (wipe σ vs) (wipeF vs qi) H3 acc := c.step (Lat.same s3) (c.fr.on s3 (fun _ y => .inl y) fun b y => (Lat.same (R := Ow σ q) s3).tr b (c.fr.trk b y))
      rw [drop_at hd] at hl
      obtain ⟨u, qa, b, qb, e1, e2, hl⟩ := loopC2_inv hl
      refine turn_ok wipe_idem c3 rx hns ⟨u, qa, b, qb, e1, e2, fun σ2 H4 hw len2 c4 l4 b4 => ?_⟩
      have bo2 : BKo vs q1 qb := fun j hj hb => bo j hj (bor_wipe (b4 j hb).1).1
      have l5 : LaD L (wipe σ vs) (wipeF vs q1) (upd H1 L (.lst [])) σ2 qb H4 := (lp.trans (LaD.of (Lat.same s3))).trans (LaD.of l4)
      rcases hl with ⟨rfl, hl⟩ | ⟨rfl, acc2, qc, e3, hl⟩
      · refine iteF ⟨qb, acc, ?_, l5.trans (Lat.sub fun b y => Or.elim y (fun y => .inl (wipe_ow (by rw [hw]; exact y))) .inr), bo2, hl⟩
        have := c4.wipe vs
        rw [hw] at this
        exact this
      · refine iteT (inner_ok (vs := vs) (e := e) (acc' := acc2) (qd := qc) c4 hns1 (by rw [← hin] at e3; exact e3) fun H5 c5 l6 b6 => ?_)
        have hw2 : wipe (wipe σ2 vs1) vs = wipe σ vs := (wipe_two hvs).trans hw
        have hq2 : wipeF vs (wipeF vs1 qc) = wipeF vs qc := wipeF_two hvs
        refine ⟨qc, acc2, ?_, (l5.trans l6).trans (Lat.sub fun b y => Or.elim y (fun y => .inl (wipe_ow (vs := vs) (by rw [hw2, hq2]; exact y))) .inr), fun j hj hb => ?_, hl⟩
        · have := c5.wipe vs
          rw [hw2, hq2] at this
          exact this
        · exact bo2 j hj (b6 j (fun z => hj (hvs j z)) hb)
    · rintro H2 ⟨qi, acc, c, lp, bo, hl⟩
      rw [List.drop_length] at hl
      rw [loopC2] at hl
      cases hl
      have lz := l0 lp
      obtain ⟨xs, h1, h2⟩ := c.li
      have lb : Lat (Rt R0 σ q1) H1 (Rt (P1 R0 L) (wipe σ vs) (wipeF vs qr)) H2 := (Lat.more (S := R0) lz).less fun b y => by
        rcases y with (y | y) | y
        · exact .inl (.inl y)
        · exact .inr (y ▸ hL)
        · exact .inl (.inr y)
      have fb := f1.back hno c.fr lb
      have ls : Lat (Ow (wipe σ vs) (wipeF vs qr)) H2 (Ow σ (backF vs q1 qr)) H2 := Lat.sub fun b y => back_ow hno y
      refine z (.ref L) H2 (la.trans (lz.trans ls)) (bk.trans fun i ⟨t, e1, e2⟩ => ?_) ⟨L, rfl, la.new hL, fb, _, xs, rfl, h1, h2.lat (Lat.more ls)⟩
      rcases back_slot hno e1 with ⟨_, e | ⟨e, e3⟩ | ⟨b, d, e, e3⟩⟩ | ⟨hi, e⟩
      · subst e; cases e2
      · subst e; exact ⟨_, e3, e2⟩
      · subst e; exact ⟨_, e3, e2⟩
      · exact bo i hi ⟨t, e, e2⟩
end
section
variable {W : Wo} {X : Cx} {ex : XK} {n : Nat} {pos p1 p2 : Pos} {a b c tg tg1 elt iter iter1 : Expr} {A B C : E} {x : Str}
theorem Gd.blk (g : Gd W n X ex) (s : Shared) (H : Hp) (scope : Scope) (cenv : Env) (fp : List Addr) : Gd W n (X.blk s H scope cenv fp) E0 := ⟨g.hP, g.hw, g.hK, g.hm, g.hb, g.calm1, g.nd, g.rm, g.hd1, passL, g.qu⟩
/-- a clause's tests -/
def MTs (W : Wo) (X : Cx) (ex : XK) (es : List Expr) (t : T) : Prop := PTs X es (tT W.Z W.K ex t)
theorem mts_nil : MTs W X ex [] .yes := ⟨fun pins s σ H Q I h => pts_nil.run pins s σ H Q I (tT_yes h)⟩
theorem mts_one {t : T} (h : MT W X ex a t) : MTs W X ex [a] t := pts_one h
theorem me_lc [Calm W] {ifs : List Expr} {scope : Scope} (own : List (Str × Nat)) {g : LV} {it : I} {t : T} (gd : Gd W n X ex) (hi : MI W X ex tg iter it)
    (hg : ∀ s H C cl fp, Gd W n (X.blk s H scope (compEnvC scope cl C X.env) fp) E0 → ML W (X.blk s H scope (compEnvC scope cl C X.env) fp) tg g)
    (ht : ∀ s H C cl fp, Gd W n (X.blk s H scope (compEnvC scope cl C X.env) fp) E0 → MTs W (X.blk s H scope (compEnvC scope cl C X.env) fp) E0 ifs t)
    (he : ∀ s H C cl fp, Gd W n (X.blk s H scope (compEnvC scope cl C X.env) fp) E0 → ME W (X.blk s H scope (compEnvC scope cl C X.env) fp) E0 elt A)
    (ok : blkC X.N X.env.scope scope own = true := by kernel_rfl) (hns : ∀ i, i ∈ g.ns → i ∈ own.map (·.2) := by decide +kernel) (hs : ∀ x, foldedSetIterable iter X.env x = pure x := by intro _; rfl) :
    ME W X ex (.ListComp elt [⟨tg, iter, ifs, 0⟩] scope pos) (.lc (own.map (·.2)) g it t A) := fun pk =>
  (pe_lc gd.calm gd.nd hi (blkOk_by ok) (fun s H C cl fp => hg s H C cl fp (gd.blk ..)) (fun s H C cl fp => ht s H C cl fp (gd.blk ..)) (fun s H C cl fp => he s H C cl fp (gd.blk ..) false) hs).imp fun _ _ _ h => tE_lc hns h
theorem me_lc2 [Calm W] {ifs ifs1 : List Expr} {scope : Scope} (own : List (Str × Nat)) (vs1 : List Nat) {g g1 : LV} {it it1 : I} {t t1 : T} (gd : Gd W n X ex) (hi : MI W X ex tg iter it)
    (hg : ∀ s H C cl fp, Gd W n (X.blk s H scope (compEnvC scope cl C X.env) fp) E0 → ML W (X.blk s H scope (compEnvC scope cl C X.env) fp) tg g)
    (ht : ∀ s H C cl fp, Gd W n (X.blk s H scope (compEnvC scope cl C X.env) fp) E0 → MTs W (X.blk s H scope (compEnvC scope cl C X.env) fp) E0 ifs t)
    (hi1 : ∀ s H C cl fp, Gd W n (X.blk s H scope (compEnvC scope cl C X.env) fp) E0 → MI W (X.blk s H scope (compEnvC scope cl C X.env) fp) E0 tg1 iter1 it1)
    (hg1 : ∀ s H C cl fp, Gd W n (X.blk s H scope (compEnvC scope cl C X.env) fp) E0 → ML W (X.blk s H scope (compEnvC scope cl C X.env) fp) tg1 g1)
    (ht1 : ∀ s H C cl fp, Gd W n (X.blk s H scope (compEnvC scope cl C X.env) fp) E0 → MTs W (X.blk s H scope (compEnvC scope cl C X.env) fp) E0 ifs1 t1)
    (he : ∀ s H C cl fp, Gd W n (X.blk s H scope (compEnvC scope cl C X.env) fp) E0 → ME W (X.blk s H scope (compEnvC scope cl C X.env) fp) E0 elt A)
    (ok : blkC X.N X.env.scope scope own = true := by kernel_rfl) (hns : ∀ i, i ∈ g.ns → i ∈ own.map (·.2) := by decide +kernel) (hns1 : ∀ i, i ∈ g1.ns → i ∈ vs1 := by decide +kernel) (hv : ∀ i, i ∈ vs1 → i ∈ own.map (·.2) := by decide +kernel)
    (hs : ∀ x, foldedSetIterable iter X.env x = pure x := by intro _; rfl) (hs1 : ∀ env x, foldedSetIterable iter1 env x = pure x := by intro _ _; rfl) :
    ME W X ex (.ListComp elt [⟨tg, iter, ifs, 0⟩, ⟨tg1, iter1, ifs1, 0⟩] scope pos) (.lc2 (own.map (·.2)) vs1 g it t g1 it1 t1 A) := fun pk =>
  (pe_lc2 gd.calm gd.nd hi (blkOk_by ok) hv (fun s H C cl fp => hg s H C cl fp (gd.blk ..)) (fun s H C cl fp => ht s H C cl fp (gd.blk ..)) (fun s H C cl fp => hi1 s H C cl fp (gd.blk ..)) (fun s H C cl fp => hg1 s H C cl fp (gd.blk ..)) (fun s H C cl fp => ht1 s H C cl fp (gd.blk ..)) (fun s H C cl fp => he s H C cl fp (gd.blk ..) false) hs hs1).imp fun _ _ _ h => tE_lc2 hns hns1 hv h
end
end M

set_option Elab.async false
set_option linter.all false
set_option maxRecDepth 100000
set_option maxHeartbeats 4000000
/-! A14: statements. -/
namespace M
open PySem L2 PyProof.Rows

def AnS (Z : Zc) (E : XK) (R0 : Pr) (σ : Sg) (q : Fm) (H : Hp) (D : Ends) : SRes → Prop
  | .nx q' => ∀ σ' H', Lat (Ow σ q) H (Ow σ' q') H' → BKs σ q σ' q' → FR Z R0 σ' q' H' → D.nx σ' H'
  | .brk q' => ∀ σ' H', Lat (Ow σ q) H (Ow σ' q') H' → BKs σ q σ' q' → FR Z R0 σ' q' H' → D.bk σ' H'
  | .cnt q' => ∀ σ' H', Lat (Ow σ q) H (Ow σ' q') H' → BKs σ q σ' q' → FR Z R0 σ' q' H' → D.ct σ' H'
  | .ret r q' => ∀ w σ' H', Lat (Ow σ q) H (Ow σ' q') H' → BKs σ q σ' q' → PoV Z R0 σ' H q' H' w r → D.rt w H'
  | .exc c ds q' => ∀ d σ' H', Lat (Ow σ q) H (Ow σ' q') H' → BKs σ q σ' q' → FR Z R0 σ' q' H' → XRep Z H' (Rt R0 σ' q') c ds d → E (.ref (Z.C c)) d H'
  | .bad => False
def tS (Z : Zc) (K : Calls) (ex : XK) (s : S) : TS := fun D σ H => ∃ R0 q, FR Z R0 σ q H ∧ AnS Z ex R0 σ q H D (evS K s q)
def tSs (Z : Zc) (K : Calls) (ex : XK) (s : Ss) : TS := fun D σ H => ∃ R0 q, FR Z R0 σ q H ∧ AnS Z ex R0 σ q H D (evSs K s q)
def MS (W : Wo) (X : Cx) (ex : XK) (st : Stmt) (s : S) : Prop := PS X st (tS W.Z W.K ex s)
def MSs (W : Wo) (X : Cx) (ex : XK) (st : List Stmt) (s : Ss) : Prop := PSs X st (tSs W.Z W.K ex s)
theorem _root_.L2.PS.imp {X : Cx} {st : Stmt} {t t' : TS} (h : PS X st t) (i : ∀ D s H, t' D s H → t D s H) : PS X st t' := ⟨fun pins s σ H D I q => h.run pins s σ H D I (i D σ H q)⟩
theorem _root_.L2.PSs.imp {X : Cx} {st : List Stmt} {t t' : TS} (h : PSs X st t) (i : ∀ D s H, t' D s H → t D s H) : PSs X st t' := ⟨fun pins s σ H D I q => h.run pins s σ H D I (i D σ H q)⟩
section
variable {Z : Zc} {K : Calls} {ex : XK} {R0 : Pr} {σ σ1 : Sg} {q q1 : Fm} {H H1 : Hp} {D D' : Ends}
theorem PoV.early' {σ' : Sg} {q' : Fm} {H' : Hp} {w : V} {r : RV} (l : ∀ b, H1 b = none → H b = none) (h : PoV Z R0 σ' H1 q' H' w r) : PoV Z R0 σ' H q' H' w r := by
  cases r with
  | val d => exact h
  | new d =>
    obtain ⟨a, e, hn, f, o⟩ := h
    exact ⟨a, e, l a hn, f, o⟩
  | slot i => exact h
/-- from a later start; other ends -/
theorem AnS.late (l : Lat (Ow σ q) H (Ow σ1 q1) H1) (b : BKs σ q σ1 q1) : ∀ {r : SRes}, AnS Z ex R0 σ q H D r → AnS Z ex R0 σ1 q1 H1 D r
  | .nx _, h => fun σ' H' l2 b2 f => h σ' H' (l.trans l2) (b.trans b2) f
  | .brk _, h => fun σ' H' l2 b2 f => h σ' H' (l.trans l2) (b.trans b2) f
  | .cnt _, h => fun σ' H' l2 b2 f => h σ' H' (l.trans l2) (b.trans b2) f
  | .ret _ _, h => fun w σ' H' l2 b2 p => h w σ' H' (l.trans l2) (b.trans b2) (p.early' fun b hb => l.new hb)
  | .exc _ _ _, h => fun d σ' H' l2 b2 f x => h d σ' H' (l.trans l2) (b.trans b2) f x
  | .bad, h => h
theorem AnS.bind {α W : Type} {f : Res α} {g : α → Fm → SRes} {Po : Fm → Hp → W → α → Prop} {Q : W → Hp → Prop} : ∀ {r : Res α}, AnS Z ex R0 σ q H D (ofR r g) →
    (∀ q1 w H1 a, r = .ok a q1 → Lat (Ow σ q) H (Ow σ q1) H1 → BK q q1 → Po q1 H1 w a → AnS Z ex R0 σ q H D (g a q1) → Q w H1) → An Z ex R0 σ q H Po Q r
  | .ok a q1, h, k => fun w H1 l b p => k q1 w H1 a rfl l b p h
  | .exc c ds q1, h, _ => fun d H' l b f x => h d σ H' l b.s f x
  | .bad, h, _ => h
theorem tS_expr {e : E} (h : tS Z K ex (.expr e) D σ H) : tDrop (tE Z K ex e false) D σ H := by
  obtain ⟨R0, q, f0, h⟩ := h
  refine ⟨R0, q, f0, AnS.bind (f := ev K e false q) (g := fun _ q1 => .nx q1) h fun q1 w H1 a _ l b p z => ?_⟩
  exact z σ H1 l b.s (p.down f0).1
theorem tS_ret {e : E} (h : tS Z K ex (.ret e) D σ H) : tRet (tE Z K ex e false) D σ H := by
  obtain ⟨R0, q, f0, h⟩ := h
  refine ⟨R0, q, f0, AnS.bind (f := ev K e false q) (g := fun r q1 => .ret r q1) h fun q1 w H1 a _ l b p z => ?_⟩
  exact z w σ H1 l b.s p
theorem tS_nev (h : tS Z K ex .nev D σ H) : tNever D σ H := by
  obtain ⟨R0, q, f0, h⟩ := h
  exact h
theorem pov_pre {q0 : Fm} {v : V} {r : RV} (f0 : FR Z R0 σ q0 H) (p : PoV Z R0 σ H q1 H1 v r) : PreG Z R0 σ q1 H1 v r := by
  cases r with
  | val d => exact p
  | new d =>
    obtain ⟨a, rfl, hn, f, o⟩ := p
    exact ⟨a, rfl, fun z => f0.trk a z hn, f, o⟩
  | slot i => exact p.1
theorem pov_ax {q0 : Fm} {v : V} {r : RV} (l : Lat (Ow σ q) H (Ow σ q1) H1) (p : PoV Z R0 σ H q1 H1 v r) : Lat (Ow σ q) H (fun b => Ow σ q1 b ∨ Ax r v b) H1 := l.less fun b z => by
  rcases z with z | z
  · exact .inl z
  · cases r with
    | val d => exact z.elim
    | slot d => exact z.elim
    | new d =>
      obtain ⟨a, rfl, hn, _⟩ := p
      have e : V.ref a = V.ref b := z
      cases e
      exact .inr hn
theorem tS_asg {l : LV} {e : E} (h : tS Z K ex (.asg l e) D σ H) : tAsg (tE Z K ex e false) (tG Z K l) D σ H := by
  obtain ⟨R0, q, f0, h⟩ := h
  refine ⟨R0, q, f0, AnS.bind (f := ev K e false q) (g := fun r q1 => match evL K l r q1 with
    | .ok _ q2 => .nx q2
    | _ => .bad) h fun q1 w H1 r _ la b p z => ?_⟩
  refine ⟨R0, q1, r, pov_pre f0 p, ?_⟩
  cases e1 : evL K l r q1 with
  | bad => rw [e1] at z; exact z.elim
  | exc _ _ _ => rw [e1] at z; exact z.elim
  | ok u q2 =>
    rw [e1] at z
    intro σ' H' l2 b2 _ _ f2
    exact z σ' H' ((pov_ax (q0 := q) la p).trans l2) (b.s.trans b2) f2
theorem tS_asgS {l : LV} {e : E} (h : tS Z K ex (.asgS l e) D σ H) : tAsg (tE Z K ex e false) (tG Z K l) D σ H := by
  obtain ⟨R0, q, f0, h⟩ := h
  refine ⟨R0, q, f0, AnS.bind (f := ev K e false q) (g := fun r q1 => match evL K l r.down q1 with
    | .ok _ q2 => .nx q2
    | _ => .bad) h fun q1 w H1 r _ la b p z => ?_⟩
  have p' : PoV Z R0 σ H q1 H1 w r.down := by
    cases r with
    | new d => exact p.down f0
    | val d => exact p
    | slot i => exact p
  have hax : ∀ b, Ax r.down w b → False := fun b h => by cases r <;> exact h
  refine ⟨R0, q1, r.down, pov_pre f0 p', ?_⟩
  cases e1 : evL K l r.down q1 with
  | bad => rw [e1] at z; exact z.elim
  | exc _ _ _ => rw [e1] at z; exact z.elim
  | ok u q2 =>
    rw [e1] at z
    intro σ' H' l2 b2 _ _ f2
    exact z σ' H' ((pov_ax (q0 := q) la p').trans l2) (b.s.trans b2) f2
theorem tS_retS {e : E} (h : tS Z K ex (.retS e) D σ H) : tRet (tE Z K ex e false) D σ H := by
  obtain ⟨R0, q, f0, h⟩ := h
  refine ⟨R0, q, f0, AnS.bind (f := ev K e false q) (g := fun r q1 => .ret r.down q1) h fun q1 w H1 r _ l b p z => ?_⟩
  refine z w σ H1 l b.s ?_
  cases r with
  | new d => exact p.down f0
  | val d => exact p
  | slot i => exact p
/-! several names at once -/
def RX (R : Pr) (r : RV) (w : V) : Pr := fun b => R b ∨ Ax r w b
def Hd (Z : Zc) (H : Hp) (R : Pr) (w : V) : RV → Prop
  | .val d => Rep Z H R w d
  | .new d => ∃ a, w = .ref a ∧ OwnAt Z H R a d
  | .slot _ => False
def RXs (R : Pr) : List V → List RV → Pr
  | w :: ws, r :: rs => fun b => RXs R ws rs b ∨ Ax r w b
  | _, _ => R
def HN (Z : Zc) (R0 : Pr) (σ : Sg) (q : Fm) (H : Hp) (R : Pr) : List V → List RV → Prop
  | [], [] => True
  | w :: ws, r :: rs => Hd Z H R w r ∧ (∀ b, Ax r w b → ¬ RXs R0 ws rs b) ∧ HN Z R0 σ q H R ws rs
  | _, _ => False
theorem RXs.base {R : Pr} {b : Addr} : ∀ {ws : List V} {rs : List RV}, R b → RXs R ws rs b
  | [], _, h => h
  | _ :: _, [], h => h
  | _ :: _, _ :: _, h => .inl (RXs.base h)
theorem pov_h {q' : Fm} {w : V} {r : RV} (f0 : FR Z R0 σ q H) (h : PoV Z R0 σ H q' H1 w r) (n : ∀ i, r ≠ .slot i) : FR Z (RX R0 r w) σ q' H1 ∧ Hd Z H1 (Rt (RX R0 r w) σ q') w r ∧ ∀ b, Ax r w b → H b = none := by
  cases r with
  | slot i => exact absurd rfl (n i)
  | val d => exact ⟨h.1.fewer fun b z => Or.elim z (fun z => z) fun z => z.elim, h.2.lat (Lat.sub fun b z => Or.elim z (fun z => Or.elim z .inl fun z => z.elim) .inr), fun b z => z.elim⟩
  | new d =>
    obtain ⟨a, rfl, hn, f, o⟩ := h
    have e : ∀ b, RX R0 (.new d) (.ref a) b → P1 R0 a b := fun b z => Or.elim z .inl fun z => by
      have z : V.ref a = V.ref b := z
      cases z
      exact .inr rfl
    refine ⟨f.fewer e, ⟨a, rfl, o.lat (Lat.sub fun b z => Or.elim z (fun z => .inl (e b z)) .inr) rfl⟩, fun b z => ?_⟩
    have z : V.ref a = V.ref b := z
    cases z
    exact hn
theorem Hd.pre {w : V} {r : RV} (f : FR Z (RX R0 r w) σ q H) (h : Hd Z H (Rt (RX R0 r w) σ q) w r) (n : ∀ b, Ax r w b → ¬ R0 b) : PreG Z R0 σ q H w r := by
  cases r with
  | slot i => exact h.elim
  | val d => exact ⟨f.fewer fun b z => .inl z, h.lat (Lat.sub fun b z => Or.elim z (fun z => .inl (.inl z)) .inr)⟩
  | new d =>
    obtain ⟨a, rfl, o⟩ := h
    have e : ∀ b, P1 R0 a b → RX R0 (.new d) (.ref a) b := fun b z => Or.elim z .inl fun z => .inr (by subst z; rfl)
    exact ⟨a, rfl, n a rfl, f.fewer e, o.lat (Lat.sub fun b z => Or.elim z (fun z => .inl (e b z)) .inr) rfl⟩
theorem Hd.lat {R R' : Pr} {w : V} {r : RV} (h : Hd Z H R w r) (l : Lat R H R' H1) (k : ∀ b o, Ax r w b → H b = some o → NT o → H1 b = some o) : Hd Z H1 R' w r := by
  cases r with
  | slot i => exact h
  | val d => exact Rep.lat l h
  | new d =>
    obtain ⟨a, rfl, ds, xs, e1, e2, e3⟩ := h
    exact ⟨a, rfl, ds, xs, e1, k a _ rfl e2 (fun _ z => nomatch z), e3.lat l⟩
theorem HN.lat {q' : Fm} {σ' : Sg} {R R' : Pr} (l : Lat R H R' H1) : ∀ {ws : List V} {rs : List RV}, HN Z R0 σ q H R ws rs → (∀ b o, RXs R0 ws rs b → H b = some o → NT o → H1 b = some o) → HN Z R0 σ' q' H1 R' ws rs
  | [], [], _, _ => True.intro
  | w :: ws, r :: rs, ⟨h1, h2, h3⟩, k => ⟨h1.lat l fun b o a => k b o (.inr a), h2, HN.lat l h3 fun b o a => k b o (.inl a)⟩
  | [], _ :: _, h, _ => h.elim
  | _ :: _, [], h, _ => h.elim
theorem set_held {i : Nat} {w : V} {r : RV} {q' : Fm} (f : FR Z (RX R0 r w) σ q H) (h : Hd Z H (Rt (RX R0 r w) σ q) w r) (n : ∀ b, Ax r w b → ¬ R0 b) (e : setName i r q = .ok () q') :
    FR Z R0 (σ.set i (some w)) q' H ∧ (∀ b, Ow (σ.set i (some w)) q' b → Ow σ q b ∨ Ax r w b) ∧ BKs σ q (σ.set i (some w)) q' := by
  have p := Hd.pre f h n
  unfold setName at e
  cases e1 : q[i]? with
  | none => rw [e1] at e; cases e
  | some t =>
    rw [e1] at e
    dsimp only at e
    cases hb : t.isBor with
    | true => rw [hb] at e; cases e
    | false =>
      rw [hb] at e
      have hi : i < q.length := (List.getElem?_eq_some_iff.mp e1).1
      cases r with
      | slot _ => cases e
      | val d =>
        cases e
        obtain ⟨f, rp⟩ := p
        exact ⟨f.setSh hi rp, fun b z => .inl (set_ow rfl z), bks_set e1 rfl⟩
      | new d =>
        cases e
        obtain ⟨a, rfl, n, f, o⟩ := p
        have hs : i < σ.length := by rw [f.len]; exact hi
        exact ⟨f.setOw n hi o, fun b z => Or.elim (setOw_ow hs z) .inl fun e => .inr (by rw [e]; exact rfl), bks_set e1 rfl⟩
def sets (l : List (Nat × V)) (σ : Sg) : Sg := l.foldl (fun s p => s.set p.1 (some p.2)) σ
/-- all held values are stored, the first one first -/
theorem sets_ok (ns : List Nat) : ∀ {ws : List V} {rs : List RV} {σ : Sg} {q q' : Fm}, FR Z (RXs R0 ws rs) σ q H → HN Z R0 σ q H (Rt (RXs R0 ws rs) σ q) ws rs → ns.length = rs.length → setNs (ns.zip rs) q = .nx q' →
    FR Z R0 (sets (ns.zip ws) σ) q' H ∧ (∀ b, Ow (sets (ns.zip ws) σ) q' b → Ow σ q b ∨ RXs (fun _ => False) ws rs b) ∧ BKs σ q (sets (ns.zip ws) σ) q' := by
  induction ns with
  | nil =>
    intro ws rs σ q q' f h hl e
    cases rs with
    | cons _ _ => cases hl
    | nil =>
      cases ws with
      | cons _ _ => exact h.elim
      | nil =>
        cases e
        exact ⟨f, fun b z => .inl z, BKs.refl _ _⟩
  | cons i ns ih =>
    intro ws rs σ q q' f h hl e
    cases rs with
    | nil => cases hl
    | cons r rs =>
      cases ws with
      | nil => exact h.elim
      | cons w ws =>
        obtain ⟨h1, h2, h3⟩ := h
        rw [List.zip_cons_cons, setNs] at e
        cases e1 : setName i r q with
        | bad => rw [e1] at e; cases e
        | exc _ _ _ => rw [e1] at e; cases e
        | ok u q1 =>
          rw [e1] at e
          dsimp only at e
          obtain ⟨f1, o1, b1⟩ := set_held (R0 := RXs R0 ws rs) f h1 h2 e1
          have l : Lat (Rt (RXs R0 (w :: ws) (r :: rs)) σ q) H (Rt (RXs R0 ws rs) (σ.set i (some w)) q1) H := Lat.sub fun b z => by
            rcases z with z | z
            · exact .inl (.inl z)
            · exact Or.elim (o1 b z) .inr fun z => .inl (.inr z)
          obtain ⟨f2, o2, b2⟩ := ih f1 (HN.lat l h3 fun b o _ h _ => h) (by simpa using hl) e
          refine ⟨f2, fun b z => ?_, b1.trans b2⟩
          rcases o2 b z with z | z
          · exact Or.elim (o1 b z) .inl fun z => .inr (.inr z)
          · exact .inr (.inl z)
theorem sets_bad {i : Nat} {l : List (Nat × RV)} {q' : Fm} {k : Nat} : ∀ {l1 : List (Nat × RV)} {q : Fm}, setNs (l1 ++ (i, .slot k) :: l) q ≠ .nx q'
  | [], q => by
    rw [List.nil_append, setNs]
    unfold setName
    cases q[i]? with
    | none => exact fun z => nomatch z
    | some s =>
      intro z
      cases hb : s.isBor <;> simp [hb] at z
  | (j, r) :: l1, q => by
    rw [List.cons_append, setNs]
    cases setName j r q with
    | ok u q1 => exact sets_bad
    | _ => exact fun z => nomatch z
theorem AnS.bindR {α W : Type} {f : Res α} {g : α → Fm → SRes} {R1 : Pr} {Po : Fm → Hp → W → α → Prop} {Q : W → Hp → Prop} (hR : ∀ b, R0 b → R1 b) : ∀ {r : Res α}, AnS Z ex R0 σ q H D (ofR r g) →
    (∀ q1 w H1 a, r = .ok a q1 → Lat (Ow σ q) H (Ow σ q1) H1 → BK q q1 → Po q1 H1 w a → AnS Z ex R0 σ q H D (g a q1) → Q w H1) → An Z ex R1 σ q H Po Q r
  | .ok a q1, h, k => fun w H1 l b p => k q1 w H1 a rfl l b p h
  | .exc c ds q1, h, _ => fun d H' l b f x => h d σ H' l b.s (f.fewer hR) (x.lat (Lat.sub fun b z => Or.elim z (fun z => .inl (hR b z)) .inr))
  | .bad, h, _ => h
/-- one more is held -/
theorem hold {ws : List V} {rs : List RV} {q2 : Fm} {H2 : Hp} {w : V} {r : RV} (f : FR Z (RXs R0 ws rs) σ q H) (h : HN Z R0 σ q H (Rt (RXs R0 ws rs) σ q) ws rs) (l : Lat (Ow σ q) H (Ow σ q2) H2) (p : PoV Z (RXs R0 ws rs) σ H q2 H2 w r) (n : ∀ i, r ≠ .slot i) :
    FR Z (RXs R0 (w :: ws) (r :: rs)) σ q2 H2 ∧ HN Z R0 σ q2 H2 (Rt (RXs R0 (w :: ws) (r :: rs)) σ q2) (w :: ws) (r :: rs) ∧ ∀ b, Ax r w b → H b = none := by
  obtain ⟨f2, h2, x2⟩ := pov_h f p n
  refine ⟨f2, ⟨h2, fun b z y => f.trk b y (x2 b z), ?_⟩, x2⟩
  refine HN.lat (l := (lat_rt (R0 := RXs R0 ws rs) l).less fun b z => ?_) h fun b o z e => l.kp b o e fun y => ?_
  · rcases z with z | z
    · exact Or.elim z (fun z => .inl (.inl z)) fun z => .inr (x2 b z)
    · exact .inl (.inr z)
  · obtain ⟨i, b', d, h1, h2⟩ := y
    obtain ⟨a, h3, h4, _⟩ := f.ow i b' d h1
    rw [h2] at h3; cases h3
    exact h4 z
theorem setNs_cases : ∀ (l : List (Nat × RV)) (q : Fm), (∃ q', setNs l q = .nx q') ∨ setNs l q = .bad
  | [], q => .inl ⟨q, rfl⟩
  | (i, r) :: l, q => by
    rw [setNs]
    cases setName i r q with
    | ok u q1 => exact setNs_cases l q1
    | _ => exact .inr rfl
theorem ans_sets {l : List (Nat × RV)} {q2 : Fm} (h : AnS Z ex R0 σ q H D (setNs l q2)) : ∃ q', setNs l q2 = .nx q' := by
  rcases setNs_cases l q2 with e | e
  · exact e
  · rw [e] at h; exact h.elim
theorem slot_or (r : RV) : (∃ k, r = .slot k) ∨ ∀ k, r ≠ .slot k := by cases r <;> first | exact .inl ⟨_, rfl⟩ | exact .inr fun k e => nomatch e
theorem tS_par2 {i j : Nat} {a b : E} (hij : i ≠ j) (h : tS Z K ex (.par2 i j a b) D σ H) : tPar i j (tCons (tE Z K ex a false) (tCons (tE Z K ex b false) tNil)) D σ H := by
  obtain ⟨R0, q, f0, h⟩ := h
  have h : AnS Z ex R0 σ q H D (ofR (ev K a false q) fun r1 q1 => ofR (ev K b false q1) fun r2 q2 => setNs [(j, r2), (i, r1)] q2) := h
  refine ⟨R0, q, f0, AnS.bind (f := ev K a false q) h fun q1 w1 H1 r1 _ l1 b1 p1 z1 => ?_⟩
  rcases slot_or r1 with ⟨k, rfl⟩ | n1
  · refine ⟨R0, q1, p1.1, AnS.bind (f := ev K b false q1) (AnS.late l1 b1.s z1) fun q2 w2 H2 r2 _ l2 b2 p2 z2 => ?_⟩
    obtain ⟨q', e⟩ := ans_sets z2
    exact absurd e (sets_bad (l1 := [(j, r2)]))
  · obtain ⟨f1, h1, x1⟩ := hold (ws := []) (rs := []) f0 True.intro l1 p1 n1
    refine ⟨_, q1, f1, AnS.bindR (f := ev K b false q1) (fun b z => RXs.base z) (AnS.late l1 b1.s z1) fun q2 w2 H2 r2 e2 l2 b2 p2 z2 => ?_⟩
    obtain ⟨q', e⟩ := ans_sets z2
    rcases slot_or r2 with ⟨k, rfl⟩ | n2
    · exact absurd e (sets_bad (l1 := []))
    · obtain ⟨f2, h2, x2⟩ := hold f1 h1 l2 p2 n2
      obtain ⟨f3, o3, b3⟩ := sets_ok [j, i] f2 h2 rfl e
      rw [e2] at z1
      have z1 : AnS Z ex R0 σ q H D (setNs [(j, r2), (i, r1)] q2) := z1
      rw [e] at z1
      refine ⟨w1, w2, rfl, ?_⟩
      rw [List.set_comm _ _ hij]
      refine z1 _ H2 ?_ ((b1.trans b2).s.trans b3) f3
      refine (l1.trans l2).less fun b z => ?_
      rcases o3 b z with z | z
      · exact .inl z
      · rcases z with z | z
        · exact z.elim (fun z => z.elim) fun z => .inr (x1 b z)
        · exact .inr (l1.new (x2 b z))
theorem tS_ift {t : T} {a b : Ss} (h : tS Z K ex (.ift t a b) D σ H) : tIfS (tT Z K ex t) (tSs Z K ex a) (tSs Z K ex b) D σ H := by
  obtain ⟨R0, q, f0, h⟩ := h
  refine ⟨R0, q, f0, AnS.bind (f := evT K t q) (g := fun c q1 => if c then evSs K a q1 else evSs K b q1) h fun q1 w H1 c _ l bk p z => ?_⟩
  obtain ⟨f1, rfl⟩ := p
  cases w with
  | true => exact iteT ⟨R0, q1, f1, AnS.late l bk.s z⟩
  | false => exact iteF ⟨R0, q1, f1, AnS.late l bk.s z⟩
theorem tSs_nil (h : tSs Z K ex .nil D σ H) : tNext D σ H := by
  obtain ⟨R0, q, f0, h⟩ := h
  exact h σ H (Lat.refl _ _) (BKs.refl _ _) f0
theorem tSs_cons {s : S} {r : Ss} (h : tSs Z K ex (.cons s r) D σ H) : tSeq (tS Z K ex s) (tSs Z K ex r) D σ H := by
  obtain ⟨R0, q, f0, h⟩ := h
  refine ⟨R0, q, f0, ?_⟩
  rw [show evSs K (.cons s r) q = (match evS K s q with
    | .nx q1 => evSs K r q1
    | x => x) from rfl] at h
  cases e : evS K s q with
  | nx q1 =>
    rw [e] at h
    intro σ' H' l b f
    exact ⟨R0, q1, f, AnS.late l b h⟩
  | _ => rw [e] at h; exact h
theorem FR.less {q' : Fm} (f : FR Z R0 σ q H) (hl : q'.length = q.length) (ho : ∀ (i : Nat) (b : Bool) (d : M.D), q'[i]? = some (.ow b d) → q[i]? = some (.ow b d)) (hs : ∀ (i : Nat) (b : Bool) (d : M.D), q'[i]? = some (.sh b d) → q[i]? = some (.sh b d) ∨ q[i]? = some (.ow b d)) :
    FR Z R0 σ q' H ∧ ∀ b, Ow σ q' b → Ow σ q b := by
  have ow : ∀ b, Ow σ q' b → Ow σ q b := fun b ⟨i, b', d, h1, h2⟩ => ⟨i, b', d, ho i b' d h1, h2⟩
  have lt : Lat (Rt R0 σ q) H (Rt R0 σ q') H := Lat.sub fun b z => Or.elim z .inl fun z => .inr (ow b z)
  refine ⟨⟨f.len.trans hl.symm, f.tb, f.trk, fun i b d e => ?_, fun i b d e => ?_, fun i j b b' d d' a e e' h1 h2 => f.sep i j b b' d d' a (ho _ _ _ e) (ho _ _ _ e') h1 h2⟩, ow⟩
  · rcases hs i b d e with e' | e'
    · obtain ⟨v, h1, h2⟩ := f.sh i b d e'
      exact ⟨v, h1, h2.lat lt⟩
    · obtain ⟨a, h1, h2, ds, xs, h3, h4, h5⟩ := f.ow i b d e'
      subst h3
      refine ⟨.ref a, h1, .lst (.inl ⟨.inl h4, fun z => ?_⟩) (h5.lat lt)⟩
      rcases z with z | ⟨j, b2, d2, z1, z2⟩
      · exact h2 z
      · have := f.sep i j b b2 _ d2 a e' (ho _ _ _ z1) h1 z2
        subst this
        rw [e] at z1; cases z1
  · obtain ⟨a, h1, h2, h3⟩ := f.ow i b d (ho i b d e)
    exact ⟨a, h1, h2, h3.lat lt rfl⟩
theorem FR.kil1 {i : Nat} (f : FR Z R0 σ q H) : FR Z R0 σ (q.set i .no) H ∧ (∀ b, Ow σ (q.set i .no) b → Ow σ q b) ∧ BKs σ q σ (q.set i .no) := by
  have key : ∀ {j : Nat} {s : Slot}, (q.set i .no)[j]? = some s → s ≠ .no → q[j]? = some s := fun {j s} e n => by
    by_cases hj : i = j
    · subst hj
      by_cases hl : i < q.length
      · rw [List.getElem?_set_self hl] at e; cases e; exact absurd rfl n
      · rw [List.getElem?_eq_none (by simpa using hl)] at e; cases e
    · rw [List.getElem?_set_ne hj] at e; exact e
  obtain ⟨f1, o1⟩ := f.less (q' := q.set i .no) List.length_set (fun j b d e => key e (fun z => nomatch z)) (fun j b d e => .inl (key e (fun z => nomatch z)))
  exact ⟨f1, o1, fun j ⟨s, h1, h2⟩ => ⟨⟨s, key h1 (fun z => by subst z; cases h2), h2⟩, rfl⟩⟩
theorem FR.kil : ∀ {is : List Nat}, FR Z R0 σ q H → FR Z R0 σ (wipeF is q) H ∧ (∀ b, Ow σ (wipeF is q) b → Ow σ q b) ∧ BKs σ q σ (wipeF is q)
  | [], f => ⟨f, fun _ z => z, BKs.refl _ _⟩
  | i :: is, f => by
    obtain ⟨f1, o1, b1⟩ := FR.kil (is := is) f
    obtain ⟨f2, o2, b2⟩ := FR.kil1 (i := i) f1
    exact ⟨f2, fun b z => o1 b (o2 b z), b1.trans b2⟩
theorem FR.shr1 {i : Nat} (f : FR Z R0 σ q H) : FR Z R0 σ (M.shr1 i q) H ∧ (∀ b, Ow σ (M.shr1 i q) b → Ow σ q b) ∧ BKs σ q σ (M.shr1 i q) := by
  unfold M.shr1
  cases e1 : q[i]? with
  | none => exact ⟨f, fun _ z => z, BKs.refl _ _⟩
  | some s =>
    cases s with
    | ow b d =>
      dsimp only
      have hl : i < q.length := (List.getElem?_eq_some_iff.mp e1).1
      have key : ∀ {j : Nat} {s : Slot}, (q.set i (.sh b d))[j]? = some s → (j = i ∧ s = .sh b d) ∨ q[j]? = some s := fun {j s} e => by
        by_cases hj : i = j
        · subst hj
          rw [List.getElem?_set_self hl] at e; cases e
          exact .inl ⟨rfl, rfl⟩
        · rw [List.getElem?_set_ne hj] at e; exact .inr e
      obtain ⟨f1, o1⟩ := f.less (q' := q.set i (.sh b d)) List.length_set (fun j b' d' e => Or.elim (key e) (fun z => nomatch z.2) fun z => z) (fun j b' d' e => Or.elim (key e) (fun z => by obtain ⟨rfl, z⟩ := z; cases z; exact .inr e1) .inl)
      refine ⟨f1, o1, fun j ⟨s, h1, h2⟩ => ⟨?_, rfl⟩⟩
      rcases key h1 with ⟨rfl, rfl⟩ | z
      · exact ⟨_, e1, h2⟩
      · exact ⟨s, z, h2⟩
    | _ => exact ⟨f, fun _ z => z, BKs.refl _ _⟩
theorem FR.shr : ∀ {is : List Nat}, FR Z R0 σ q H → FR Z R0 σ (shrF is q) H ∧ (∀ b, Ow σ (shrF is q) b → Ow σ q b) ∧ BKs σ q σ (shrF is q)
  | [], f => ⟨f, fun _ z => z, BKs.refl _ _⟩
  | i :: is, f => by
    obtain ⟨f1, o1, b1⟩ := FR.shr (is := is) f
    obtain ⟨f2, o2, b2⟩ := FR.shr1 (i := i) f1
    exact ⟨f2, fun b z => o1 b (o2 b z), b1.trans b2⟩
theorem tSs_kil {is : List Nat} {r : Ss} (h : tSs Z K ex (.cons (.kil is) r) D σ H) : tSs Z K ex r D σ H := by
  obtain ⟨R0, q, f0, h⟩ := h
  obtain ⟨f1, o1, b1⟩ := f0.kil (is := is)
  exact ⟨R0, wipeF is q, f1, AnS.late (Lat.sub o1) b1 h⟩
theorem tSs_shr {is : List Nat} {r : Ss} (h : tSs Z K ex (.cons (.shr is) r) D σ H) : tSs Z K ex r D σ H := by
  obtain ⟨R0, q, f0, h⟩ := h
  obtain ⟨f1, o1, b1⟩ := f0.shr (is := is)
  exact ⟨R0, shrF is q, f1, AnS.late (Lat.sub o1) b1 h⟩
theorem tS_for {l : LV} {it : I} {b : Ss} (h : tS Z K ex (.for l it b) D σ H) : tFor (tI Z K ex it) (tG Z K l) (tSs Z K ex b) D σ H := by
  obtain ⟨R0, q, f0, h⟩ := h
  refine ⟨R0, q, f0, AnS.bind (f := evI K it q) (g := fun ds q1 => loopF (fun d q => evL K l (.val d) q) (evSs K b) ds q1) h fun q1 J H1 ds _ la bk p z => ?_⟩
  obtain ⟨f1, G, Y, wk, gG, gY⟩ := p
  refine for_it wk (fun i σi Hi => ∃ qi, FR Z R0 σi qi Hi ∧ Lat (Ow σ q1) H1 (Ow σi qi) Hi ∧ BKs σ q1 σi qi ∧ AnS Z ex R0 σ q H D (loopF (fun d q => evL K l (.val d) q) (evSs K b) (ds.drop i) qi)) ?_ ?_ ?_ ?_
  · exact ⟨q1, f1, Lat.refl _ _, BKs.refl _ _, z⟩
  · rintro i σi Hi hi ⟨qi, fi, li, _, _⟩
    exact gG _ Hi li.more
  · rintro i x σi Hi H2 hi ⟨qi, fi, li, bi, z⟩ y
    obtain ⟨d, hd⟩ : ∃ d, ds[i]? = some d := ⟨ds[i], by simp [hi]⟩
    obtain ⟨sm, rx⟩ := gY i x (Rt R0 σi qi) Hi H2 d hd li.more (fun b hb => fi.rtT hb) y
    rw [drop_at hd, loopF] at z
    have f2 : FR Z R0 σi qi H2 := fi.on sm (fun _ y => .inl y) fun b y => (Lat.same (R := Ow σ q) sm).tr b (fi.trk b y)
    refine ⟨R0, qi, .val d, ⟨f2, rx⟩, ?_⟩
    cases e1 : evL K l (.val d) qi with
    | bad => rw [e1] at z; exact z.elim
    | exc _ _ _ => rw [e1] at z; exact z.elim
    | ok u q3 =>
      rw [e1] at z
      dsimp only at z
      intro σ3 H3 l3 b3 _ _ f3
      have l3' : Lat (Ow σi qi) H2 (Ow σ3 q3) H3 := ⟨fun b o hb n => l3.kp b o hb fun y => Or.elim y n fun y => y.elim, fun b y => Or.elim (l3.nw b y) (fun y => Or.elim y .inl fun y => y.elim) .inr, l3.tr⟩
      have l03 : Lat (Ow σ q1) H1 (Ow σ3 q3) H3 := (li.trans (Lat.same sm)).trans l3'
      have b03 : BKs σ q1 σ3 q3 := bi.trans b3
      refine ⟨R0, q3, f3, ?_⟩
      cases e2 : evSs K b q3 with
      | bad => rw [e2] at z; exact z.elim
      | nx q4 =>
        rw [e2] at z
        intro σ' H' l' b' f'
        exact ⟨q4, f', l03.trans l', b03.trans b', z⟩
      | cnt q4 =>
        rw [e2] at z
        intro σ' H' l' b' f'
        exact ⟨q4, f', l03.trans l', b03.trans b', z⟩
      | brk q4 =>
        rw [e2] at z
        intro σ' H' l' b' f'
        exact z σ' H' (la.trans (l03.trans l')) (bk.s.trans (b03.trans b')) f'
      | ret r q4 =>
        rw [e2] at z
        intro w σ' H' l' b' p'
        exact z w σ' H' (la.trans (l03.trans l')) (bk.s.trans (b03.trans b')) (p'.early' fun b hb => (la.trans l03).new hb)
      | exc c es q4 =>
        rw [e2] at z
        intro d σ' H' l' b' f' x
        exact z d σ' H' (la.trans (l03.trans l')) (bk.s.trans (b03.trans b')) f' x
  · rintro σi Hi ⟨qi, fi, li, bi, z⟩
    rw [List.drop_length, loopF] at z
    exact z σi Hi (la.trans li) (bk.s.trans bi) fi
end
section
variable {W : Wo} {X : Cx} {ex : XK} {n : Nat} {pos p1 p2 p3 p4 : Pos} {a b c e tg iter : Expr} {A B : E} {x : Str} {sa sb : List Stmt} {ta tb : Ss} {st : Stmt} {s : S}
theorem mss_nil : MSs W X ex [] .nil := pss_nil.imp fun _ _ _ h => tSs_nil h
theorem mss_cons (h1 : MS W X ex st s) (h2 : MSs W X ex sb tb) : MSs W X ex (st :: sb) (.cons s tb) := (pss_cons h1 h2).imp fun _ _ _ h => tSs_cons h
theorem ms_expr (h : ME W X ex a A) (hs : swapsWith a none pos.line X.env = pure false := by rfl) : MS W X ex (.Expr a pos) (.expr A) := (ps_expr (h false) hs).imp fun _ _ _ h => tS_expr h
theorem ms_ret (h : ME W X ex a A) : MS W X ex (.Return (some a) pos) (.ret A) := (ps_ret (h false)).imp fun _ _ _ h => tS_ret h
theorem mss_kil {is : List Nat} (h : MSs W X ex sb tb) : MSs W X ex sb (.cons (.kil is) tb) := h.imp fun _ _ _ h => tSs_kil h
theorem mss_shr {is : List Nat} (h : MSs W X ex sb tb) : MSs W X ex sb (.cons (.shr is) tb) := h.imp fun _ _ _ h => tSs_shr h
theorem ms_retS (h : ME W X ex a A) : MS W X ex (.Return (some a) pos) (.retS A) := (ps_ret (h false)).imp fun _ _ _ h => tS_retS h
theorem ms_nev : MS W X ex st .nev := ps_never.imp fun _ _ _ h => tS_nev h
theorem ms_ift {t : T} (hc : MT W X ex c t) (ha : MSs W X ex sa ta) (hb : MSs W X ex sb tb) : MS W X ex (.If c sa sb pos) (.ift t ta tb) := (ps_if hc ha hb).imp fun _ _ _ h => tS_ift h
theorem ms_asg {l : LV} (he : ME W X ex e A) (hg : ML W X tg l) (hs : swapsWithSole [tg] e pos.line X.env = pure false := by rfl) (hw : swappedStores [tg] e X.env = pure none := by rfl) (h1 : (assignEach [tg] X.env).map (·.2) = [assign tg X.env] := by rfl) :
    MS W X ex (.Assign [tg] e pos) (.asg l A) := (ps_asg (he false) hg hs hw h1).imp fun _ _ _ h => tS_asg h
theorem ms_asgS {l : LV} (he : ME W X ex e A) (hg : ML W X tg l) (hs : swapsWithSole [tg] e pos.line X.env = pure false := by rfl) (hw : swappedStores [tg] e X.env = pure none := by rfl) (h1 : (assignEach [tg] X.env).map (·.2) = [assign tg X.env] := by rfl) :
    MS W X ex (.Assign [tg] e pos) (.asgS l A) := (ps_asg (he false) hg hs hw h1).imp fun _ _ _ h => tS_asgS h
theorem ms_par2 [Calm W] {i j kt k2 : Nat} {y : Str} (g : Gd W n X ex) (ha : ME W X ex a A) (hb : ME W X ex b B) (hi : X.N[i]? = some x := by rfl) (hj : X.N[j]? = some y := by rfl) (hij : i ≠ j := by decide) (hx : X.env.scope.names.lookup x = some .local := by rfl) (hy : X.env.scope.names.lookup y = some .local := by rfl)
    (hs : starEach [a, b] X.env = (false, eval a X.env) :: starEach [b] X.env := by rfl) (hs2 : starEach [b] X.env = (false, eval b X.env) :: starEach [] X.env := by rfl)
    (hw : swappedStores [.Tuple [.Name x p1, .Name y p2] kt p3] (.Tuple [a, b] k2 p4) X.env = pure (some [x, y]) := by rfl) (hsw : swapsWithSole [.Tuple [.Name x p1, .Name y p2] kt p3] (.Tuple [a, b] k2 p4) pos.line X.env = pure false := by rfl) :
    MS W X ex (.Assign [.Tuple [.Name x p1, .Name y p2] kt p3] (.Tuple [a, b] k2 p4) pos) (.par2 i j A B) :=
  (ps_par g.calm g.nd hi hj hij hx hy (pa_cons (ha false) (pa_cons (hb false) pa_nil hs2) hs) hw hsw).imp fun _ _ _ h => tS_par2 hij h
theorem ms_for [Calm W] {l : LV} {it : I} (g : Gd W n X ex) (hp : PassesOwn (model X.prog X.w) X.A X.env X.xe) (hi : MI W X ex tg iter it) (hg : ML W X tg l) (hb : MSs W X ex sb tb) (hs : ∀ x, foldedSetIterable iter X.env x = pure x := by intro _; rfl) : MS W X ex (.For tg iter sb [] pos) (.for l it tb) :=
  (ps_for hp g.calm hi hg hb hs).imp fun _ _ _ h => tS_for h
end
end M

set_option Elab.async false
set_option linter.all false
set_option maxRecDepth 100000
set_option maxHeartbeats 4000000
/-! G3: lists that grow and shrink, x op= e, while; texts, repr, in; calls with names, methods. -/
namespace M
open PySem L2 PyProof.Rows SlX
section
variable {Z : Zc} {K : Calls} {ex : XK} {σ : Sg} {H : Hp} {D : Ends}
/-- an owned list to which a method is applied -/
theorem own_recv {i : Nat} {e : E} {g : M.D → Fm → Res RV} {Q : VK} {T : V → List V → Hp → VK → Prop} (h : TR Z ex (fun q => if isOwn q[i]? then bindR (ev K e false q) fun r q1 => match r.vd with
      | some d => g d q1
      | none => .bad
      else .bad) (PoV Z) σ H Q)
    (k : ∀ (R0 : Pr) (q q1 : Fm) (d : M.D) (w : V) (H1 : Hp) (a : Addr), FR Z R0 σ q1 H1 → σ[i]? = some (some (.ref a)) → Rep Z H1 (Rt R0 σ q1) w d → An Z ex R0 σ q1 H1 (PoV Z R0 σ H1) Q (g d q1) → T (.ref a) [w] H1 Q) :
    tBM Z.K "list" T (tVar i) (tCons (tE Z K ex e false) tNil) σ H Q := by
  obtain ⟨R0, q, f0, h⟩ := h
  dsimp only at h
  cases hq : q[i]? with
  | none => rw [hq] at h; exact h.elim
  | some t =>
    cases t with
    | no => rw [hq] at h; exact h.elim
    | pin => rw [hq] at h; exact h.elim
    | sh _ _ => rw [hq] at h; exact h.elim
    | ow b d0 =>
      rw [if_pos (by rw [hq]; rfl)] at h
      obtain ⟨a, ha, _, ds, xs, _, hx, _⟩ := f0.ow i b d0 hq
      refine ⟨.ref a, ha, .inl ⟨rfl, xs, SqL.of hx⟩, R0, q, f0, h.bind fun q1 w H1 r _ l bk p z => ?_⟩
      cases e1 : r.vd with
      | none => rw [e1] at z; exact z.elim
      | some d =>
        rw [e1] at z
        obtain ⟨f1, rw1⟩ := p.vd f0 e1
        exact k R0 q q1 d w H1 a f1 ha rw1 (lateV' l bk z)
theorem popIx_ok {n j : Nat} {z : Int} (h : popIx n z = some j) : -(2 ^ 63) ≤ z ∧ z < 2 ^ 63 ∧ seqIndex? z n = some j := by
  unfold popIx at h
  by_cases hn : n ≤ 1000000
  · rw [if_pos hn] at h
    obtain ⟨h1, h2, h3, h4⟩ := ixN_seq h
    refine ⟨?_, ?_, h1⟩ <;> omega
  · rw [if_neg hn] at h; cases h
theorem tE_app {i : Nat} {e : E} {pk : Bool} {Q : VK} (h : tE Z K ex (.app i e) pk σ H Q) : tBM Z.K "list" rAppend (tVar i) (tCons (tE Z K ex e false) tNil) σ H Q := by
  refine own_recv (g := fun d q1 => appR i d q1) h fun R0 q q1 d w H1 a f ha rw1 z => ?_
  unfold appR at z
  cases hq : q1[i]? with
  | none => rw [hq] at z; exact z.elim
  | some t =>
    cases t with
    | no => rw [hq] at z; exact z.elim
    | pin => rw [hq] at z; exact z.elim
    | sh _ _ => rw [hq] at z; exact z.elim
    | ow b d0 =>
      obtain ⟨a', ha', _, ds, xs, rfl, hx, hr⟩ := f.ow i b d0 hq
      rw [ha] at ha'; cases ha'
      rw [hq] at z
      dsimp only at z
      by_cases hl : ds.length < sizeLine
      · rw [if_pos hl] at z
        obtain ⟨f3, l3, b3⟩ := f.put hq ha (hr.append (.cons rw1 .nil))
        exact ⟨a, xs, w, rfl, rfl, hx, by rw [hr.length]; exact hl, z .non _ l3 b3 ⟨f3, .non⟩⟩
      · rw [if_neg hl] at z; exact z.elim
theorem RepL.erase {R : Pr} : ∀ {ds : List M.D} {vs : List V} (n : Nat), RepL Z H R vs ds → RepL Z H R (vs.eraseIdx n) (ds.eraseIdx n)
  | [], _, _, h => by cases h; exact .nil
  | d :: ds, _, 0, h => by
    cases h with
    | cons a b => exact b
  | d :: ds, _, n + 1, h => by
    cases h with
    | cons a b => exact .cons a (RepL.erase n b)
theorem tE_pop {i : Nat} {e : E} {pk : Bool} {Q : VK} (h : tE Z K ex (.pop i e) pk σ H Q) : tBM Z.K "list" rPopAt (tVar i) (tCons (tE Z K ex e false) tNil) σ H Q := by
  refine own_recv (g := fun d q1 => popR i d q1) h fun R0 q q1 d w H1 a f ha rw1 z => ?_
  unfold popR at z
  cases hq : q1[i]? with
  | none => rw [hq] at z; cases d <;> exact z.elim
  | some t =>
    cases t with
    | no => rw [hq] at z; cases d <;> exact z.elim
    | pin => rw [hq] at z; cases d <;> exact z.elim
    | sh _ _ => rw [hq] at z; cases d <;> exact z.elim
    | ow b d0 =>
      obtain ⟨a', ha', _, ds, xs, rfl, hx, hr⟩ := f.ow i b d0 hq
      rw [ha] at ha'; cases ha'
      rw [hq] at z
      cases d with
      | int k =>
        dsimp only at z
        cases hk : popIx ds.length k with
        | none => rw [hk] at z; exact z.elim
        | some j =>
          rw [hk] at z
          dsimp only at z
          cases hj : ds[j]? with
          | none => rw [hj] at z; exact z.elim
          | some dj =>
            rw [hj] at z
            obtain ⟨v, hv, rv⟩ := hr.get hj
            cases rw1
            obtain ⟨h1, h2, h3⟩ := popIx_ok hk
            obtain ⟨f3, l3, b3⟩ := f.put hq ha (hr.erase j)
            exact ⟨a, xs, k, j, v, rfl, rfl, hx, h1, h2, by rw [hr.length]; exact h3, hv, z v _ l3 b3 ⟨f3, rv.lat (lat_rt l3)⟩⟩
      | _ => exact z.elim
end
section
variable {W : Wo} {X : Cx} {ex : XK} {n : Nat} {pos p1 p2 p3 p4 apos : Pos} {a b c : Expr} {A B C : E} {x : Str}
theorem me_grow {name : Str} {id : String} {T : V → List V → Hp → VK → Prop} {t : E} (i : Nat) (hN : X.N[i]? = some x) (hv : Vis X.env.scope x) (hd : (x == ("__debug__" : Str)) = false) (hcd : (x == ("__classdict__" : Str)) = false) (slot : PySem.Slot "list" name id) (ty : typeOf (.builtin id) = pure (.type "method_descriptor")) (hm : MtR X id T)
    (ht : ∀ pk s H Q, tE W.Z W.K ex t pk s H Q → tBM X.K "list" T (tVar i) (tCons (tE W.Z W.K ex A false) tNil) s H Q) (ha : ME W X ex a A) (hbase : attributeBase (.Name x p1) name X.env (eval (.Name x p1) X.env) = eval (.Name x p1) X.env) (hline : (apos.endLine == pos.line) = true)
    (hs : starEach [a] X.env = (false, eval a X.env) :: starEach [] X.env) (hfew : ((backTo pos (starEach [a] X.env)).all (fun x => !x.1) && (backToKw pos (keywordEach [] X.env)).all (fun x => x.1.isSome) && decide (([a] : List Expr).length + ([] : List Keyword).length + (if ([] : List Keyword).isEmpty then 0 else 1) < 30)) = true) : ME W X ex (.Call (.Attribute (.Name x p1) name apos) [a] [] pos) t := fun pk =>
  (pe_bm PySem.F.plainAttrs_list slot ty hm (pe_var hN hv hd hcd) (pa_cons (ha false) pa_nil hs) (hbase := hbase) (hline := hline) (hs := hs) (hfew := hfew)).imp fun s H Q h => ht pk s H Q h
theorem me_app (g : Gd W n X ex) (i : Nat) (ha : ME W X ex a A) (hN : X.N[i]? = some x := by rfl) (hv : Vis X.env.scope x := by first | exact Or.inl rfl | exact Or.inr (Or.inl rfl) | exact Or.inr (Or.inr rfl)) (hd : (x == ("__debug__" : Str)) = false := by decide) (hcd : (x == ("__classdict__" : Str)) = false := by decide)
    (hbase : attributeBase (.Name x p1) "append" X.env (eval (.Name x p1) X.env) = eval (.Name x p1) X.env := by rfl) (hline : (apos.endLine == pos.line) = true := by rfl) (hs : starEach [a] X.env = (false, eval a X.env) :: starEach [] X.env := by rfl)
    (hfew : ((backTo pos (starEach [a] X.env)).all (fun x => !x.1) && (backToKw pos (keywordEach [] X.env)).all (fun x => x.1.isSome) && decide (([a] : List Expr).length + ([] : List Keyword).length + (if ([] : List Keyword).isEmpty then 0 else 1) < 30)) = true := by rfl) : ME W X ex (.Call (.Attribute (.Name x p1) "append" apos) [a] [] pos) (.app i A) :=
  me_grow i hN hv hd hcd PySem.F.slot_list_append PySem.F.type_list_append mt_append (fun pk s H Q h => by rw [g.hK]; exact tE_app h) ha hbase hline hs hfew
theorem me_pop (g : Gd W n X ex) (i : Nat) (ha : ME W X ex a A) (hN : X.N[i]? = some x := by rfl) (hv : Vis X.env.scope x := by first | exact Or.inl rfl | exact Or.inr (Or.inl rfl) | exact Or.inr (Or.inr rfl)) (hd : (x == ("__debug__" : Str)) = false := by decide) (hcd : (x == ("__classdict__" : Str)) = false := by decide)
    (hbase : attributeBase (.Name x p1) "pop" X.env (eval (.Name x p1) X.env) = eval (.Name x p1) X.env := by rfl) (hline : (apos.endLine == pos.line) = true := by rfl) (hs : starEach [a] X.env = (false, eval a X.env) :: starEach [] X.env := by rfl)
    (hfew : ((backTo pos (starEach [a] X.env)).all (fun x => !x.1) && (backToKw pos (keywordEach [] X.env)).all (fun x => x.1.isSome) && decide (([a] : List Expr).length + ([] : List Keyword).length + (if ([] : List Keyword).isEmpty then 0 else 1) < 30)) = true := by rfl) : ME W X ex (.Call (.Attribute (.Name x p1) "pop" apos) [a] [] pos) (.pop i A) :=
  me_grow i hN hv hd hcd PySem.F.slot_list_pop PySem.F.type_list_pop mt_popAt (fun pk s H Q h => by rw [g.hK]; exact tE_pop h) ha hbase hline hs hfew
end
/-! ### x op= e, while -/
section
variable {Z : Zc} {K : Calls} {ex : XK} {σ : Sg} {H : Hp} {D : Ends}
end
section
variable {W : Wo} {X : Cx} {ex : XK} {n : Nat} {pos p1 p2 p3 p4 apos : Pos} {a b c e : Expr} {A B C : E} {x : Str} {sb : List Stmt} {tb : Ss}
end
/-! ### x, y = a, b by way of a tuple (names that inner scopes read) -/
section
variable {Z : Zc} {K : Calls} {ex : XK} {R0 : Pr} {σ : Sg} {q : Fm} {H : Hp} {D : Ends}
def later (D : Ends) : Ends := { D with nx := fun σ2 H2 => ∀ H3, Same H2 H3 → D.nx σ2 H3 }
theorem AnS.later : ∀ {r : SRes}, AnS Z ex R0 σ q H D r → AnS Z ex R0 σ q H (later D) r
  | .nx q', h => fun σ2 H2 l b f H3 sm => h σ2 H3 (l.trans (Lat.same sm)) b (f.on sm (fun _ z => .inl z) fun b hb => (Lat.same (R := Ow σ q) sm).tr b (f.trk b hb))
  | .brk _, h => h
  | .cnt _, h => h
  | .ret _ _, h => h
  | .exc _ _ _, h => h
  | .bad, h => h
theorem tS_later {s : S} (h : tS Z K ex s D σ H) : tS Z K ex s (later D) σ H := by
  obtain ⟨R0, q, f, h⟩ := h
  exact ⟨R0, q, f, h.later⟩
theorem two_fit : 2 ≤ sizeLine := by decide
end
section
variable {W : Wo} {X : Cx} {ex : XK} {n : Nat} {pos p1 p2 p3 p4 p5 : Pos} {a b c : Expr} {A B C : E} {x y z : Str}
theorem ms_tpar2 [Calm W] {i j kt k2 : Nat} (g : Gd W n X ex) (ha : ME W X ex a A) (hb : ME W X ex b B) (hi : X.N[i]? = some x := by rfl) (hj : X.N[j]? = some y := by rfl) (hij : i ≠ j := by decide) (hx : Loc X.env.scope x := by first | exact Or.inl rfl | exact Or.inr rfl) (hy : Loc X.env.scope y := by first | exact Or.inl rfl | exact Or.inr rfl)
    (hfx : X.fn x = true ∨ X.env.scope.names.lookup x = some .local := by first | exact .inl rfl | exact .inr rfl) (hfy : X.fn y = true ∨ X.env.scope.names.lookup y = some .local := by first | exact .inl rfl | exact .inr rfl)
    (hs : starEach [a, b] X.env = (false, eval a X.env) :: starEach [b] X.env := by rfl) (hs2 : starEach [b] X.env = (false, eval b X.env) :: starEach [] X.env := by rfl)
    (hw : swappedStores [.Tuple [.Name x p1, .Name y p2] kt p3] (.Tuple [a, b] k2 p4) X.env = pure none := by rfl) (hsw : swapsWithSole [.Tuple [.Name x p1, .Name y p2] kt p3] (.Tuple [a, b] k2 p4) pos.line X.env = pure false := by rfl)
    (h1 : (assignEach [.Tuple [.Name x p1, .Name y p2] kt p3] X.env).map (·.2) = [assign (.Tuple [.Name x p1, .Name y p2] kt p3) X.env] := by rfl) (h2 : (assignEach [.Name x p1, .Name y p2] X.env).map (·.2) = assign (.Name x p1) X.env :: (assignEach [.Name y p2] X.env).map (·.2) := by rfl)
    (h3 : (assignEach [.Name y p2] X.env).map (·.2) = assign (.Name y p2) X.env :: (assignEach [] X.env).map (·.2) := by rfl) (hn : (assignEach [.Name x p1, .Name y p2] X.env).length = 2 := by rfl) (hst : (assignEach [.Name x p1, .Name y p2] X.env).findIdx? (·.1) = none := by rfl) :
    MS W X ex (.Assign [.Tuple [.Name x p1, .Name y p2] kt p3] (.Tuple [a, b] k2 p4) pos) (.par2 i j A B) :=
  (ps_asg (pe_tup (pa_cons (ha false) (pa_cons (hb false) pa_nil hs2) hs)) (pg_tup g.calm (pgs_cons (pg_name g.nd hi hx hfx) (pgs_cons (pg_name g.nd hj hy hfy) pgs_nil h3) h2) hn hst) hsw hw h1).imp fun D s H h => by
    refine TR.mono (tS_par2 hij (tS_later h)) fun v H1 k => TR.mono k fun w H2 k => ?_
    obtain ⟨v', w', e, q⟩ := k
    cases e
    refine ⟨two_fit, fun p hp => ⟨p, _, rfl, .inl (.inl upd_same), rfl, _, _, rfl, _, _, rfl, rfl, ?_⟩⟩
    exact q _ (same_upd hp)
end
end M

set_option Elab.async false
set_option linter.all false
set_option maxRecDepth 100000
set_option maxHeartbeats 4000000
/-! G4: repr, f-strings, in, [::-1], calls with names, methods. -/
namespace M
open PySem L2 PyProof.Rows SlX
/-! ### repr -/
mutual
theorem Dq.reads {X : Cx} {pins : List (Addr × Obj)} {σ : Sg} {H : Hp} {s : Shared} (I : Inv X pins σ H s) (sy : ∃ o, H sysModules = some (.frz o (.own 0))) (ks : X.K.lookup sysModules = none) :
    ∀ (d : PyData) (v : V) (u : Value), Dq X.K H v d → RelV v u → ∃ as, Reads s.heap u d as ∧ sysModules ∉ as
  | .none, _, _, h, r => by
    cases h
    cases r
    exact ⟨_, Reads.none, by simp⟩
  | .bool b, _, _, h, r => by
    cases h
    cases r
    exact ⟨_, Reads.bool b, by simp⟩
  | .int i, _, _, h, r => by
    cases h
    obtain ⟨t, rfl⟩ := r
    exact ⟨_, Reads.int i t, by simp⟩
  | .str x, _, _, h, r => by
    cases h
    obtain ⟨t, rfl⟩ := r
    exact ⟨_, Reads.str x t, by simp⟩
  | .list ds, _, _, h, r => by
    cases h with
    | @lst a _ _ hs ha =>
      cases r
      have hne : a ≠ sysModules := fun z => by
        subst z
        obtain ⟨o, e⟩ := sy
        rcases hs with (h1 | ⟨o2, h1⟩) | ⟨o2, its, n, h1, _⟩
        · rw [e] at h1; cases h1
        · rw [e] at h1; cases h1
        · rw [ks] at h1; cases h1
      obtain ⟨its, rv, ⟨o, n, ho, hc, _, hd⟩, _⟩ := I.list hs
      obtain ⟨as, hr, hn⟩ := Dq.readsAll I sy ks ds _ its ha rv
      exact ⟨_, Reads.list ho hc hd hr, fun z => by
        rcases List.mem_cons.mp z with z | z
        · exact hne z.symm
        · exact hn z⟩
  | .tuple ds, _, _, h, r => by
    cases h with
    | tup hs ha =>
      cases r
      obtain ⟨its, rv, ⟨o, ho, hc, n, hd⟩, _⟩ := I.tuple hs
      obtain ⟨as, hr, hn⟩ := Dq.readsAll I sy ks ds _ its ha rv
      exact ⟨_, Reads.tuple ho hc hd hr, hn⟩
  | .dict kvs0, _, u0, h, r => by
    cases h with
    | @dct a kvs ea =>
      cases r
      have ok : ObjOk X.prog X.w H s.heap a (.dK (kvs.map fun p => ((Sum.inr p.1 : Key), V.int p.2))) := I.hok a _ ea
      obtain ⟨_, hsm, vs, kv, o, es, ep, ho, hx, hd, _, ps, _⟩ := ok
      have key : ∀ (kvs : List (Str × Int)) (vs : List (Key × Value)) (es : List DictEntry), KV (kvs.map fun p => ((Sum.inr p.1 : Key), V.int p.2)) vs → Pairs (mixKind X.prog X.w) es vs →
          ReadsAll s.heap (es.map (·.key)) (kvs.map fun p => PyData.str p.1) [] ∧ ReadsAll s.heap (es.map (·.val)) (kvs.map fun p => PyData.int p.2) [] := by
        intro kvs
        induction kvs with
        | nil =>
          intro vs es h1 h2
          cases h1
          cases h2
          exact ⟨.nil, .nil⟩
        | cons p kvs ih =>
          intro vs es h1 h2
          cases h1 with
          | @cons _ kw _ _ hp h1 =>
            cases h2 with
            | cons hk hv h2 =>
              obtain ⟨i1, i2⟩ := ih _ _ h1 h2
              obtain ⟨e1, e2⟩ := hp
              have e1 : (Sum.inr p.1 : Key) = kw.1 := e1
              have e2 : L2.RelV (V.int p.2) kw.2 := e2
              obtain ⟨t2, e2⟩ := e2
              rw [← e1] at hk
              obtain ⟨t1, e3⟩ := Value.isStrOf_shape (show Value.isStrOf p.1 _ = true from hk)
              refine ⟨?_, ?_⟩
              · rw [List.map_cons, List.map_cons, e3]
                exact ReadsAll.cons (as := []) (Reads.str _ _) i1
              · rw [List.map_cons, List.map_cons, hv, e2]
                exact ReadsAll.cons (as := []) (Reads.int _ _) i2
      obtain ⟨i1, i2⟩ := key kvs vs es.toList kv ps
      refine ⟨a :: [] ++ [], Reads.dict ho hx.1 hd ?_ ?_, fun z => ?_⟩
      · rw [List.map_map]; exact i1
      · rw [List.map_map]; exact i2
      · have e : sysModules = a := by simpa using z
        rw [e] at hsm
        simp at hsm
theorem Dq.readsAll {X : Cx} {pins : List (Addr × Obj)} {σ : Sg} {H : Hp} {s : Shared} (I : Inv X pins σ H s) (sy : ∃ o, H sysModules = some (.frz o (.own 0))) (ks : X.K.lookup sysModules = none) :
    ∀ (ds : List PyData) (vs : List V) (us : List Value), DqAll X.K H vs ds → Vals vs us → ∃ as, ReadsAll s.heap us ds as ∧ sysModules ∉ as
  | [], _, _, h, r => by
    cases h
    cases r
    exact ⟨_, ReadsAll.nil, by simp⟩
  | d :: ds, _, _, h, r => by
    cases h with
    | cons h1 h2 =>
      cases r with
      | cons r1 r2 =>
        obtain ⟨as, q1, n1⟩ := Dq.reads I sy ks d _ _ h1 r1
        obtain ⟨bs, q2, n2⟩ := Dq.readsAll I sy ks ds _ _ h2 r2
        exact ⟨_, ReadsAll.cons q1 q2, fun z => (List.mem_append.mp z).elim n1 n2⟩
end
def rRepr (K : PySem.W.Frag) : List V → Hp → VK → Prop := fun xs H Q => ∃ x p, xs = [x] ∧ Dq K H x p ∧ (∃ o, H sysModules = some (.frz o (.own 0))) ∧ K.lookup sysModules = none ∧ p.showable = true ∧ p.depth ≤ 64 ∧ p.shown.length ≤ sizeLine ∧ Q (.str p.shown) H
theorem call_reprD {X : Cx} (qu : Qu X.A) (hu : X.A.units + 65 < cLine) : CallR X (.builtin "repr") (rRepr X.K) := by
  intro pins s σ H xs us Q I r h
  obtain ⟨x, p, rfl, hd, sy, ks, hs, hdp, hl, q⟩ := h
  obtain ⟨u, rfl, ru⟩ := r.one
  obtain ⟨as, rd, nsm⟩ := Dq.reads I sy ks p x u hd ru
  have big : ∀ {a : Addr}, u = .ref a → wpAny (model X.prog X.w) X.A (call (.builtin "repr") [u]) (EP X pins σ Q) X.xe s := fun {a} e => by
    subst e
    exact repr_of_reads' rd hs (fun _ => nsm) qu (by omega) (fun _ _ e => e) (fun h' t tk k => ⟨.str p.shown, H, I.kept (t' := tk) k, ⟨_, rfl⟩, q⟩) hl
  cases hd with
  | non =>
    cases ru
    rw [show PyData.none.shown = "None" from by simp only [PyData.shown]] at q
    exact PySem.P.repr_of_none ⟨.str _, H, I.tok _, ⟨_, rfl⟩, q⟩
  | bl b =>
    cases ru
    rw [show (PyData.bool b).shown = if b then Str.ofString "True" else Str.ofString "False" from by simp only [PyData.shown]] at q
    exact PySem.P.repr_of_bool ⟨.str _, H, I.tok _, ⟨_, rfl⟩, q⟩
  | int i =>
    obtain ⟨t, rfl⟩ := ru
    rw [show (PyData.int i).shown = toString i from by simp only [PyData.shown]] at q
    exact PySem.P.repr_of_int (by simpa [PyData.showable] using hs) ⟨.str _, H, I.tok _, ⟨_, rfl⟩, q⟩
  | str z =>
    obtain ⟨t, rfl⟩ := ru
    rw [show (PyData.str z).shown = reprText z from by simp only [PyData.shown]] at q hl
    exact PySem.P.repr_of_str ⟨.str _, H, I.tok _, ⟨_, rfl⟩, q⟩ hl
  | lst a b => exact big ru
  | tup a b => exact big ru
  | dct a => exact big ru
theorem pr_repr {Z : Zc} {x : V} {H : Hp} {Q : VK} (h : PrimPost Z .repr [x] H Q) : rRepr Z.K [x] H Q := by
  obtain ⟨R, ds, ht, hr, nw, d, e, k⟩ := h
  obtain ⟨d0, rfl, rp⟩ := repPs1 hr
  have e : reprD d0 = some (nw, d) := e
  unfold reprD at e
  cases hp : d0.py with
  | none => rw [hp] at e; cases e
  | some p =>
    rw [hp] at e
    dsimp only at e
    by_cases hc : p.showable = true ∧ p.depth ≤ 64 ∧ p.shown.length ≤ sizeLine
    · rw [if_pos hc] at e
      cases e
      exact ⟨x, p, rfl, rp.dp hp, ht.1.sy, ht.1.ks, hc.1, hc.2.1, hc.2.2, k _ H (Same.refl H) (.str _)⟩
    · rw [if_neg hc] at e; cases e
/-! ### in -/
def rInX (K : PySem.W.Frag) (neg : Bool) : R2 := fun x y H Q => (∃ i j, x = .str i ∧ y = .str j ∧ Q (.bl (neg ^^ !(Builtin.Str.occurrences j i 0 j.length 1).isEmpty)) H) ∨
  ∃ d ds, Dp K H x d ∧ (Dp K H y (.list ds) ∨ Dp K H y (.tuple ds)) ∧ SeqAt.shaped d = true ∧ SeqAt.shaped (.list ds) = true ∧ Q (.bl (neg ^^ ds.any fun z => PyData.eqv z d)) H
theorem op_inX {X : Cx} (hu : X.A.units + 65 < cLine) : OpR X (compareOp .In) (rInX X.K false) := by
  intro pins s σ H x y v u Q I rx ry h
  rcases h with ⟨i, j, rfl, rfl, q⟩ | ⟨d, ds, hd, he, sd, se, q⟩
  · exact op_in_str pins s σ H _ _ v u Q I rx ry ⟨i, j, rfl, rfl, by simpa using q⟩
  · obtain ⟨as, r1⟩ := Dp.reads I d x v hd rx
    have q' : Q (.bl (ds.any fun z => PyData.eqv z d)) H := by simpa using q
    rcases he with he | he
    · obtain ⟨bs, r2⟩ := Dp.reads I (.list ds) y u he ry
      exact SeqAt.in_list_reads r2 r1 (SeqAt.canLay_of_shaped se) (SeqAt.canLay_of_shaped sd) (room_in_shaped sd hu) ⟨.bl _, H, I, rfl, q'⟩
    · obtain ⟨bs, r2⟩ := Dp.reads I (.tuple ds) y u he ry
      exact SeqAt.in_tuple_reads r2 r1 (SeqAt.canLay_of_shaped se) (SeqAt.canLay_of_shaped sd) (room_in_shaped sd hu) ⟨.bl _, H, I, rfl, q'⟩
theorem op_notInX {X : Cx} (hu : X.A.units + 65 < cLine) : OpR X (compareOp .NotIn) (rInX X.K true) := by
  intro pins s σ H x y v u Q I rx ry h
  rcases h with ⟨i, j, rfl, rfl, q⟩ | ⟨d, ds, hd, he, sd, se, q⟩
  · exact op_notin_str pins s σ H _ _ v u Q I rx ry ⟨i, j, rfl, rfl, by simpa using q⟩
  · obtain ⟨as, r1⟩ := Dp.reads I d x v hd rx
    have q' : Q (.bl (!(ds.any fun z => PyData.eqv z d))) H := by simpa using q
    rcases he with he | he
    · obtain ⟨bs, r2⟩ := Dp.reads I (.list ds) y u he ry
      exact SeqAt.notIn_list_reads r2 r1 (SeqAt.canLay_of_shaped se) (SeqAt.canLay_of_shaped sd) (room_in_shaped sd hu) ⟨.bl _, H, I, rfl, q'⟩
    · obtain ⟨bs, r2⟩ := Dp.reads I (.tuple ds) y u he ry
      exact SeqAt.notIn_tuple_reads r2 r1 (SeqAt.canLay_of_shaped se) (SeqAt.canLay_of_shaped sd) (room_in_shaped sd hu) ⟨.bl _, H, I, rfl, q'⟩
theorem shapedD_inv {d : D} {p : PyData} (h : shapedD d = some p) : d.py = some p ∧ SeqAt.shaped p = true := by
  unfold shapedD at h
  cases hp : d.py with
  | none => rw [hp] at h; cases h
  | some p' =>
    rw [hp] at h
    dsimp only at h
    by_cases hs : SeqAt.shaped p' = true
    · rw [if_pos hs] at h; cases h; exact ⟨rfl, hs⟩
    · rw [if_neg hs] at h; cases h
theorem shapedL_inv {ds : List D} {ps : List PyData} (h : shapedL ds = some ps) : D.pys ds = some ps ∧ SeqAt.shaped (.list ps) = true := by
  unfold shapedL at h
  cases hp : D.pys ds with
  | none => rw [hp] at h; cases h
  | some p' =>
    rw [hp] at h
    dsimp only at h
    by_cases hs : SeqAt.shaped (.list p') = true
    · rw [if_pos hs] at h; cases h; exact ⟨rfl, hs⟩
    · rw [if_neg hs] at h; cases h
theorem inD_inv {Z : Zc} {H : Hp} {R : Pr} {x y : V} {a b : D} {c : Bool} (h : inD a b = some c) (ra : RepP Z H R x a) (rb : RepP Z H R y b) : (∃ i j, x = .str i ∧ y = .str j ∧ c = !(Builtin.Str.occurrences j i 0 j.length 1).isEmpty) ∨
    ∃ d ds, Dp Z.K H x d ∧ (Dp Z.K H y (.list ds) ∨ Dp Z.K H y (.tuple ds)) ∧ SeqAt.shaped d = true ∧ SeqAt.shaped (.list ds) = true ∧ c = ds.any fun z => PyData.eqv z d := by
  have seq : ∀ {ds : List D} {b : D}, (match shapedD a, shapedL ds with | some p, some ps => some (ps.any fun z => PyData.eqv z p) | _, _ => none) = some c → (b = .lst ds ∨ b = .tup ds) → RepP Z H R y b →
      ∃ d ds, Dp Z.K H x d ∧ (Dp Z.K H y (.list ds) ∨ Dp Z.K H y (.tuple ds)) ∧ SeqAt.shaped d = true ∧ SeqAt.shaped (.list ds) = true ∧ c = ds.any fun z => PyData.eqv z d := fun {ds b} h hb rb => by
    cases h1 : shapedD a with
    | none => rw [h1] at h; cases h
    | some p =>
      cases h2 : shapedL ds with
      | none => rw [h1, h2] at h; cases h
      | some ps =>
        rw [h1, h2] at h
        cases h
        obtain ⟨e1, s1⟩ := shapedD_inv h1
        obtain ⟨e2, s2⟩ := shapedL_inv h2
        refine ⟨p, ps, (ra.dp e1).shaped s1, ?_, s1, s2, rfl⟩
        rcases hb with rfl | rfl
        · exact .inl ((rb.dp (by unfold D.py; rw [e2])).shaped s2)
        · exact .inr ((rb.dp (by unfold D.py; rw [e2])).shaped s2)
  cases b with
  | lst ds =>
    unfold inD at h
    cases a <;> exact .inr (seq h (.inl rfl) rb)
  | tup ds =>
    unfold inD at h
    cases a <;> exact .inr (seq h (.inr rfl) rb)
  | str j =>
    cases a with
    | str i => cases h; exact .inl ⟨i, j, ra.str, rb.str, rfl⟩
    | _ => cases h
  | _ => cases a <;> cases h
theorem pr_isIn {Z : Zc} {x y : V} {H : Hp} {Q : VK} (h : PrimPost Z .isIn [x, y] H Q) : rInX Z.K false x y H Q := by
  obtain ⟨R, ds, ht, hr, nw, d, e, k⟩ := h
  obtain ⟨d1, d2, rfl, r1, r2⟩ := repPs2 hr
  obtain ⟨c, e1, e2⟩ := Option.map_eq_some_iff.mp (show (inD d1 d2).map _ = _ from e)
  cases e2
  have z := k _ H (Same.refl H) (.bl c)
  rcases inD_inv e1 r1 r2 with ⟨i, j, h1, h2, rfl⟩ | ⟨d, ds, h1, h2, h3, h4, rfl⟩
  · exact .inl ⟨i, j, h1, h2, by simpa using z⟩
  · exact .inr ⟨d, ds, h1, h2, h3, h4, by simpa using z⟩
theorem pr_notIn {Z : Zc} {x y : V} {H : Hp} {Q : VK} (h : PrimPost Z .notIn [x, y] H Q) : rInX Z.K true x y H Q := by
  obtain ⟨R, ds, ht, hr, nw, d, e, k⟩ := h
  obtain ⟨d1, d2, rfl, r1, r2⟩ := repPs2 hr
  obtain ⟨c, e1, e2⟩ := Option.map_eq_some_iff.mp (show (inD d1 d2).map _ = _ from e)
  cases e2
  have z := k _ H (Same.refl H) (.bl (!c))
  rcases inD_inv e1 r1 r2 with ⟨i, j, h1, h2, rfl⟩ | ⟨d, ds, h1, h2, h3, h4, rfl⟩
  · exact .inl ⟨i, j, h1, h2, by simpa using z⟩
  · exact .inr ⟨d, ds, h1, h2, h3, h4, by simpa using z⟩
/-! ### f-strings -/
section
variable {Z : Zc} {K : Calls} {ex : XK} {s : Sg} {H : Hp}
end
section
variable {W : Wo} {X : Cx} {ex : XK} {n m k j : Nat} {pos p1 p2 p3 p4 apos : Pos} {a b c e : Expr} {es : List Expr} {A B C : E} {x y : Str} {gs : Gs} {kws : List Keyword}
/-! ### builtins, operators -/
theorem boot_repr' : bootBuiltins "repr" = some (.builtin "repr") := by decide +kernel
theorem me_repr (g : Gd W n X ex) (hm : W.mg "repr" = none) (ha : ME W X ex a A) (hg : Gl X "repr" := by rfl) (he : starEach [a] X.env = (false, eval a X.env) :: starEach [] X.env := by rfl) : ME W X ex (.Call (.Name "repr" p1) [a] [] pos) (.prm .repr (.cons A .nil)) :=
  me_b1 (call_reprD g.qu g.un) (fun x H Q h => by rw [g.hK]; exact pr_repr h) boot_repr' (by rw [g.hm]; exact hm) ha hg (he := he)
def cm_in (g : Gd W n X ex) : Cm W X .In .isIn where
  r := rInX X.K false
  ho := op_inX g.un
  hp := fun x y H Q h => by rw [g.hK]; exact pr_isIn h
  hb := fun x y H Q Q' h i => h.imp (fun ⟨a, b, h1, h2, q⟩ => ⟨a, b, h1, h2, i _ _ q⟩) fun ⟨d, ds, h1, h2, h3, h4, q⟩ => ⟨d, ds, h1, h2, h3, h4, i _ _ q⟩
def cm_notIn (g : Gd W n X ex) : Cm W X .NotIn .notIn where
  r := rInX X.K true
  ho := op_notInX g.un
  hp := fun x y H Q h => by rw [g.hK]; exact pr_notIn h
  hb := fun x y H Q Q' h i => h.imp (fun ⟨a, b, h1, h2, q⟩ => ⟨a, b, h1, h2, i _ _ q⟩) fun ⟨d, ds, h1, h2, h3, h4, q⟩ => ⟨d, ds, h1, h2, h3, h4, i _ _ q⟩
/-! ### calls with names -/
theorem tCons_lit {Z : Zc} {K : Calls} {ex : XK} {t2 : TA} {d : D} {w : V} {s : Sg} {H : Hp} {Q : List V → Hp → Prop} (hw : ∀ R, Rep Z H R w d) (h : tCons (tE Z K ex (.con d) false) t2 s H Q) : t2 s H fun ws H2 => Q (w :: ws) H2 := by
  obtain ⟨R, k⟩ := tE_lit (d := d) h (fun q => rfl)
  exact k w (hw R)
/-- the keywords' values -/
def MKs (W : Wo) (X : Cx) (ex : XK) (kws : List Keyword) (m : Nat) (gs : Gs) : Prop := ∃ tk, PK X kws tk ∧ ∀ s H Q Q', (∀ zs H2, zs.length = m → Q zs H2 → Q' zs H2) → tGs W.Z W.K ex gs s H Q → tk s H Q'
theorem mks_nil : MKs W X ex [] 0 .nil := ⟨tNil, pk_nil, fun s H Q Q' i h => i [] H rfl (tGs_nil h)⟩
theorem mks_cons {nm : Option Str} {kp : Pos} (ha : ME W X ex a A) (hr : MKs W X ex kws m gs) : MKs W X ex (⟨nm, a, kp⟩ :: kws) (m + 1) (.v A gs) := by
  obtain ⟨tk, h1, h2⟩ := hr
  exact ⟨_, pk_cons (ha false) h1, fun s H Q Q' i h => TR.mono (tGs_v h) fun x H1 z => h2 s H1 _ _ (fun zs H2 l q => i (x :: zs) H2 (by rw [List.length_cons, l]) q) z⟩
/-- a def called with names -/
structure Fk (W : Wo) (n : Nat) (x : Str) (f : Nat) (m : Nat) (ks : List Str) (pm : List Nat) : Prop where
  ex : ∃ a, FnK W.P W.w W.Z.K W.mg W.base (L2.CX W.P W.w) n a m ks pm (spF W.Z W.K f) ∧ W.mg x = some (.ref a) ∧ PySem.W.keepIn W.Z.K (.ref a) = true
theorem Gd.fk {m : Nat} {ks : List Str} {pm : List Nat} (g : Gd W n X ex) {f : Addr} {sp : Sp} (F : FnK W.P W.w W.Z.K W.mg W.base (L2.CX W.P W.w) k f m ks pm sp) : FnK X.prog X.w X.K X.mg X.base (L2.CX X.prog X.w) k f m ks pm sp := by
  rw [g.hP, g.hw, g.hK, g.hm, g.hb]; exact F
/-- a class whose constructor is called with names -/
structure Mk0 (W : Wo) (k : Nat) (x : Str) (c : Nat) (ks : List Str) (pm : List Nat) : Prop where
  ex : ∃ a, Mk W.Z.K (W.Z.C c) a ∧ FnK W.P W.w W.Z.K W.mg W.base (L2.CX W.P W.w) k a 1 ks (0 :: pm.map (· + 1)) (spC W.Z W.K c) ∧ W.mg x = some (.ref (W.Z.C c))
  lt : c < W.Z.nc
theorem pick_self {α : Type} (x : α) (l : List α) : ∀ pm : List Nat, pick (pm.map (· + 1)) (x :: l) = pick pm l
  | [] => rfl
  | i :: pm => by
    have ih := pick_self x l pm
    unfold pick at ih ⊢
    rw [List.map_cons, List.filterMap_cons, List.filterMap_cons, ih]
    rfl
theorem me_makeP0 [Calm W] {c : Nat} {ks : List Str} {pm : List Nat} (g : Gd W n X ex) (md : Mk0 W k x c ks pm) (ha : MKs W X ex kws ks.length gs) (hk : k + 1 ≤ n := by omega) (hg : Gl X x := by rfl) (hall : (backToKw pos (keywordEach kws X.env)).all (·.1.isSome) = true := by rfl) (hks : (backToKw pos (keywordEach kws X.env)).filterMap (·.1) = ks := by rfl)
    (hdb : (x == ("__debug__" : Str)) = false := by decide) (hpl : ((backTo pos (starEach [] X.env)).any (·.1) || (backToKw pos (keywordEach kws X.env)).any (·.1.isNone)) = false := by rfl) :
    ME W X ex (.Call (.Name x p1) [] kws pos) (.makeP c pm gs) := fun pk => by
  obtain ⟨a, h1, h2, h3⟩ := md.ex
  obtain ⟨tk, t2, t3⟩ := ha
  have mk : Mk X.K (W.Z.C c) a := by rw [g.hK]; exact h1
  refine ⟨fun pins s σ H Q I h => wpAny_Call_Name_kw (ld_glob I hg (by rw [g.hm]; exact h3) ?_ hdb)⟩
  have z := t3 σ H _ (fun zs H2 => zs.length = ks.length ∧ ∀ x dx, H2 x = none → H2 dx = none → dx ≠ x → spC W.Z W.K c (.ref x :: pick pm zs) (upd (upd H2 dx (.own x)) x (.ins (W.Z.C c) dx [])) (fun v H3 => v = .non ∧ Q (.ref x) H3) ex) (fun zs H2 l2 q => ⟨l2, q⟩) (tE_makeP md.lt h)
  refine PySem.W.callWith_KW0 (h₀ := X.base) I.ok.mod.kin mk.kp hall (thn (t2.run pos pins s σ H _ I z) fun ws s2 ⟨zs, H2, I2, rz, l2, q2⟩ => ⟨I2.kIn, ?_⟩) hpl
  rw [hks]
  refine run_makeKw (n := 0) (vs := []) (us := []) mk (g.fk h2) g.qu (g.room.mono hk) g.ps I2 .nil rz rfl l2 fun y dy hy hdy ne => ?_
  have e : pick (0 :: pm.map (· + 1)) (V.ref y :: [] ++ zs) = .ref y :: pick pm zs := by
    show pick (0 :: pm.map (· + 1)) (V.ref y :: zs) = _
    have := pick_self (V.ref y) zs pm
    unfold pick at this ⊢
    rw [List.filterMap_cons, this]
    rfl
  rw [e]
  exact q2 y dy hy hdy ne
/-! ### a class's own methods -/
structure Cd (W : Wo) (k : Nat) (x m : Str) (c f : Nat) : Prop where
  ex : ∃ mc p a, ClX.CRead W.Z.K (W.Z.C c) mc ∧ ClX.CMet W.Z.K (W.Z.C c) mc m p a ∧ FnG W.P W.w W.Z.K W.mg W.base (L2.CX W.P W.w) k a (spF W.Z W.K f)
  mg : W.mg x = some (.ref (W.Z.C c))
/-- C.m(..), m a class method -/
theorem me_cls [Calm W] {c f : Nat} {e : Expr} {m : Str} {pl : Sem Bool} (g : Gd W n X ex) (D : Cd W k x m c f) (ha : MG W X ex (e :: es) gs) (hk : k ≤ n := by omega) (hg : Gl X x := by rfl) (hdb : (x == ("__debug__" : Str)) = false := by decide) (hst : starEach (e :: es) X.env = (false, eval e X.env) :: starEach es X.env := by rfl) (hpl : (backTo pos (starEach es X.env)).any (·.1) = false := by rfl)
    (ht : eval (.Call (.Attribute (.Name x p1) m apos) (e :: es) [] pos) X.env = (do
      let ov ← eval (.Name x p1) X.env
      standAt apos.atName
      let (f, first) ← holding [ov] (getMethod ov m pl)
      callWith pos f first (backTo pos (starEach (e :: es) X.env)) (backToKw pos (keywordEach [] X.env))) := by rfl) :
    ME W X ex (.Call (.Attribute (.Name x p1) m apos) (e :: es) [] pos) (.call f (.v (.con (.cls c)) gs)) := fun pk => by
  obtain ⟨mc, p, a, h1, h2, h3⟩ := D.ex
  refine ⟨fun pins s σ H Q I h => PySem.W.methodCall_KW (pl := pl) (ld_glob I hg (by rw [g.hm]; exact D.mg) ?_ hdb) ht⟩
  have z := tCons_lit (w := V.ref (W.Z.C c)) (fun R => .cls c) (tGs_v (tE_call h))
  have cr : ClX.CRead X.K (W.Z.C c) mc := by rw [g.hK]; exact h1
  have cm : ClX.CMet X.K (W.Z.C c) mc m p a := by rw [g.hK]; exact h2
  refine ClX.getmethcm_ok I cr cm fun s2 I2 => ?_
  refine ClX.callwith_cm I2 (ClX.base_none I (Nat.le_refl _)) cm.fi (thn (ha.run pos _ s2 σ H _ I2 z) fun us s3 ⟨vs, H2, I3, rv, q2⟩ => ⟨⟨ClX.pin_at I3, I3.kIn⟩, ?_⟩) hst hpl
  exact thn (wpAny_call (PySem.W.method_call (ClX.pin_at I3) (run_G (us := .ref (W.Z.C c) :: us) (vs := .ref (W.Z.C c) :: vs) (g.fn h3) g.qu (g.room.mono hk) I3.env0 g.ps I3 (.cons rfl rv) q2))) fun _ _ y => ClX.unpinE y
/-- a method of an instance with slots -/
structure Id (W : Wo) (k : Nat) (m : Str) (c f : Nat) : Prop where
  sc : SCls W.Z.K (W.Z.C c)
  ex : ∃ a, Meth W.Z.K (W.Z.C c) m a ∧ FnG W.P W.w W.Z.K W.mg W.base (L2.CX W.P W.w) k a (spF W.Z W.K f)
theorem rgc_of {i j c0 : Int} (h1 : -(2 ^ 62) ≤ i) (h2 : i < 2 ^ 62) (h3 : -(2 ^ 62) ≤ j) (h4 : j < 2 ^ 62) (hc : 0 < c0) (hc2 : c0 < 1000000) : RgC i j c0 (Builtin.Range.rangeSize i j c0).toNat := by
  have hs : Builtin.Range.rangeSize i j c0 = if i < j then (j - i - 1) / c0 + 1 else 0 := by
    unfold Builtin.Range.rangeSize
    rw [if_pos hc]
  have hb : 0 ≤ Builtin.Range.rangeSize i j c0 ∧ Builtin.Range.rangeSize i j c0 ≤ 2 ^ 63 - 1 := by
    rw [hs]
    by_cases hij : i < j
    · rw [if_pos hij]
      have z1 : 0 ≤ (j - i - 1) / c0 := Int.ediv_nonneg (by omega) (by omega)
      have z2 : (j - i - 1) / c0 ≤ j - i - 1 := Int.ediv_le_self _ (by omega)
      omega
    · rw [if_neg hij]; omega
  refine ⟨by omega, by omega, ?_, (Int.toNat_of_nonneg hb.1).symm⟩
  unfold Builtin.Range.small
  simp only [Builtin.Range.rangeFitsLong, Bool.and_eq_true, Bool.or_eq_true, decide_eq_true_eq, beq_iff_eq]
  refine ⟨⟨⟨⟨⟨by omega, by omega⟩, ⟨by omega, by omega⟩⟩, ⟨by omega, by omega⟩⟩, ⟨by omega, by omega⟩⟩, .inr ?_⟩
  rw [if_pos hc, Bool.and_eq_true]
  exact ⟨decide_eq_true (by omega), decide_eq_true (by omega)⟩
theorem mi_rng3 {tg : Expr} (g : Gd W n X ex) (hm : W.mg "range" = none) (ha : ME W X ex a A) (hb : ME W X ex b B) (hc : ME W X ex c C) (hg : Gl X "range" := by rfl) (hs : starEach [a, b, c] X.env = (false, eval a X.env) :: starEach [b, c] X.env := by rfl) (hs2 : starEach [b, c] X.env = (false, eval b X.env) :: starEach [c] X.env := by rfl) (hs3 : starEach [c] X.env = (false, eval c X.env) :: starEach [] X.env := by rfl) (hpl : (backTo pos (starEach [b, c] X.env)).any (·.1) = false := by rfl) : MI W X ex tg (.Call (.Name "range" p1) [a, b, c] [] pos) (.rng3 A B C) :=
  (pi_range3 hg (by rw [g.hm]; exact hm) (pa_cons (ha false) (pa_cons (hb false) (pa_cons (hc false) pa_nil hs3) hs2) hs) hs hpl).imp fun s H Q h => (tI_3 rfl h).mono fun v H1 z => z.mono fun v2 H2 z => z.mono fun v3 H3 z => by
    obtain ⟨R, d, d2, d3, l, r1, r2, r3, e, k⟩ := z
    cases d <;> first | (cases e; done) | skip
    cases d2 <;> first | (cases e; done) | skip
    cases d3 <;> first | (cases e; done) | skip
    rename_i i j c0
    simp only [rng3F] at e
    split at e
    · rename_i hr
      cases e
      simp only [Bool.and_eq_true, decide_eq_true_eq] at hr
      obtain ⟨h1, h2⟩ := inR_iff hr.1.1.1
      obtain ⟨h3, h4⟩ := inR_iff hr.1.1.2
      exact ⟨i, j, c0, _, by rw [rep_int r1, rep_int r2, rep_int r3], rgc_of h1 h2 h3 h4 hr.1.2 hr.2, k _ gen_rngC⟩
    · cases e
end
end M

set_option Elab.async false
set_option linter.all false
set_option maxRecDepth 100000
set_option maxHeartbeats 4000000
/-! G5: str(x), len(x), repr(x), bool(x) of an instance with slots, by the class's own defs. -/
namespace M
open PySem L2 PyProof.Rows SlX
section
variable {P : Program} {w : World} {A : Around} {E : Value → Shared → Prop} {s : Shared} {K : PySem.W.Frag} {x C f : Addr} {ox : Obj} {od : Option Obj}
end
section
variable {X : Cx} {CX : CXT} {C f : Addr} {sp : Sp} {E : XK} {n : Nat}
end
end M

set_option Elab.async false
set_option linter.all false
set_option maxRecDepth 100000
set_option maxHeartbeats 4000000
/-! G6: bool(x) of an instance with slots. -/
namespace M
open PySem L2 PyProof.Rows SlX
section
variable {P : Program} {w : World} {A : Around} {E : Value → Shared → Prop} {s : Shared} {K : PySem.W.Frag} {x C f : Addr} {ox : Obj} {od : Option Obj}
end
section
variable {X : Cx} {CX : CXT} {C f : Addr} {sp : Sp} {E : XK} {n : Nat}
end
section
variable {Z : Zc} {H : Hp} {x : V} {Q : VK}
end
section
variable {W : Wo} {n k : Nat} {X : Cx} {ex : XK} {a : Expr} {A : E} {pos p1 : Pos}
/-- the def x of the class c: its promise -/
structure Dd (W : Wo) (k c : Nat) (x : Str) (f : Nat) : Prop where
  sc : SCls W.Z.K (W.Z.C c)
  ex : ∃ a, PySem.W.findIn W.Z.K (.ref (W.Z.C c)) x = some (some (.ref a)) ∧ PySem.W.isFn W.Z.K (.ref a) = true ∧ FnG W.P W.w W.Z.K W.mg W.base (L2.CX W.P W.w) k a (spF W.Z W.K f)
end
end M

set_option Elab.async false
set_option linter.all false
set_option maxRecDepth 100000
set_option maxHeartbeats 4000000
/-! G7: == and != of two instances with slots, by the class's own __eq__. -/
namespace M
open PySem L2 PyProof.Rows SlX
section
variable {P : Program} {w : World} {A : Around} {E : Value → Shared → Prop} {s : Shared} {K : PySem.W.Frag} {x y C f : Addr} {ox oy : Obj} {od od2 : Option Obj}
end
section
variable {W : Wo} {n k : Nat} {X : Cx} {ex : XK} {a b : Expr} {A B : E} {pos : Pos}
end
end M

set_option Elab.async false
set_option linter.all false
set_option maxRecDepth 100000
set_option maxHeartbeats 4000000
/-! G8: C.m(name=..), m a class method. -/
namespace M
open PySem L2 PyProof.Rows SlX
section
variable {W : Wo} {n k : Nat} {X : Cx} {ex : XK} {pos p1 apos : Pos} {gs : Gs} {kws : List Keyword} {x : Str}
/-- the class method m of the class c, its values by the names ks -/
structure Ck (W : Wo) (k : Nat) (x m : Str) (c f : Nat) (ks : List Str) (pm : List Nat) : Prop where
  ex : ∃ mc p a, ClX.CRead W.Z.K (W.Z.C c) mc ∧ ClX.CMet W.Z.K (W.Z.C c) mc m p a ∧ FnK W.P W.w W.Z.K W.mg W.base (L2.CX W.P W.w) k a 1 ks pm (spF W.Z W.K f)
  mg : W.mg x = some (.ref (W.Z.C c))
end
end M

set_option Elab.async false
set_option linter.all false
set_option maxRecDepth 100000
set_option maxHeartbeats 4000000
/-! G9: t[::-1], t a list or a tuple. -/
namespace M
open PySem L2 PyProof.Rows SlX HT
section
variable {P : Program} {w : World} {A : Around} {E : Value → Shared → Prop} {s : Shared}
end
section
variable {X : Cx}
end
section
variable {W : Wo} {n : Nat} {X : Cx} {ex : XK} {a : Expr} {A : E} {pos p1 p2 p3 : Pos}
end
end M

set_option Elab.async false
set_option linter.all false
set_option maxRecDepth 100000
set_option maxHeartbeats 4000000
/-! G10: sorted(list, key=a def of the text). -/
namespace M
open PySem L2 PyProof.Rows SlX
section
variable {X : Cx} {pins : List (Addr × Obj)} {σ : Sg} {H : Hp} {s : Shared}
end
section
variable {X : Cx} {pins : List (Addr × Obj)} {σ : Sg} {H : Hp} {s : Shared} {A : Around} {D kS : Addr} {vs : List Value} {kz : List Int} {keys : Array Value} {e e1 : Nat} {P : PySem.Fin → Shared → Prop}
end
section
variable {X : Cx} {pins : List (Addr × Obj)} {σ : Sg} {H : Hp} {s : Shared} {D kS f : Addr} {vs : List Value} {xs : List V} {e1 n : Nat} {P : PySem.Fin → Shared → Prop} {sp : Sp} {Q : List Int → Hp → Prop}
end
end M

set_option Elab.async false
set_option linter.all false
set_option maxRecDepth 100000
set_option maxHeartbeats 4000000
/-! G11: sorted(list, key=a def): the call. -/
namespace M
open PySem L2 PyProof.Rows SlX
inductive F2 {α β : Type} (R : α → β → Prop) : List α → List β → Prop
  | nil : F2 R [] []
  | cons {a : α} {b : β} {l : List α} {m : List β} (r : R a b) (h : F2 R l m) : F2 R (a :: l) (b :: m)
section
variable {X : Cx} {f : Addr} {sp : Sp} {n : Nat}
end
end M

set_option Elab.async false
set_option linter.all false
set_option maxRecDepth 100000
set_option maxHeartbeats 4000000
/-! G12: sorted(list, key=a def): the tree's reading. -/
namespace M
open PySem L2 PyProof.Rows SlX
/-! sorting by distinct keys -/
section
variable {Z : Zc} {K : Calls} {ex : XK} {s : Sg} {R0 : Pr} {q1 : Fm} {f : Nat}
end
end M

set_option Elab.async false
set_option linter.all false
set_option maxRecDepth 100000
set_option maxHeartbeats 4000000
/-! G13: sorted(list, key=a def): read in the text. -/
namespace M
open PySem L2 PyProof.Rows SlX
section
variable {W : Wo} {n k : Nat} {X : Cx} {ex : XK} {a : Expr} {A : E} {pos p1 p2 kp : Pos} {fx : Str} {f : Nat}
end
end M

set_option Elab.async false
set_option linter.all false
set_option maxRecDepth 100000
set_option maxHeartbeats 4000000
/-! A15: defs and constructors. -/
namespace M
open PySem L2 PyProof.Rows SlX

abbrev cxF (W : Wo) (N : List Str) (qual : Str) (sc : Scope) (f : Addr) (cdv : Value) (A : Around) (outer : List Env) (s : Shared) (H : Hp) (E : XK) : Cx := cxOf (L2.CX W.P W.w) W.P W.w W.Z.K W.mg W.base N qual sc f cdv A outer s H E
section
variable {W : Wo} {N ps : List Str} {qual : Str} {sc : Scope} {f : Addr} {cdv : Value} {A : Around} {outer : List Env} {s : Shared} {H : Hp} {E : XK} {n : Nat}
theorem gd_cx (S : FnScope N ps sc) (qu : Qu A) (hr : Room n (A.deeper (envOfC qual sc s.heap.objs.size f cdv))) : Gd W n (cxF W N qual sc f cdv A outer s H E) E :=
  ⟨rfl, rfl, rfl, rfl, rfl, fun _ => rfl, S.nd, ⟨hr.dp, hr.un⟩, fun _ => hr.hd, passes_call (takes_of rfl rfl rfl rfl) fun _ _ _ _ h => h, qu⟩
theorem po_cx : PassesOwn (model (cxF W N qual sc f cdv A outer s H E).prog (cxF W N qual sc f cdv A outer s H E).w) (cxF W N qual sc f cdv A outer s H E).A (cxF W N qual sc f cdv A outer s H E).env (cxF W N qual sc f cdv A outer s H E).xe := passes_of rfl
end
section
variable {Z : Zc} {R0 R1 : Pr} {σ : Sg} {q : Fm} {H H' : Hp}
theorem rep_none_get {i k : Nat} {v : V} : (List.replicate k (none : Option V))[i]? ≠ some (some v) := by
  rw [List.getElem?_replicate]
  split <;> (intro h; cases h)
theorem rep_no_get {i k : Nat} {t : Slot} (h : (List.replicate k Slot.no)[i]? = some t) : t = .no := by
  rw [List.getElem?_replicate] at h
  split at h
  · cases h; rfl
  · cases h
theorem ext_slot {k i : Nat} {t : Slot} (h : (q ++ List.replicate k Slot.no)[i]? = some t) : q[i]? = some t ∨ t = .no := by
  by_cases hi : i < q.length
  · rw [List.getElem?_append_left hi] at h; exact .inl h
  · rw [List.getElem?_append_right (by omega)] at h; exact .inr (rep_no_get h)
theorem ext_val {k i : Nat} {v : V} : (σ ++ List.replicate k none)[i]? = some (some v) ↔ σ[i]? = some (some v) := by
  by_cases hi : i < σ.length
  · rw [List.getElem?_append_left hi]
  · rw [List.getElem?_append_right (by omega), List.getElem?_eq_none (l := σ) (by omega)]
    exact ⟨fun h => absurd h rep_none_get, fun h => nomatch h⟩
theorem ext_ow {k : Nat} {b : Addr} : Ow (σ ++ List.replicate k none) (q ++ List.replicate k .no) b ↔ Ow σ q b := by
  constructor
  · rintro ⟨i, b', d, h1, h2⟩
    rcases ext_slot h1 with h | h
    · exact ⟨i, b', d, h, ext_val.mp h2⟩
    · cases h
  · rintro ⟨i, b', d, h1, h2⟩
    exact ⟨i, b', d, by rw [List.getElem?_append_left (List.getElem?_eq_some_iff.mp h1).1]; exact h1, ext_val.mpr h2⟩
theorem FR.ext (f : FR Z R0 σ q H) (k : Nat) : FR Z R0 (σ ++ List.replicate k none) (q ++ List.replicate k .no) H := by
  have lt : Lat (Rt R0 σ q) H (Rt R0 (σ ++ List.replicate k none) (q ++ List.replicate k .no)) H := Lat.sub fun b z => Or.elim z .inl fun z => .inr (ext_ow.mp z)
  refine ⟨by rw [List.length_append, List.length_append, List.length_replicate, List.length_replicate, f.len], f.tb, f.trk, fun i b d e => ?_, fun i b d e => ?_, fun i j b b' d d' a e e' h1 h2 => ?_⟩
  · rcases ext_slot e with e | e
    · obtain ⟨v, h1, h2⟩ := f.sh i b d e
      exact ⟨v, ext_val.mpr h1, h2.lat lt⟩
    · cases e
  · rcases ext_slot e with e | e
    · obtain ⟨v, h1, h2, h3⟩ := f.ow i b d e
      exact ⟨v, ext_val.mpr h1, h2, h3.lat lt rfl⟩
    · cases e
  · rcases ext_slot e with e | e
    · rcases ext_slot e' with e' | e'
      · exact f.sep i j b b' d d' a e e' (ext_val.mp h1) (ext_val.mp h2)
      · cases e'
    · cases e
/-- self ahead -/
theorem pin_ow {x : V} {b : Addr} : Ow (some x :: σ) (.pin :: q) b ↔ Ow σ q b := by
  constructor
  · rintro ⟨i, b', d, h1, h2⟩
    cases i with
    | zero => simp at h1
    | succ i => exact ⟨i, b', d, by simpa using h1, by simpa using h2⟩
  · rintro ⟨i, b', d, h1, h2⟩
    exact ⟨i + 1, b', d, by simpa using h1, by simpa using h2⟩
theorem FR.pin (f : FR Z R0 σ q H) (x : V) : FR Z R0 (some x :: σ) (.pin :: q) H := by
  have lt : Lat (Rt R0 σ q) H (Rt R0 (some x :: σ) (.pin :: q)) H := Lat.sub fun b z => Or.elim z .inl fun z => .inr (pin_ow.mp z)
  refine ⟨by rw [List.length_cons, List.length_cons, f.len], f.tb, f.trk, fun i b d e => ?_, fun i b d e => ?_, fun i j b b' d d' a e e' h1 h2 => ?_⟩
  · cases i with
    | zero => simp at e
    | succ i =>
      obtain ⟨v, h1, h2⟩ := f.sh i b d (by simpa using e)
      exact ⟨v, by simpa using h1, h2.lat lt⟩
  · cases i with
    | zero => simp at e
    | succ i =>
      obtain ⟨v, h1, h2, h3⟩ := f.ow i b d (by simpa using e)
      exact ⟨v, by simpa using h1, h2, h3.lat lt rfl⟩
  · cases i with
    | zero => simp at e
    | succ i =>
      cases j with
      | zero => simp at e'
      | succ j => rw [f.sep i j b b' d d' a (by simpa using e) (by simpa using e') (by simpa using h1) (by simpa using h2)]
/-- the frame of the end, cut to the parameters -/
theorem cut_slot {n i : Nat} {t : Slot} (h : (lentBack n q)[i]? = some t) (ht : t ≠ .no) : q[i]? = some t ∧ i < n ∧ t.isBor = true := by
  unfold lentBack at h
  rw [List.getElem?_map] at h
  cases e : (q.take n)[i]? with
  | none => rw [e] at h; cases h
  | some u =>
    rw [e] at h
    have hi : i < n := by
      have := (List.getElem?_eq_some_iff.mp e).1
      rw [List.length_take] at this
      omega
    rw [List.getElem?_take_of_lt hi] at e
    have h : (if u.isBor then u else .no) = t := by simpa using h
    cases hb : u.isBor with
    | true => rw [hb] at h; simp at h; subst h; exact ⟨e, hi, hb⟩
    | false => rw [hb] at h; exact absurd h.symm ht
theorem FR.cut {vs : List V} {q0 : Fm} {k : Nat} (f : FR Z R1 σ q H') (hq : vs.length ≤ q.length) (b : BKs (vs.map some ++ List.replicate k none) q0 σ q) : FR Z R1 (vs.map some) (lentBack vs.length q) H' ∧ (∀ c, Ow (vs.map some) (lentBack vs.length q) c → Ow σ q c) ∧ BK q0 (lentBack vs.length q) := by
  have key : ∀ {i : Nat} {t : Slot}, (lentBack vs.length q)[i]? = some t → t ≠ .no → q[i]? = some t ∧ bor q0 i ∧ (vs.map some)[i]? = σ[i]? := fun {i t} h ht => by
    obtain ⟨h1, h2, h3⟩ := cut_slot h ht
    obtain ⟨b1, b2⟩ := b i ⟨t, h1, h3⟩
    rw [List.getElem?_append_left (by simpa using h2)] at b2
    exact ⟨h1, b1, b2.symm⟩
  have ow : ∀ c, Ow (vs.map some) (lentBack vs.length q) c → Ow σ q c := fun c ⟨i, b', d, h1, h2⟩ => by
    obtain ⟨e1, _, e2⟩ := key h1 (fun z => nomatch z)
    exact ⟨i, b', d, e1, by rw [← e2]; exact h2⟩
  have lt : Lat (Rt R1 σ q) H' (Rt R1 (vs.map some) (lentBack vs.length q)) H' := Lat.sub fun c z => Or.elim z .inl fun z => .inr (ow c z)
  refine ⟨⟨?_, f.tb, f.trk, fun i b d e => ?_, fun i b d e => ?_, fun i j b b' d d' a e e' h1 h2 => ?_⟩, ow, fun i ⟨t, h1, h2⟩ => ?_⟩
  · unfold lentBack
    rw [List.length_map, List.length_map, List.length_take]
    omega
  · obtain ⟨e1, _, e2⟩ := key e (fun z => nomatch z)
    obtain ⟨v, h1, h2⟩ := f.sh i b d e1
    exact ⟨v, by rw [e2]; exact h1, h2.lat lt⟩
  · obtain ⟨e1, _, e2⟩ := key e (fun z => nomatch z)
    obtain ⟨v, h1, h2, h3⟩ := f.ow i b d e1
    exact ⟨v, by rw [e2]; exact h1, h2, h3.lat lt rfl⟩
  · obtain ⟨e1, _, e2⟩ := key e (fun z => nomatch z)
    obtain ⟨e3, _, e4⟩ := key e' (fun z => nomatch z)
    exact f.sep i j b b' d d' a e1 e3 (by rw [← e2]; exact h1) (by rw [← e4]; exact h2)
  · have ht : t ≠ .no := fun z => by subst z; cases h2
    exact (key h1 ht).2.1
end
theorem spF_len {W : Wo} {K' : Calls} {fi : Nat} {d : FDef} (hK : ∀ as, K'.fn fi as = runF W.K d as) {vs : List V} {H : Hp} {Q : VK} {E : XK} (h : spF W.Z K' fi vs H Q E) : vs.length = d.nps := by
  obtain ⟨R0, as, f, h⟩ := h
  have h : An W.Z E R0 (vs.map some) as H (PoV W.Z R0 (vs.map some) H) Q (noSlot (K'.fn fi as)) := h
  rw [hK] at h
  unfold runF at h
  by_cases hl : as.length = d.nps
  · rw [← hl, ← f.len, List.length_map]
  · rw [if_neg hl] at h; exact h.elim
/-- THE RULE for a def -/
theorem fn_ok {W : Wo} {n : Nat} {K' : Calls} {fi : Nat} {d : FDef} {N ps : List Str} {x qual : Str} {st : Stmt} {f : Addr} {fd : FuncData} (hK : ∀ as, K'.fn fi as = runF W.K d as) (Fu : L2.Fun W.Z.K x qual st f fd) (S : FnScope N ps (defScope st)) (hN : N.length = d.nN) (hp : ps.length = d.nps)
    (body : ∀ cdv A outer s H E, Gd W n (cxF W N qual (defScope st) f cdv A outer s H E) E → MSs W (cxF W N qual (defScope st) f cdv A outer s H E) E (defBody st) d.body) : FnA W.P W.w W.Z.K W.mg W.base (L2.CX W.P W.w) (n + 1) f fd ps (spF W.Z K' fi) := by
  have hle : d.nps ≤ d.nN := by
    have := congrArg List.length S.pre
    rw [List.length_take] at this
    omega
  refine fnA_of Fu S (fun vs H Q E h => (spF_len hK h).trans hp.symm) fun cdv A outer s H vs Q E qu hr h => ⟨tSs W.Z W.K E d.body, body cdv A outer s H E (gd_cx S qu hr), ?_⟩
  have hl := spF_len hK h
  obtain ⟨R0, as, f0, h⟩ := h
  have h : An W.Z E R0 (vs.map some) as H (PoV W.Z R0 (vs.map some) H) Q (noSlot (K'.fn fi as)) := h
  rw [hK] at h
  unfold runF at h
  have hal : as.length = d.nps := by rw [← f0.len, List.length_map, hl]
  rw [if_pos hal] at h
  have hk : N.length - vs.length = d.nN - d.nps := by rw [hN, hl]
  refine ⟨R0, as ++ List.replicate (d.nN - d.nps) .no, ?_, ?_⟩
  · unfold L2.start
    rw [hk]
    exact f0.ext _
  · unfold L2.start
    rw [hk]
    have cutL : ∀ {σ' : Sg} {q' : Fm} {H' : Hp} {R1 : Pr}, Lat (Ow (vs.map some ++ List.replicate (d.nN - d.nps) none) (as ++ List.replicate (d.nN - d.nps) .no)) H (Ow σ' q') H' → BKs (vs.map some ++ List.replicate (d.nN - d.nps) none) (as ++ List.replicate (d.nN - d.nps) .no) σ' q' → FR W.Z R1 σ' q' H' → d.nps ≤ q'.length →
        FR W.Z R1 (vs.map some) (lentBack d.nps q') H' ∧ Lat (Ow (vs.map some) as) H (Ow (vs.map some) (lentBack d.nps q')) H' ∧ BK as (lentBack d.nps q') ∧ ∀ b, Rt R1 (vs.map some) (lentBack d.nps q') b → Rt R1 σ' q' b := fun {σ' q' H' R1} l b f len => by
      have hq : vs.length ≤ q'.length := by rw [hl]; exact len
      obtain ⟨f2, ow, bk⟩ := f.cut hq b
      rw [hl] at f2 ow bk
      refine ⟨f2, ⟨fun c o hc n => l.kp c o hc fun z => n (ext_ow.mp z), fun c z => Or.elim (l.nw c (ow c z)) (fun z => .inl (ext_ow.mp z)) .inr, l.tr⟩, fun i hi => ?_, fun b z => Or.elim z .inl fun z => .inr (ow b z)⟩
      obtain ⟨t, h1, h2⟩ := bk i hi
      rcases ext_slot h1 with h1 | h1
      · exact ⟨t, h1, h2⟩
      · subst h1; cases h2
    cases e : evSs W.K d.body (as ++ List.replicate (d.nN - d.nps) .no) with
    | bad => rw [e] at h; exact h
    | brk _ => rw [e] at h; exact h.elim
    | cnt _ => rw [e] at h; exact h.elim
    | nx q' =>
      rw [e] at h
      dsimp only at h
      by_cases len : d.nps ≤ q'.length
      case neg => rw [if_neg len] at h; exact h.elim
      rw [if_pos len] at h
      intro σ' H' l b f
      obtain ⟨f2, l2, b2, up⟩ := cutL l b f len
      exact h .non H' l2 b2 ⟨f2, .non⟩
    | ret r q' =>
      rw [e] at h
      dsimp only at h
      by_cases len : d.nps ≤ q'.length
      case neg => rw [if_neg len] at h; exact h.elim
      rw [if_pos len] at h
      intro w σ' H' l b p
      cases r with
      | slot i => exact h.elim
      | val dd =>
        obtain ⟨f, rp⟩ := p
        obtain ⟨f2, l2, b2, up⟩ := cutL l b f len
        exact h w H' l2 b2 ⟨f2, rp.lat (Lat.sub up)⟩
      | new dd =>
        obtain ⟨a, ew, hn, f, o⟩ := p
        obtain ⟨f2, l2, b2, up⟩ := cutL l b f len
        exact h w H' l2 b2 ⟨a, ew, hn, f2, o.lat (Lat.sub up) rfl⟩
    | exc c ds q' =>
      rw [e] at h
      dsimp only at h
      intro d' σ' H' l b f x
      have lx : Lat (Ow σ' q') H' (Ow (σ' ++ List.replicate d.nps none) (q' ++ List.replicate d.nps .no)) H' := Lat.sub fun b z => ext_ow.mp z
      have bx : BKs σ' q' (σ' ++ List.replicate d.nps none) (q' ++ List.replicate d.nps .no) := fun i ⟨t, h1, h2⟩ => by
        rcases ext_slot h1 with h1 | h1
        · refine ⟨⟨t, h1, h2⟩, ?_⟩
          rw [List.getElem?_append_left (by rw [f.len]; exact (List.getElem?_eq_some_iff.mp h1).1)]
        · subst h1; cases h2
      obtain ⟨f2, l2, b2, up⟩ := cutL (l.trans lx) (b.trans bx) (f.ext d.nps) (by rw [List.length_append, List.length_replicate]; omega)
      exact h d' H' l2 b2 f2 (x.lat (Lat.sub fun b z => by
        rcases up b z with z | z
        · exact .inl z
        · exact .inr (ext_ow.mp z)))
/-! ### constructors -/
structure KP (σ : Sg) (q : Fm) (H H' : Hp) (x dx : Addr) : Prop where
  kp : ∀ b o, H b = some o → ¬ Ow σ q b → b ≠ x → b ≠ dx → NT o → H' b = some o
  tr : ∀ b, H b ≠ none → H' b ≠ none
def AnM (Z : Zc) (E : XK) (C : Addr) (R0 : Pr) (σ : Sg) (q : Fm) (H : Hp) (x dx : Addr) (D : Ends) : Res (List M.D) → Prop
  | .ok ds _ => ∀ w σ' H', KP σ q H H' x dx → Grd Z H' → H' x = some (SlO x C dx [some w]) → H' dx = some (.xd []) → RepL Z H' R0 [w] ds → D.nx σ' H'
  | .exc c ds _ => ∀ d H', KP σ q H H' x dx → Grd Z H' → XRep Z H' R0 c ds d → E (.ref (Z.C c)) d H'
  | .bad => False
/-- self stands at x, nothing stored as yet -/
structure Raw (C : Addr) (R0 : Pr) (σ : Sg) (H : Hp) (x dx : Addr) : Prop where
  s0 : σ[0]? = some (some (.ref x))
  hx : H x = some (.ins C dx [])
  hd : H dx = some (.own x)
  ne : dx ≠ x
  nx : R0 x
  nd : R0 dx
def tC (Z : Zc) (K : Calls) (E : XK) (C : Addr) (pre : Ss) (e : M.E) : TS := fun D σ H => ∃ R0 q x dx, FR Z R0 σ q H ∧ Raw C R0 σ H x dx ∧ AnM Z E C R0 σ q H x dx D (evM K e pre q)
def MC (W : Wo) (X : Cx) (ex : XK) (C : Addr) (st : List Stmt) (pre : Ss) (e : M.E) : Prop := PSs X st (tC W.Z W.K ex C pre e)
section
variable {Z : Zc} {K : Calls} {ex : XK} {R0 : Pr} {σ : Sg} {q : Fm} {H : Hp} {D : Ends} {C : Addr} {x dx : Addr} {e : M.E}
theorem Raw.not (r : Raw C R0 σ H x dx) (f : FR Z R0 σ q H) : ¬ Ow σ q x ∧ ¬ Ow σ q dx := by
  constructor <;> intro z
  · obtain ⟨xs, h⟩ := f.owT z
    rw [r.hx] at h; cases h
  · obtain ⟨xs, h⟩ := f.owT z
    rw [r.hd] at h; cases h
theorem KP.late {σ' : Sg} {q' : Fm} {H1 H' : Hp} (l : Lat (Ow σ q) H (Ow σ' q') H1) (k : KP σ' q' H1 H' x dx) : KP σ q H H' x dx := ⟨fun b o h n h1 h2 nt => k.kp b o (l.kp b o h n nt) (fun z => by
  rcases l.nw b z with z | z
  · exact n z
  · rw [h] at z; cases z) h1 h2 nt, fun b h => k.tr b (l.tr b h)⟩
theorem AnM.late {σ' : Sg} {q' : Fm} {H1 : Hp} (l : Lat (Ow σ q) H (Ow σ' q') H1) : ∀ {r : Res (List M.D)}, AnM Z ex C R0 σ q H x dx D r → AnM Z ex C R0 σ' q' H1 x dx D r
  | .ok _ _, h => fun w s2 H' k => h w s2 H' (KP.late l k)
  | .exc _ _ _, h => fun d H' k => h d H' (KP.late l k)
  | .bad, h => h
theorem tC_cons {s : S} {r : Ss} (h : tC Z K ex C (.cons s r) e D σ H) : tSeq (tS Z K ex s) (tC Z K ex C r e) D σ H := by
  obtain ⟨R0, q, x, dx, f, rw0, h⟩ := h
  refine ⟨R0, q, f, ?_⟩
  rw [show evM K e (.cons s r) q = (match evS K s q with
    | .nx q1 => if isPin q1[0]? then evM K e r q1 else .bad
    | .exc c ds q1 => .exc c ds q1
    | _ => .bad) from rfl] at h
  obtain ⟨n1, n2⟩ := rw0.not f
  cases e1 : evS K s q with
  | nx q1 =>
    rw [e1] at h
    intro σ' H' l b f'
    dsimp only at h
    cases hp : isPin q1[0]? with
    | false => rw [hp] at h; exact h.elim
    | true =>
      rw [hp] at h
      have hb : bor q1 0 := by
        unfold isPin at hp
        split at hp
        · rename_i heq
          exact ⟨.pin, heq, rfl⟩
        · cases hp
      refine ⟨R0, q1, x, dx, f', ⟨(b 0 hb).2.trans rw0.s0, l.kp _ _ rw0.hx n1 (fun _ z => nomatch z), l.kp _ _ rw0.hd n2 (fun _ z => nomatch z), rw0.ne, rw0.nx, rw0.nd⟩, AnM.late l h⟩
  | exc c ds q1 =>
    rw [e1] at h
    intro d σ' H' l b f' xr
    exact h d H' ⟨fun b o hb n _ _ nt => l.kp b o hb n nt, l.tr⟩ f'.tb (xr.lat (Lat.sub fun b z => .inl z))
  | bad => rw [e1] at h; exact h.elim
  | ret _ _ => rw [e1] at h; exact h.elim
  | brk _ => rw [e1] at h; exact h.elim
  | cnt _ => rw [e1] at h; exact h.elim
theorem tC_nil {K2 : PySem.W.Frag} {fn : Str} {p : Addr} (hK : K2 = Z.K) (sc : SCls Z.K C) (sl : Slot1 Z.K C fn p 0) (h : tC Z K ex C .nil e D σ H) : sSl K2 (tVar 0) (tE Z K ex e false) fn D σ H := by
  subst hK
  obtain ⟨R0, q, x, dx, f, rw0, h⟩ := h
  rw [show evM K e .nil q = bindR (ev K e false q) fun r q1 => match r.vd with
    | some d => .ok [d] q1
    | none => .bad from rfl] at h
  refine ⟨R0, q, f, ?_⟩
  obtain ⟨n1, n2⟩ := rw0.not f
  cases e1 : ev K e false q with
  | bad => rw [e1] at h; exact h.elim
  | exc c ds q1 =>
    rw [e1] at h
    intro d H' l b f' xr
    exact h d H' ⟨fun b o hb n _ _ nt => l.kp b o hb n nt, l.tr⟩ f'.tb (xr.lat (Lat.sub fun b z => .inl z))
  | ok r q1 =>
    rw [e1] at h
    have h : AnM Z ex C R0 σ q H x dx D (match r.vd with
      | some d => .ok [d] q1
      | none => .bad) := h
    intro w H' l b pv
    cases e2 : r.vd with
    | none => rw [e2] at h; exact h.elim
    | some d =>
      rw [e2] at h
      obtain ⟨f1, rv⟩ := pv.vd f e2
      have hx := l.kp _ _ rw0.hx n1 (fun _ z => nomatch z)
      have hd := l.kp _ _ rw0.hd n2 (fun _ z => nomatch z)
      have trS : ∀ b, H' b ≠ none → slH H' x C dx [some w] b ≠ none := fun b hb => by
        by_cases h1 : b = x
        · rw [h1]; unfold slH; rw [upd_same]; exact fun z => nomatch z
        · by_cases h2 : b = dx
          · rw [h2]; unfold slH; rw [upd_ne rw0.ne, upd_same]; exact fun z => nomatch z
          · rw [slH_ne h1 h2]; exact hb
      refine ⟨.ref x, rw0.s0, x, C, dx, p, [], 0, rfl, .inl ⟨hx, rfl⟩, sc, sl, h w σ _ ⟨fun b o hb n h1 h2 nt => ?_, fun b hb => trS b (l.tr b hb)⟩ (f1.tb.up fun b o hb g => ?_) ?_ ?_ (.cons ?_ .nil)⟩
      · rw [slH_ne h1 h2]; exact l.kp b o hb n nt
      · rw [slH_ne (fun z => by rw [z, hx] at hb; cases hb; exact g.ins rfl) (fun z => by rw [z, hd] at hb; cases hb; exact g.own rfl)]; exact hb
      · unfold slH; rw [upd_same]; rfl
      · unfold slH; rw [upd_ne rw0.ne, upd_same]
      · have lr : Lat (Rt R0 σ q1) H' R0 H' := Lat.sub fun b z => .inl z
        refine (rv.lat lr).lat ⟨fun b o hb n _ => ?_, fun b z => .inl z, trS⟩
        rw [slH_ne (fun z => n (by rw [z]; exact rw0.nx)) (fun z => n (by rw [z]; exact rw0.nd))]; exact hb
end
/-- a class: its __init__ -/
theorem mc_nil {W : Wo} {X : Cx} {ex : XK} {n c : Nat} {fn : Str} {A : M.E} {a : Expr} {x : Str} {p1 p2 pos : Pos} (g : Gd W n X ex) (S : Sd W c fn 0) (ha : ME W X ex a A) (hN : X.N[0]? = some x := by rfl) (hv : Vis X.env.scope x := by first | exact Or.inl rfl | exact Or.inr (Or.inl rfl) | exact Or.inr (Or.inr rfl)) (hd : (x == ("__debug__" : Str)) = false := by decide)
    (hcd : (x == ("__classdict__" : Str)) = false := by decide) (hs : swapsWith a (some (.Attribute (.Name x p1) fn p2)) pos.line X.env = pure false := by rfl) : MC W X ex (W.Z.C c) [.Assign [.Attribute (.Name x p1) fn p2] a pos] .nil A := by
  obtain ⟨p, sl⟩ := S.sl
  exact (pss_one (ps_sl (pe_var hN hv hd hcd) (ha false) hs)).imp fun _ _ _ h => tC_nil g.hK S.sc sl h
theorem mc_cons {W : Wo} {X : Cx} {ex : XK} {C : Addr} {st : Stmt} {sts : List Stmt} {s : S} {r : Ss} {e : M.E} (h1 : MS W X ex st s) (h2 : MC W X ex C sts r e) : MC W X ex C (st :: sts) (.cons s r) e := (pss_cons h1 h2).imp fun _ _ _ h => tC_cons h
theorem ini_ok {W : Wo} {n : Nat} {K' : Calls} {c : Nat} {d : CDef} {N ps : List Str} {x qual : Str} {st : Stmt} {f : Addr} {fd : FuncData} (hK : ∀ as, K'.cn c as = runM W.K d as) (Fu : L2.Fun W.Z.K x qual st f fd) (S : FnScope N ps (defScope st)) (hN : N.length = d.nN) (hp : ps.length = d.nps)
    (body : ∀ cdv A outer s H E, Gd W n (cxF W N qual (defScope st) f cdv A outer s H E) E → MC W (cxF W N qual (defScope st) f cdv A outer s H E) E (W.Z.C c) (defBody st) d.pre d.fs) : FnA W.P W.w W.Z.K W.mg W.base (L2.CX W.P W.w) (n + 1) f fd ps (spC W.Z K' c) := by
  have hlen : ∀ {vs H Q E}, spC W.Z K' c vs H Q E → vs.length = d.nps := fun {vs H Q E} h => by
    obtain ⟨x, dx, vs', R0, q, rfl, hx, hd, ne, r1, r2, f0, no, h⟩ := h
    rw [hK] at h
    unfold runM at h
    by_cases hl : q.length + 1 = d.nps
    · rw [List.length_cons, ← hl, ← f0.len, List.length_map]
    · rw [if_neg hl] at h; exact h.elim
  refine fnA_of Fu S (fun vs H Q E h => (hlen h).trans hp.symm) fun cdv A outer s H vs Q E qu hr h => ⟨tC W.Z W.K E (W.Z.C c) d.pre d.fs, body cdv A outer s H E (gd_cx S qu hr), ?_⟩
  have hl := hlen h
  obtain ⟨x, dx, vs', R0, q, rfl, hx, hd, ne, r1, r2, f0, no, h⟩ := h
  rw [hK] at h
  unfold runM at h
  have hq : q.length + 1 = d.nps := by rw [← hl, List.length_cons, ← f0.len, List.length_map]
  rw [if_pos hq] at h
  have hk : N.length - (V.ref x :: vs').length = d.nN - d.nps := by rw [hN, hl]
  have es : L2.start N (V.ref x :: vs') = (some (V.ref x) :: vs'.map some) ++ List.replicate (d.nN - d.nps) none := by
    unfold L2.start
    rw [hk]; rfl
  rw [es]
  have nOw : ∀ b, ¬ Ow ((some (V.ref x) :: vs'.map some) ++ List.replicate (d.nN - d.nps) none) ((Slot.pin :: q) ++ List.replicate (d.nN - d.nps) .no) b := fun b z => by
    obtain ⟨i, b', dd, h1, _⟩ := pin_ow.mp (ext_ow.mp z)
    exact no i b' dd h1
  refine ⟨R0, (Slot.pin :: q) ++ List.replicate (d.nN - d.nps) .no, x, dx, (f0.pin _).ext _, ⟨rfl, hx, hd, ne, r1, r2⟩, ?_⟩
  cases e : evM W.K d.fs d.pre (.pin :: q ++ List.replicate (d.nN - d.nps) .no) with
  | bad => rw [e] at h; exact h.elim
  | exc c' ds q' =>
    rw [e] at h
    intro dd H' k gr x2
    exact h dd H' ⟨fun b o hb n1 n2 nt => k.kp b o hb (nOw b) n1 n2 nt, k.tr⟩ gr x2
  | ok ds q' =>
    rw [e] at h
    intro w σ' H' k gr h1 h2 h3
    exact h [w] H' ⟨fun b o hb n1 n2 nt => k.kp b o hb (nOw b) n1 n2 nt, k.tr⟩ gr h1 h2 h3
end M

set_option Elab.async false
set_option linter.all false
set_option maxRecDepth 100000
set_option maxHeartbeats 4000000
/-! B1: list(zip(*rows)), rows of one length. -/
namespace M
open PySem L2 PyProof.Rows

theorem wpAny_forIn_b {α β : Type} {Mo : Model} {A : Around} {E : Value → Shared → Prop} {f : α → β → Sem (ForInStep β)} (I : Nat → β → Shared → Prop) {Q : β → Shared → Prop} : ∀ (l : List α) (j : Nat) (b : β) (s : Shared), I j b s →
    (∀ k x b s, l[k]? = some x → I (j + k) b s → wpAny Mo A (f x b) (fun r s' => ∃ b', r = .yield b' ∧ I (j + k + 1) b' s') E s) → (∀ b s, I (j + l.length) b s → Q b s) → wpAny Mo A (forIn l b f) Q E s
  | [], j, b, s, h, _, k => by
    rw [List.forIn_nil]
    exact wpAny_pure (k b s h)
  | x :: l, j, b, s, h, st, k => by
    rw [List.forIn_cons]
    refine wpAny_bind (wpAny_mono (st 0 x b s rfl h) (fun r s' hr => ?_) fun _ _ z => z)
    obtain ⟨b', rfl, h'⟩ := hr
    exact wpAny_forIn_b I l (j + 1) b' s' h' (fun i y b2 s2 e h2 => by
      have := st (i + 1) y b2 s2 (by simpa using e) (by rw [show j + (i + 1) = j + 1 + i by omega]; exact h2)
      rw [show j + 1 + i + 1 = j + (i + 1) + 1 by omega]
      exact this) (fun b2 s2 h2 => k b2 s2 (by rw [List.length_cons, show j + (l.length + 1) = j + 1 + l.length by omega]; exact h2))
structure Src where
  b : Bool
  a : Addr
  items : Array Value
def TupAt (h : Heap) (T : Addr) (vs : Array Value) : Prop := h.get? T = some { cls := .type "tuple", data := .seq vs }
def itsL (N n : Nat) : List Value := (List.range n).map fun k => .ref (N + k)
def Lo (N : Nat) (rows : List Src) : Prop := ∀ (k : Nat) (r : Src), rows[k]? = some r → r.a < N
def Rs (h : Heap) (N : Nat) (rows : List Src) (pos : Nat → Nat) : Prop := ∀ (k : Nat) (r : Src), rows[k]? = some r → IterX r.b h (N + k) r.a (pos k) ∧ SeqX r.b h r.a r.items
theorem itsL_len (N n : Nat) : (itsL N n).length = n := by unfold itsL; simp
theorem itsL_at {N n k : Nat} {x : Value} (h : (itsL N n)[k]? = some x) : x = .ref (N + k) ∧ k < n := by
  unfold itsL at h
  rw [List.getElem?_map] at h
  cases e : (List.range n)[k]? with
  | none => rw [e] at h; cases h
  | some j =>
    rw [e] at h
    obtain ⟨h1, h2⟩ := List.getElem?_eq_some_iff.mp e
    have : j = k := by simpa using h2.symm
    subst this
    exact ⟨(Option.some.inj h).symm, by simpa using h1⟩
theorem SeqX.at_ {b : Bool} {h h' : Heap} {a : Addr} {items : Array Value} (x : SeqX b h a items) (k : ∀ o, h.get? a = some o → h'.get? a = some o) : SeqX b h' a items := by
  cases b with
  | true => exact Heap.IsTuple.at x k
  | false => exact Heap.IsList.at x k
section
variable {prog : Program} {w : World} {A : Around} {E : Value → Shared → Prop} {s : Shared} {N n i : Nat} {rows : List Src}
/-- the zip over n rows: its iterators at N .., then TI, TO, the zip -/
structure ZS (h : Heap) (N : Nat) (rows : List Src) (pos : Nat → Nat) : Prop where
  ti : TupAt h (N + rows.length) (itsL N rows.length).toArray
  rs : Rs h N rows pos
  lo : Lo N rows
abbrev ZAt (h : Heap) (N n : Nat) (f0 : Value) : Prop := IsZip h (N + n + 2) (N + n) (N + n + 1) f0
/-- one iterator goes on -/
theorem Rs.step {h h' : Heap} {k : Nat} {r : Src} {pos : Nat → Nat} (z : Rs h N rows pos) (lo : Lo N rows) (e : rows[k]? = some r) (st : IterX r.b h' (N + k) r.a (pos k + 1)) (sb : Heap.SameBut (N + k) h h') :
    Rs h' N rows (fun j => if j = k then pos k + 1 else pos j) := fun j r2 e2 => by
  obtain ⟨h1, h2⟩ := z j r2 e2
  have hk : r2.a ≠ N + k := Nat.ne_of_lt (Nat.lt_of_lt_of_le (lo j r2 e2) (Nat.le_add_right _ _))
  refine ⟨?_, h2.at_ fun o q => sb.extBut _ _ hk q⟩
  by_cases hj : j = k
  · subst hj
    rw [e] at e2; cases e2
    show IterX r.b h' (N + j) r.a (if j = j then pos j + 1 else pos j)
    rw [if_pos rfl]; exact st
  · show IterX r2.b h' (N + j) r2.a (if j = k then pos k + 1 else pos j)
    rw [if_neg hj]
    have hj2 : N + j ≠ N + k := fun z => hj (Nat.add_left_cancel z)
    exact h1.at_ fun o q => sb.extBut _ _ hj2 q
theorem Rs.over {h h' : Heap} {pos : Nat → Nat} {x : Addr} (z : Rs h N rows pos) (lo : Lo N rows) (sb : ∀ b o, b ≠ x → h.get? b = some o → h'.get? b = some o) (hx : N + rows.length ≤ x) : Rs h' N rows pos := fun j r e => by
  obtain ⟨h1, h2⟩ := z j r e
  have hj : j < rows.length := (List.getElem?_eq_some_iff.mp e).1
  have h3 : (r.a : Nat) < N := lo j r e
  have e1 : (N + j : Nat) ≠ x := fun z => by rw [← z] at hx; exact absurd hx (by omega)
  have e2 : r.a ≠ x := Nat.ne_of_lt (Nat.lt_of_lt_of_le h3 (Nat.le_trans (Nat.le_add_right _ _) hx))
  exact ⟨h1.at_ fun o q => sb _ _ e1 q, h2.at_ fun o q => sb _ _ e2 q⟩
theorem small_size {k : Nat} (h : k ≤ 1000) : k ≤ sizeLine := Nat.le_trans h (by decide)
theorem updSeqT {T : Addr} {xs : Array Value} {k : Nat} {x : Value} {Q : Unit → Shared → Prop} (hT : TupAt s.heap T xs) (hx : xs.size ≤ 1000) (h : ∀ h', TupAt h' T (xs.setIfInBounds k x) → Heap.SameBut T s.heap h' → Q () { s with heap := h' }) :
    wpAny (model prog w) A (updateSeq T (·.setIfInBounds k x)) Q E s := by
  refine wpAny_updateSeq hT rfl (h _ ?_ (Heap.SameBut.update ..)) (small_size hx) (by show (xs.setIfInBounds k x).size ≤ sizeLine + 1; rw [Array.size_setIfInBounds]; exact Nat.le_succ_of_le (small_size hx))
  show _ = _
  rw [Heap.get?_update_self _ hT rfl]
  simp [Obj.mapSeq]
/-- the first turn: the zip's own tuple goes -/
theorem zipN_first {Q : Value → Shared → Prop} (hh : A.handled = none) (hn : rows ≠ []) (hsz : rows.length ≤ 1000) (Z : ZS s.heap N rows fun _ => i) (hz : ZAt s.heap N rows.length .none) {vs : Array Value} (hT : TupAt s.heap (N + rows.length + 1) vs) (hv : vs.size = rows.length) (hi : ∀ r, r ∈ rows → i < r.items.size)
    (hQ : ∀ xs h' tk, xs.size = rows.length → (∀ (k : Nat) (r : Src), rows[k]? = some r → xs[k]? = r.items[i]?) → ZAt h' N rows.length (rawInt s.heap.objs.size) → ZS h' N rows (fun _ => i + 1) → TupAt h' s.heap.objs.size xs → h'.objs.size = s.heap.objs.size + 1 →
      (∀ c o, c < N ∨ N + rows.length + 2 < c → s.heap.get? c = some o → h'.get? c = some o) → Q (.ref s.heap.objs.size) { s with heap := h', toks := tk }) :
    wpAny (model prog w) A (Builtin.«zip.__next__» ⟨[.ref (N + rows.length + 2)], []⟩) (fun fin s' => ∃ v, fin = .done (.ret v) ∧ Q v s') E s := by
  obtain ⟨hp, g, d, tk0, os⟩ := s
  have a1 : (N + rows.length : Nat) ≠ N + rows.length + 2 := by omega
  have a2 : (N + rows.length + 1 : Nat) ≠ N + rows.length + 2 := by omega
  have a3 : (N + rows.length : Nat) ≠ N + rows.length + 1 := by omega
  have hlo : ∀ c : Nat, c < N ∨ N + rows.length + 2 < c → c ≠ N + rows.length + 2 ∧ c ≠ N + rows.length + 1 ∧ ∀ k, k < rows.length → c ≠ N + k := fun c hc => by
    refine ⟨by omega, by omega, fun k hk => by omega⟩
  show wpAny _ _ (field (.ref (N + rows.length + 2)) 2 >>= _) _ _ _
  refine wpAny_bind (wpAny_field hz rfl (x := .bool false) rfl ?_)
  show wpAny _ _ (field (.ref (N + rows.length + 2)) 3 >>= _) _ _ _
  refine wpAny_bind (wpAny_field hz rfl (x := .ref (N + rows.length)) rfl ?_)
  refine wpAny_bind (wpAny_seqItems Z.ti rfl ?_)
  have hne : (itsL N rows.length).toArray.isEmpty = false := by
    cases rows with
    | nil => exact absurd rfl hn
    | cons r l => simp [itsL]
  simp only [hne, Bool.false_eq_true, if_false]
  show wpAny _ _ (Builtin.SmallTypes.ownedTupleIsFree (.ref (N + rows.length + 2)) >>= _) _ _ _
  refine wpAny_bind ?_
  unfold Builtin.SmallTypes.ownedTupleIsFree
  refine wpAny_bind (wpAny_field hz rfl (x := .none) rfl (wpAny_pure ?_))
  simp only [if_true]
  refine wpAny_bind (wpAny_rule ?_)
  refine wpAny_bind (wpAny_field hz rfl (x := .ref (N + rows.length + 1)) rfl ?_)
  refine wpAny_bind (wpAny_setField_rec hz (by simp) fun g0 hz0 hs0 => ?_)
  replace hz0 : ZAt g0 N rows.length .ellipsis := hz0
  replace hs0 : Heap.SameBut (N + rows.length + 2) hp g0 := hs0
  refine wpAny_bind ?_
  refine wpAny_forIn_b (fun k b s' => b = ⟨none, ⟨⟩⟩ ∧ ∃ h' tk xs, s' = ⟨h', g, d, tk, os⟩ ∧ ZAt h' N rows.length .ellipsis ∧ TupAt h' (N + rows.length) (itsL N rows.length).toArray ∧ TupAt h' (N + rows.length + 1) xs ∧ xs.size = rows.length ∧
    (∀ (j : Nat) (r : Src), j < k → rows[j]? = some r → xs[j]? = r.items[i]?) ∧ Rs h' N rows (fun j => if j < k then i + 1 else i) ∧ h'.objs.size = hp.objs.size ∧ ∀ (c : Nat) o, c < N ∨ N + rows.length + 2 < c → hp.get? c = some o → h'.get? c = some o) _ 0 _ _ ?_ ?_ ?_
  · refine ⟨rfl, g0, tk0, vs, rfl, hz0, hs0.extBut _ _ a1 Z.ti, hs0.extBut _ _ a2 hT, hv, fun j r hj => absurd hj (Nat.not_lt_zero _), ?_, hs0.1, fun c o hc e => hs0.extBut _ _ (hlo c hc).1 e⟩
    exact Z.rs.over Z.lo (fun b o hb e => hs0.extBut _ _ hb e) (Nat.le_add_right _ _)
  · rintro k ⟨x, k'⟩ b s2 hk ⟨rfl, h', tk, xs, rfl, y1, y2, y3, y4, y5, y6, y7, y8⟩
    rw [Nat.zero_add] at y5 y6
    have hk2 : k' = k ∧ x = .ref (N + k) ∧ k < rows.length := by
      rw [List.getElem?_zipIdx] at hk
      cases e : (itsL N rows.length).toArray.toList[k]? with
      | none => rw [e] at hk; cases hk
      | some y =>
        rw [e] at hk
        obtain ⟨e1, e2⟩ := itsL_at (by simpa using e)
        have := Option.some.inj hk
        injection this with z1 z2
        exact ⟨by omega, z1.symm.trans e1, e2⟩
    obtain ⟨rfl, rfl, hlt⟩ := hk2
    obtain ⟨r, hr⟩ : ∃ r, rows[k']? = some r := ⟨rows[k'], by simp [hlt]⟩
    have hil : i < r.items.size := hi r (List.mem_of_getElem? hr)
    obtain ⟨it0, sq0⟩ := y6 k' r hr
    have it0 : IterX r.b h' (N + k') r.a i := by simpa using it0
    have hra : r.a ≠ N + k' := Nat.ne_of_lt (Nat.lt_of_lt_of_le (Z.lo k' r hr) (Nat.le_add_right _ _))
    have b1 : (N + rows.length : Nat) ≠ N + k' := by omega
    have b2 : (N + rows.length + 1 : Nat) ≠ N + k' := by omega
    have b3 : (N + rows.length + 2 : Nat) ≠ N + k' := by omega
    refine wpAny_bind (wpAny_onRaise ?_)
    show wpAny _ _ (Builtin.SmallTypes.nextOf (.ref (N + k')) >>= _) _ _ ⟨h', g, d, tk, os⟩
    refine wpAny_bind ((drawsX r.b hh (N + k') r.a hra r.items).item i _ _ _ hil ⟨it0, sq0⟩ fun x1 h1 tk1 hx1 sn1 hp1 => wpAny_pure ?_)
    replace hp1 : Heap.SameBut (N + k') h' h1 := hp1
    have t1 : TupAt h1 (N + rows.length + 1) xs := hp1.extBut _ _ b2 y3
    refine wpAny_bind (wpAny_seqItems (s := ⟨h1, g, d, tk1, os⟩) t1 rfl ?_)
    refine wpAny_bind (updSeqT (s := ⟨h1, g, d, tk1, os⟩) t1 (by rw [y4]; exact hsz) fun h2 t2 s2 => ?_)
    replace s2 : Heap.SameBut (N + rows.length + 1) h1 h2 := s2
    refine wpAny_bind (wpAny_letGo (wpAny_pure ⟨_, rfl, rfl, h2, tk1, _, rfl, ?_, ?_, t2, ?_, ?_, ?_, ?_, ?_⟩))
    · exact s2.extBut _ _ (Ne.symm a2) (hp1.extBut _ _ b3 y1)
    · exact s2.extBut _ _ a3 (hp1.extBut _ _ b1 y2)
    · rw [Array.size_setIfInBounds]; exact y4
    · intro j r2 hj hr2
      rw [Nat.zero_add] at hj
      rw [Array.getElem?_setIfInBounds]
      by_cases e : k' = j
      · subst e
        rw [hr] at hr2; cases hr2
        rw [if_pos rfl, if_pos (by rw [y4]; exact hlt)]
        exact hx1.symm
      · rw [if_neg e]
        exact y5 j r2 (by omega) hr2
    · have z1 := y6.step Z.lo hr (h' := h1) (by simpa using sn1.1) hp1
      have z2 := z1.over (h' := h2) (x := N + rows.length + 1) Z.lo (fun b o hb e => s2.extBut _ _ hb e) (Nat.le_add_right _ _)
      intro j r2 hr2
      obtain ⟨w1, w2⟩ := z2 j r2 hr2
      refine ⟨?_, w2⟩
      have e : (if j = k' then (if k' < k' then i + 1 else i) + 1 else if j < k' then i + 1 else i) = if j < 0 + k' + 1 then i + 1 else i := by
        by_cases e1 : j = k'
        · subst e1; simp
        · rw [if_neg e1]
          by_cases e2 : j < k'
          · rw [if_pos e2, if_pos (by omega)]
          · rw [if_neg e2, if_neg (by omega)]
      show IterX r2.b h2 (N + j) r2.a (if j < 0 + k' + 1 then i + 1 else i)
      rw [← e]
      exact w1
    · rw [s2.1, hp1.1]; exact y7
    · intro c o hc e
      exact s2.extBut _ _ (hlo c hc).2.1 (hp1.extBut _ _ ((hlo c hc).2.2 k' hlt) (y8 c o hc e))
  · rintro b s2 ⟨rfl, h', tk, xs, rfl, y1, y2, y3, y4, y5, y6, y7, y8⟩
    have hlen : 0 + (itsL N rows.length).toArray.toList.zipIdx.length = rows.length := by simp [itsL_len]
    rw [hlen] at y5 y6
    show wpAny _ _ (seqItems? (.ref (N + rows.length + 1)) >>= _) _ _ ⟨h', g, d, tk, os⟩
    refine wpAny_bind (wpAny_seqItems (s := ⟨h', g, d, tk, os⟩) y3 rfl ?_)
    refine wpAny_bind (wpAny_newTuple ?_ (by rw [Array.length_toList, y4]; exact small_size hsz))
    show wpAny _ _ (Builtin.SmallTypes.ownedTupleHandOut (.ref (N + rows.length + 2)) (.ref h'.objs.size) >>= _) _ _ ⟨h'.push { cls := .type "tuple", data := .seq xs.toList.toArray }, g, d, tk, os⟩
    refine wpAny_bind ?_
    unfold Builtin.SmallTypes.ownedTupleHandOut
    have hz₆ : ZAt (h'.push { cls := .type "tuple", data := .seq xs.toList.toArray }) N rows.length .ellipsis := Heap.get?_push_of_some _ y1
    refine wpAny_bind (wpAny_setField_rec hz₆ (by simp) fun h₇ hz₇ hs₇ => ?_)
    replace hz₇ : ZAt h₇ N rows.length (rawInt h'.objs.size) := hz₇
    refine wpAny_setField_rec hz₇ (by simp) fun h₈ hz₈ hs₈ => ?_
    replace hz₈ : ZAt h₈ N rows.length (rawInt h'.objs.size) := hz₈
    replace hs₇ : Heap.SameBut (N + rows.length + 2) (h'.push { cls := .type "tuple", data := .seq xs.toList.toArray }) h₇ := hs₇
    replace hs₈ : Heap.SameBut (N + rows.length + 2) h₇ h₈ := hs₈
    have up : ∀ c o, c ≠ N + rows.length + 2 → h'.get? c = some o → h₈.get? c = some o := fun c o c1 e => hs₈.extBut _ _ c1 (hs₇.extBut _ _ c1 (Heap.get?_push_of_some _ e))
    have hzlt : N + rows.length + 2 < h'.objs.size := Heap.lt_size y1
    have hT₈ : TupAt h₈ h'.objs.size xs := hs₈.extBut _ _ (Nat.ne_of_gt hzlt) (hs₇.extBut _ _ (Nat.ne_of_gt hzlt) (by
      have := Heap.get?_push_size h' (o := { cls := .type "tuple", data := .seq xs.toList.toArray }) rfl
      simpa using this))
    have hz8 : h₈.objs.size = h'.objs.size + 1 := by rw [hs₈.1, hs₇.1, Heap.size_push]
    rw [y7] at hz₈ hT₈ hz8
    refine wpAny_pure ⟨_, rfl, ?_⟩
    show Q (.ref h'.objs.size) ⟨h₈, g, d, tk, os⟩
    rw [y7]
    refine hQ xs h₈ tk y4 (fun k r hr => y5 k r (List.getElem?_eq_some_iff.mp hr).1 hr) hz₈ ⟨up _ _ a1 y2, ?_, Z.lo⟩ hT₈ hz8 fun c o hc e => up c o (hlo c hc).1 (y8 c o hc e)
    have z2 := y6.over (h' := h₈) (x := N + rows.length + 2) Z.lo (fun b o hb e => up b o hb e) (Nat.le_add_right _ _)
    intro j r hr
    obtain ⟨w1, w2⟩ := z2 j r hr
    have w1 : IterX r.b h₈ (N + j) r.a (if j < rows.length then i + 1 else i) := w1
    rw [if_pos (List.getElem?_eq_some_iff.mp hr).1] at w1
    exact ⟨w1, w2⟩
/-- a further turn: its tuple is out -/
theorem zipN_held {T : Addr} {oT : Obj} {f : Bool} {Q : Value → Shared → Prop} (hh : A.handled = none) (hn : rows ≠ []) (hsz : rows.length ≤ 1000) (Z : ZS s.heap N rows fun _ => i) (hz : IsZipHeld s.heap (N + rows.length + 2) (N + rows.length) (N + rows.length + 1) T f) (hT : s.heap.get? T = some oT) (hi : ∀ r, r ∈ rows → i < r.items.size)
    (hQ : ∀ xs h' tk, xs.size = rows.length → (∀ (k : Nat) (r : Src), rows[k]? = some r → xs[k]? = r.items[i]?) → IsZipHeld h' (N + rows.length + 2) (N + rows.length) (N + rows.length + 1) T true → ZS h' N rows (fun _ => i + 1) → TupAt h' s.heap.objs.size xs → h'.objs.size = s.heap.objs.size + 1 →
      (∀ c o, c < N ∨ N + rows.length + 2 < c → s.heap.get? c = some o → h'.get? c = some o) → Q (.ref s.heap.objs.size) { s with heap := h', toks := tk }) :
    wpAny (model prog w) A (Builtin.«zip.__next__» ⟨[.ref (N + rows.length + 2)], []⟩) (fun fin s' => ∃ v, fin = .done (.ret v) ∧ Q v s') E s := by
  obtain ⟨hp, g, d, tk0, os⟩ := s
  have a1 : (N + rows.length : Nat) ≠ N + rows.length + 2 := by omega
  have a2 : (N + rows.length + 1 : Nat) ≠ N + rows.length + 2 := by omega
  have hlo : ∀ c : Nat, c < N ∨ N + rows.length + 2 < c → c ≠ N + rows.length + 2 ∧ c ≠ N + rows.length + 1 ∧ ∀ k, k < rows.length → c ≠ N + k := fun c hc => by
    refine ⟨by omega, by omega, fun k hk => by omega⟩
  show wpAny _ _ (field (.ref (N + rows.length + 2)) 2 >>= _) _ _ _
  refine wpAny_bind (wpAny_field hz rfl (x := .bool false) rfl ?_)
  show wpAny _ _ (field (.ref (N + rows.length + 2)) 3 >>= _) _ _ _
  refine wpAny_bind (wpAny_field hz rfl (x := .ref (N + rows.length)) rfl ?_)
  refine wpAny_bind (wpAny_seqItems Z.ti rfl ?_)
  have hne : (itsL N rows.length).toArray.isEmpty = false := by
    cases rows with
    | nil => exact absurd rfl hn
    | cons r l => simp [itsL]
  simp only [hne, Bool.false_eq_true, if_false]
  show wpAny _ _ (Builtin.SmallTypes.ownedTupleIsFree (.ref (N + rows.length + 2)) >>= _) _ _ _
  refine wpAny_bind (wpAny_tupleHeld_zip hz hT fun g0 hz0 hs0 => ?_)
  replace hs0 : Heap.SameBut (N + rows.length + 2) hp g0 := hs0
  simp only [Bool.false_eq_true, if_false]
  refine wpAny_bind ?_
  rw [← Array.forIn_toList]
  refine wpAny_forIn_b (fun k b s' => ∃ h' tk xs, b = ⟨none, xs⟩ ∧ s' = ⟨h', g, d, tk, os⟩ ∧ IsZipHeld h' (N + rows.length + 2) (N + rows.length) (N + rows.length + 1) T true ∧ TupAt h' (N + rows.length) (itsL N rows.length).toArray ∧ xs.size = k ∧
    (∀ (j : Nat) (r : Src), j < k → rows[j]? = some r → xs[j]? = r.items[i]?) ∧ Rs h' N rows (fun j => if j < k then i + 1 else i) ∧ h'.objs.size = hp.objs.size ∧ ∀ (c : Nat) o, c < N ∨ N + rows.length + 2 < c → hp.get? c = some o → h'.get? c = some o) _ 0 _ _ ?_ ?_ ?_
  · refine ⟨g0, tk0, #[], rfl, rfl, hz0, hs0.extBut _ _ a1 Z.ti, rfl, fun j r hj => absurd hj (Nat.not_lt_zero _), ?_, hs0.1, fun c o hc e => hs0.extBut _ _ (hlo c hc).1 e⟩
    exact Z.rs.over Z.lo (fun b o hb e => hs0.extBut _ _ hb e) (Nat.le_add_right _ _)
  · rintro k x b s2 hk ⟨h', tk, xs, rfl, rfl, y1, y2, y4, y5, y6, y7, y8⟩
    rw [Nat.zero_add] at y4 y5 y6
    obtain ⟨rfl, hlt⟩ := itsL_at (show (itsL N rows.length)[k]? = some x by simpa using hk)
    obtain ⟨r, hr⟩ : ∃ r, rows[k]? = some r := ⟨rows[k], by simp [hlt]⟩
    have hil : i < r.items.size := hi r (List.mem_of_getElem? hr)
    obtain ⟨it0, sq0⟩ := y6 k r hr
    have it0 : IterX r.b h' (N + k) r.a i := by simpa using it0
    have hra : r.a ≠ N + k := Nat.ne_of_lt (Nat.lt_of_lt_of_le (Z.lo k r hr) (Nat.le_add_right _ _))
    have b1 : (N + rows.length : Nat) ≠ N + k := by omega
    have b3 : (N + rows.length + 2 : Nat) ≠ N + k := by omega
    refine wpAny_bind (wpAny_holding ?_)
    show wpAny _ _ (Builtin.SmallTypes.nextOf (.ref (N + k)) >>= _) _ _ ⟨h', g, d, tk, os⟩
    refine wpAny_bind ((drawsX r.b hh (N + k) r.a hra r.items).item i _ _ _ hil ⟨it0, sq0⟩ fun x1 h1 tk1 hx1 sn1 hp1 => wpAny_pure (wpAny_pure ?_))
    replace hp1 : Heap.SameBut (N + k) h' h1 := hp1
    refine ⟨_, rfl, h1, tk1, xs.push x1, rfl, rfl, hp1.extBut _ _ b3 y1, hp1.extBut _ _ b1 y2, ?_, ?_, ?_, ?_, ?_⟩
    · rw [Array.size_push, y4, Nat.zero_add]
    · intro j r2 hj hr2
      rw [Nat.zero_add] at hj
      by_cases e : j = k
      · subst e
        rw [hr] at hr2; cases hr2
        have : (xs.push x1)[j]? = some x1 := by rw [← y4, Array.getElem?_push_size]
        rw [this]
        exact hx1.symm
      · rw [Array.getElem?_push_lt (by rw [y4]; omega)]
        have := y5 j r2 (by omega) hr2
        rw [← this]
        exact (Array.getElem?_eq_getElem _).symm
    · have z1 := y6.step Z.lo hr (h' := h1) (by simpa using sn1.1) hp1
      intro j r2 hr2
      obtain ⟨w1, w2⟩ := z1 j r2 hr2
      refine ⟨?_, w2⟩
      have e : (if j = k then (if k < k then i + 1 else i) + 1 else if j < k then i + 1 else i) = if j < 0 + k + 1 then i + 1 else i := by
        by_cases e1 : j = k
        · subst e1; simp
        · rw [if_neg e1]
          by_cases e2 : j < k
          · rw [if_pos e2, if_pos (by omega)]
          · rw [if_neg e2, if_neg (by omega)]
      show IterX r2.b h1 (N + j) r2.a (if j < 0 + k + 1 then i + 1 else i)
      rw [← e]
      exact w1
    · rw [hp1.1]; exact y7
    · intro c o hc e
      exact hp1.extBut _ _ ((hlo c hc).2.2 k hlt) (y8 c o hc e)
  · rintro b s2 ⟨h', tk, xs, rfl, rfl, y1, y2, y4, y5, y6, y7, y8⟩
    have hlen : 0 + (itsL N rows.length).toArray.toList.length = rows.length := by simp [itsL_len]
    rw [hlen] at y4 y5 y6
    show wpAny _ _ (newTuple xs.toList >>= _) _ _ ⟨h', g, d, tk, os⟩
    refine wpAny_bind (wpAny_newTuple ?_ (by rw [Array.length_toList, y4]; exact small_size hsz))
    refine wpAny_pure ⟨_, rfl, ?_⟩
    show Q (.ref h'.objs.size) ⟨h'.push { cls := .type "tuple", data := .seq xs.toList.toArray }, g, d, tk, os⟩
    have hT₈ : TupAt (h'.push { cls := .type "tuple", data := .seq xs.toList.toArray }) h'.objs.size xs := by
      have := Heap.get?_push_size h' (o := { cls := .type "tuple", data := .seq xs.toList.toArray }) rfl
      simpa [TupAt] using this
    have hz8 : (h'.push { cls := .type "tuple", data := .seq xs.toList.toArray }).objs.size = h'.objs.size + 1 := Heap.size_push ..
    rw [y7] at hT₈ hz8 ⊢
    refine hQ xs _ tk y4 (fun k r hr => y5 k r (List.getElem?_eq_some_iff.mp hr).1 hr) (Heap.get?_push_of_some _ y1) ⟨Heap.get?_push_of_some _ y2, ?_, Z.lo⟩ hT₈ hz8 fun c o hc e => Heap.get?_push_of_some _ (y8 c o hc e)
    intro j r hr
    obtain ⟨w1, w2⟩ := y6 j r hr
    have w1 : IterX r.b h' (N + j) r.a (if j < rows.length then i + 1 else i) := w1
    rw [if_pos (List.getElem?_eq_some_iff.mp hr).1] at w1
    exact ⟨w1.at_ fun o q => Heap.get?_push_of_some _ q, w2.at_ fun o q => Heap.get?_push_of_some _ q⟩
theorem itsL_cons {l : List Src} {r : Src} : ∃ tl, itsL N (r :: l).length = .ref N :: tl := by
  refine ⟨(itsL N (r :: l).length).tail, ?_⟩
  unfold itsL
  rw [List.length_cons, List.range_succ_eq_map]
  simp
/-- the end: the first row is done; nothing went ahead -/
theorem zipN_end0 {Q : Fin → Shared → Prop} (hh : A.handled = none) (hn : rows ≠ []) (Z : ZS s.heap N rows fun _ => i) (hz : ZAt s.heap N rows.length .none) {vs : Array Value} (hT : TupAt s.heap (N + rows.length + 1) vs) (hi : ∀ r, r ∈ rows → i = r.items.size)
    (hE : ∀ h' tk e, (∀ (c : Nat) o, c < N ∨ N + rows.length + 2 < c → s.heap.get? c = some o → h'.get? c = some o) → (∃ o, h'.get? e = some o ∧ o.cls = .type "StopIteration") → E (.ref e) { s with heap := h', toks := tk }) :
    wpAny (model prog w) A (Builtin.«zip.__next__» ⟨[.ref (N + rows.length + 2)], []⟩) Q E s := by
  obtain ⟨hp, g, d, tk0, os⟩ := s
  have hlo : ∀ c : Nat, c < N ∨ N + rows.length + 2 < c → c ≠ N + rows.length + 2 ∧ c ≠ N + rows.length + 1 ∧ c ≠ N := fun c hc => by
    refine ⟨by omega, by omega, by omega⟩
  have hzN : (N + rows.length + 2 : Nat) ≠ N := by omega
  show wpAny _ _ (field (.ref (N + rows.length + 2)) 2 >>= _) _ _ _
  refine wpAny_bind (wpAny_field hz rfl (x := .bool false) rfl ?_)
  show wpAny _ _ (field (.ref (N + rows.length + 2)) 3 >>= _) _ _ _
  refine wpAny_bind (wpAny_field hz rfl (x := .ref (N + rows.length)) rfl ?_)
  refine wpAny_bind (wpAny_seqItems Z.ti rfl ?_)
  have hne : (itsL N rows.length).toArray.isEmpty = false := by
    cases rows with
    | nil => exact absurd rfl hn
    | cons r l => simp [itsL]
  simp only [hne, Bool.false_eq_true, if_false]
  show wpAny _ _ (Builtin.SmallTypes.ownedTupleIsFree (.ref (N + rows.length + 2)) >>= _) _ _ _
  refine wpAny_bind ?_
  unfold Builtin.SmallTypes.ownedTupleIsFree
  refine wpAny_bind (wpAny_field hz rfl (x := .none) rfl (wpAny_pure ?_))
  simp only [if_true]
  refine wpAny_bind (wpAny_rule ?_)
  refine wpAny_bind (wpAny_field hz rfl (x := .ref (N + rows.length + 1)) rfl ?_)
  refine wpAny_bind (wpAny_setField_rec hz (by simp) fun g0 hz0 hs0 => ?_)
  replace hz0 : ZAt g0 N rows.length .ellipsis := hz0
  replace hs0 : Heap.SameBut (N + rows.length + 2) hp g0 := hs0
  obtain ⟨r, l, rfl⟩ : ∃ r l, rows = r :: l := by
    cases rows with
    | nil => exact absurd rfl hn
    | cons r l => exact ⟨r, l, rfl⟩
  obtain ⟨tl, htl⟩ := itsL_cons (N := N) (r := r) (l := l)
  obtain ⟨it0, sq0⟩ := Z.rs.over (h' := g0) (x := N + (r :: l).length + 2) Z.lo (fun b o hb e => hs0.extBut _ _ hb e) (Nat.le_add_right _ _) 0 r rfl
  have hra : r.a ≠ N := Nat.ne_of_lt (Z.lo 0 r rfl)
  have hir := hi r List.mem_cons_self
  subst hir
  refine wpAny_bind ?_
  rw [htl, List.zipIdx_cons, List.forIn_cons]
  refine wpAny_bind (wpAny_bind (wpAny_onRaise ?_))
  show wpAny _ _ (Builtin.SmallTypes.nextOf (.ref N) >>= _) _ _ ⟨g0, g, d, tk0, os⟩
  refine wpAny_bind ((drawsX r.b hh N r.a hra r.items).done ⟨g0, g, d, tk0, os⟩ _ _ ⟨it0, sq0⟩ fun q e hq he => ?_)
  replace hq : Heap.ExtBut N g0 q := hq
  obtain ⟨oe, hoe, hce⟩ := he
  replace hoe : q.get? e = some oe := hoe
  have hzq : ZAt q N (r :: l).length .ellipsis := hq _ _ hzN hz0
  have hez : e ≠ N + (r :: l).length + 2 := fun x => by subst x; rw [hzq] at hoe; cases hoe; simp at hce
  refine wpAny_setField_rec (s := ⟨q, g, d, tk0, os⟩) hzq (by simp) fun q' _ hq' => ?_
  replace hq' : Heap.SameBut (N + (r :: l).length + 2) q q' := hq'
  exact hE q' tk0 e (fun c o hc x => hq'.extBut _ _ (hlo c hc).1 (hq _ _ (hlo c hc).2.2 (hs0.extBut _ _ (hlo c hc).1 x))) ⟨oe, hq'.extBut _ _ hez hoe, hce⟩
theorem zipN_endH {T : Addr} {oT : Obj} {f : Bool} {Q : Fin → Shared → Prop} (hh : A.handled = none) (hn : rows ≠ []) (Z : ZS s.heap N rows fun _ => i) (hz : IsZipHeld s.heap (N + rows.length + 2) (N + rows.length) (N + rows.length + 1) T f) (hT : s.heap.get? T = some oT) (hi : ∀ r, r ∈ rows → i = r.items.size)
    (hE : ∀ h' tk e, (∀ (c : Nat) o, c < N ∨ N + rows.length + 2 < c → s.heap.get? c = some o → h'.get? c = some o) → (∃ o, h'.get? e = some o ∧ o.cls = .type "StopIteration") → E (.ref e) { s with heap := h', toks := tk }) :
    wpAny (model prog w) A (Builtin.«zip.__next__» ⟨[.ref (N + rows.length + 2)], []⟩) Q E s := by
  obtain ⟨hp, g, d, tk0, os⟩ := s
  have hlo : ∀ c : Nat, c < N ∨ N + rows.length + 2 < c → c ≠ N + rows.length + 2 ∧ c ≠ N + rows.length + 1 ∧ c ≠ N := fun c hc => by
    refine ⟨by omega, by omega, by omega⟩
  show wpAny _ _ (field (.ref (N + rows.length + 2)) 2 >>= _) _ _ _
  refine wpAny_bind (wpAny_field hz rfl (x := .bool false) rfl ?_)
  show wpAny _ _ (field (.ref (N + rows.length + 2)) 3 >>= _) _ _ _
  refine wpAny_bind (wpAny_field hz rfl (x := .ref (N + rows.length)) rfl ?_)
  refine wpAny_bind (wpAny_seqItems Z.ti rfl ?_)
  have hne : (itsL N rows.length).toArray.isEmpty = false := by
    cases rows with
    | nil => exact absurd rfl hn
    | cons r l => simp [itsL]
  simp only [hne, Bool.false_eq_true, if_false]
  show wpAny _ _ (Builtin.SmallTypes.ownedTupleIsFree (.ref (N + rows.length + 2)) >>= _) _ _ _
  refine wpAny_bind (wpAny_tupleHeld_zip hz hT fun g0 hz0 hs0 => ?_)
  replace hs0 : Heap.SameBut (N + rows.length + 2) hp g0 := hs0
  simp only [Bool.false_eq_true, if_false]
  obtain ⟨r, l, rfl⟩ : ∃ r l, rows = r :: l := by
    cases rows with
    | nil => exact absurd rfl hn
    | cons r l => exact ⟨r, l, rfl⟩
  obtain ⟨tl, htl⟩ := itsL_cons (N := N) (r := r) (l := l)
  obtain ⟨it0, sq0⟩ := Z.rs.over (h' := g0) (x := N + (r :: l).length + 2) Z.lo (fun b o hb e => hs0.extBut _ _ hb e) (Nat.le_add_right _ _) 0 r rfl
  have hra : r.a ≠ N := Nat.ne_of_lt (Z.lo 0 r rfl)
  have hir := hi r List.mem_cons_self
  subst hir
  refine wpAny_bind ?_
  rw [← Array.forIn_toList, show (itsL N (r :: l).length).toArray.toList = .ref N :: tl from htl, List.forIn_cons]
  refine wpAny_bind (wpAny_bind (wpAny_holding ?_))
  show wpAny _ _ (Builtin.SmallTypes.nextOf (.ref N) >>= _) _ _ ⟨g0, g, d, tk0, os⟩
  refine wpAny_bind ((drawsX r.b hh N r.a hra r.items).done ⟨g0, g, d, tk0, os⟩ _ _ ⟨it0, sq0⟩ fun q e hq he => ?_)
  replace hq : Heap.ExtBut N g0 q := hq
  exact hE q tk0 e (fun c o hc x => hq _ _ (hlo c hc).2.2 (hs0.extBut _ _ (hlo c hc).1 x)) he
end
/-! ### pyNext -/
section
variable {prog : Program} {w : World} {A : Around} {E : Value → Shared → Prop} {s : Shared} {N n i : Nat} {rows : List Src}
theorem nextN_first {Q : Option Value → Shared → Prop} (hh : A.in1.handled = none) (hn : rows ≠ []) (hsz : rows.length ≤ 1000) (Z : ZS s.heap N rows fun _ => i) (hz : ZAt s.heap N rows.length .none) {vs : Array Value} (hT : TupAt s.heap (N + rows.length + 1) vs) (hv : vs.size = rows.length) (hi : ∀ r, r ∈ rows → i < r.items.size)
    (hQ : ∀ xs h' tk, xs.size = rows.length → (∀ (k : Nat) (r : Src), rows[k]? = some r → xs[k]? = r.items[i]?) → ZAt h' N rows.length (rawInt s.heap.objs.size) → ZS h' N rows (fun _ => i + 1) → TupAt h' s.heap.objs.size xs → h'.objs.size = s.heap.objs.size + 1 →
      (∀ c o, c < N ∨ N + rows.length + 2 < c → s.heap.get? c = some o → h'.get? c = some o) → Q (some (.ref s.heap.objs.size)) { s with heap := h', toks := tk }) :
    wpAny (model prog w) A (pyNext (.ref (N + rows.length + 2))) Q E s := by
  have hTy : s.TypeIs (.ref (N + rows.length + 2)) "zip" := ⟨_, hz, rfl⟩
  unfold pyNext
  exact wpAny_bind (wpAny_attempt (wpAny_callSpecial?_slot (name := Str.ofString "__next__") hTy F.slot_zip_next
    (wpAny_call_entry F.slot_zip_next hTy F.entry_zip_next
      (zipN_first hh hn hsz Z hz hT hv hi fun xs h' tk a1 a2 a3 a4 a5 a6 a7 => wpAny_pure (hQ xs h' tk a1 a2 a3 a4 a5 a6 a7)) (F.args_zip_next_1 _))))
theorem nextN_held {T : Addr} {oT : Obj} {f : Bool} {Q : Option Value → Shared → Prop} (hh : A.in1.handled = none) (hn : rows ≠ []) (hsz : rows.length ≤ 1000) (Z : ZS s.heap N rows fun _ => i) (hz : IsZipHeld s.heap (N + rows.length + 2) (N + rows.length) (N + rows.length + 1) T f) (hT : s.heap.get? T = some oT) (hi : ∀ r, r ∈ rows → i < r.items.size)
    (hQ : ∀ xs h' tk, xs.size = rows.length → (∀ (k : Nat) (r : Src), rows[k]? = some r → xs[k]? = r.items[i]?) → IsZipHeld h' (N + rows.length + 2) (N + rows.length) (N + rows.length + 1) T true → ZS h' N rows (fun _ => i + 1) → TupAt h' s.heap.objs.size xs → h'.objs.size = s.heap.objs.size + 1 →
      (∀ c o, c < N ∨ N + rows.length + 2 < c → s.heap.get? c = some o → h'.get? c = some o) → Q (some (.ref s.heap.objs.size)) { s with heap := h', toks := tk }) :
    wpAny (model prog w) A (pyNext (.ref (N + rows.length + 2))) Q E s := by
  have hTy : s.TypeIs (.ref (N + rows.length + 2)) "zip" := ⟨_, hz, rfl⟩
  unfold pyNext
  exact wpAny_bind (wpAny_attempt (wpAny_callSpecial?_slot (name := Str.ofString "__next__") hTy F.slot_zip_next
    (wpAny_call_entry F.slot_zip_next hTy F.entry_zip_next
      (zipN_held hh hn hsz Z hz hT hi fun xs h' tk a1 a2 a3 a4 a5 a6 a7 => wpAny_pure (hQ xs h' tk a1 a2 a3 a4 a5 a6 a7)) (F.args_zip_next_1 _))))
theorem nextN_end0 {Q : Option Value → Shared → Prop} (hh : A.in1.handled = none) (hn : rows ≠ []) (Z : ZS s.heap N rows fun _ => i) (hz : ZAt s.heap N rows.length .none) {vs : Array Value} (hT : TupAt s.heap (N + rows.length + 1) vs) (hi : ∀ r, r ∈ rows → i = r.items.size)
    (hQ : ∀ h' tk, (∀ (c : Nat) o, c < N ∨ N + rows.length + 2 < c → s.heap.get? c = some o → h'.get? c = some o) → Q none { s with heap := h', toks := tk }) : wpAny (model prog w) A (pyNext (.ref (N + rows.length + 2))) Q E s := by
  have hTy : s.TypeIs (.ref (N + rows.length + 2)) "zip" := ⟨_, hz, rfl⟩
  unfold pyNext
  refine wpAny_bind (wpAny_attempt (wpAny_callSpecial?_slot (name := Str.ofString "__next__") hTy F.slot_zip_next
    (wpAny_call_entry F.slot_zip_next hTy F.entry_zip_next (zipN_end0 hh hn Z hz hT hi fun h' tk e hk he => ?_) (F.args_zip_next_1 _))))
  obtain ⟨o, ho, hc⟩ := he
  refine wpAny_bind (wpAny_isInstance (T := "StopIteration") (b := true) ⟨o, ho, hc⟩ isSubtype_stop ?_)
  exact wpAny_pure (hQ _ _ hk)
theorem nextN_endH {T : Addr} {oT : Obj} {f : Bool} {Q : Option Value → Shared → Prop} (hh : A.in1.handled = none) (hn : rows ≠ []) (Z : ZS s.heap N rows fun _ => i) (hz : IsZipHeld s.heap (N + rows.length + 2) (N + rows.length) (N + rows.length + 1) T f) (hT : s.heap.get? T = some oT) (hi : ∀ r, r ∈ rows → i = r.items.size)
    (hQ : ∀ h' tk, (∀ (c : Nat) o, c < N ∨ N + rows.length + 2 < c → s.heap.get? c = some o → h'.get? c = some o) → Q none { s with heap := h', toks := tk }) : wpAny (model prog w) A (pyNext (.ref (N + rows.length + 2))) Q E s := by
  have hTy : s.TypeIs (.ref (N + rows.length + 2)) "zip" := ⟨_, hz, rfl⟩
  unfold pyNext
  refine wpAny_bind (wpAny_attempt (wpAny_callSpecial?_slot (name := Str.ofString "__next__") hTy F.slot_zip_next
    (wpAny_call_entry F.slot_zip_next hTy F.entry_zip_next (zipN_endH hh hn Z hz hT hi fun h' tk e hk he => ?_) (F.args_zip_next_1 _))))
  obtain ⟨o, ho, hc⟩ := he
  refine wpAny_bind (wpAny_isInstance (T := "StopIteration") (b := true) ⟨o, ho, hc⟩ isSubtype_stop ?_)
  exact wpAny_pure (hQ _ _ hk)
end
end M

set_option Elab.async false
set_option linter.all false
set_option maxRecDepth 100000
set_option maxHeartbeats 4000000
/-! B2: the zip begins; the list that takes it. -/
namespace M
open PySem L2 PyProof.Rows
section
variable {prog : Program} {w : World} {A : Around} {E : Value → Shared → Prop} {s : Shared} {N n i : Nat} {rows : List Src}
def usOf (rows : List Src) : List Value := rows.map fun r => .ref r.a
theorem itsL_succ (N k : Nat) : itsL N (k + 1) = itsL N k ++ [.ref (N + k)] := by
  unfold itsL
  rw [List.range_succ, List.map_append]; rfl
theorem iterAllN {hp : Heap} {g : Array GenState} {d : Drawn} {tk : Nat} {os : OsState} {Q : List Value → Shared → Prop} (hs : ∀ r, r ∈ rows → SeqX r.b hp r.a r.items)
    (hQ : ∀ h', (∀ (k : Nat) (r : Src), rows[k]? = some r → IterX r.b h' (hp.objs.size + k) r.a 0) → h'.objs.size = hp.objs.size + rows.length → (∀ c o, hp.get? c = some o → h'.get? c = some o) → Q (itsL hp.objs.size rows.length) ⟨h', g, d, tk, os⟩) :
    wpAny (model prog w) A (Builtin.SmallTypes.iterAll (usOf rows)) Q E ⟨hp, g, d, tk, os⟩ := by
  unfold Builtin.SmallTypes.iterAll
  refine wpAny_bind ?_
  refine wpAny_forIn_b (fun k b s' => b = (itsL hp.objs.size k).toArray ∧ ∃ h', s' = ⟨h', g, d, tk, os⟩ ∧ (∀ (j : Nat) (r : Src), j < k → rows[j]? = some r → IterX r.b h' (hp.objs.size + j) r.a 0) ∧ h'.objs.size = hp.objs.size + k ∧ ∀ c o, hp.get? c = some o → h'.get? c = some o) _ 0 _ _ ?_ ?_ ?_
  · exact ⟨rfl, hp, rfl, fun j r hj => absurd hj (Nat.not_lt_zero _), rfl, fun _ _ e => e⟩
  · rintro k x b s2 hk ⟨rfl, h', rfl, y1, y2, y3⟩
    rw [Nat.zero_add] at y1 y2 ⊢
    unfold usOf at hk
    rw [List.getElem?_map] at hk
    cases hr : rows[k]? with
    | none => rw [hr] at hk; cases hk
    | some r =>
      rw [hr] at hk
      have hx : x = .ref r.a := (Option.some.inj hk).symm
      subst hx
      obtain ⟨o, B, g1⟩ := beginsX r.b r.a r.items
      refine wpAny_bind (wpAny_holding (B.iter prog w _ _ ⟨h', g, d, tk, os⟩ _ ((hs r (List.mem_of_getElem? hr)).at_ fun o q => y3 _ _ q) ?_))
      refine wpAny_pure ⟨_, rfl, ?_, h'.push o, rfl, fun j r2 hj hr2 => ?_, ?_, fun c o2 e => Heap.get?_push_of_some _ (y3 c o2 e)⟩
      · show (itsL hp.objs.size k).toArray.push (Value.ref h'.objs.size) = _
        rw [itsL_succ, y2]
        simp
      · by_cases e : j = k
        · subst e
          rw [hr] at hr2; cases hr2
          refine g1 _ _ ?_
          rw [← y2]
          exact Heap.get?_push_size _ B.free
        · exact (y1 j r2 (by omega) hr2).at_ fun o q => Heap.get?_push_of_some _ q
      · rw [Heap.size_push, y2]; omega
  · rintro b s2 ⟨rfl, h', rfl, y1, y2, y3⟩
    have hl : 0 + (usOf rows).length = rows.length := by unfold usOf; simp
    rw [hl] at y1 y2 ⊢
    refine wpAny_pure ?_
    have : (itsL hp.objs.size rows.length).toArray.toList = itsL hp.objs.size rows.length := by simp
    rw [this]
    exact hQ h' (fun k r hr => y1 k r (List.getElem?_eq_some_iff.mp hr).1 hr) y2 y3
abbrev zH (h' : Heap) (N n : Nat) : Heap := ((h'.push { cls := .type "tuple", data := .seq (itsL N n).toArray }).push { cls := .type "tuple", data := .seq ((itsL N n).map fun _ => Value.none).toArray }).push { cls := .type "zip", data := .fields #[.none, .bool false, .bool false, .ref h'.objs.size, .ref (h'.push { cls := .type "tuple", data := .seq (itsL N n).toArray }).objs.size] }
theorem meets_zipN (rows : List Src) (hn : rows.length ≤ 1000) : Meets (Builtin.«zip.__new__» ⟨.type "zip" :: usOf rows, []⟩) (fun _ R s => (∀ r, r ∈ rows → SeqX r.b s.heap r.a r.items) ∧
    ∀ h', (∀ (k : Nat) (r : Src), rows[k]? = some r → IterX r.b h' (s.heap.objs.size + k) r.a 0) → h'.objs.size = s.heap.objs.size + rows.length → (∀ c o, s.heap.get? c = some o → h'.get? c = some o) →
      R (.ok (.ret (.ref ((h'.push { cls := .type "tuple", data := .seq (itsL s.heap.objs.size rows.length).toArray }).push { cls := .type "tuple", data := .seq ((itsL s.heap.objs.size rows.length).map fun _ => Value.none).toArray }).objs.size))) { s with heap := zH h' s.heap.objs.size rows.length }) :=
  .of_wp fun prog w A R s h => by
    obtain ⟨hp, g, d, tk, os⟩ := s
    obtain ⟨h1, h⟩ := h
    have hsub := sub_zip
    have hlen : (itsL hp.objs.size rows.length).length ≤ sizeLine := by rw [itsL_len]; exact small_size hn
    have hlen2 : ((itsL hp.objs.size rows.length).map fun _ => Value.none).length ≤ sizeLine := by rw [List.length_map, itsL_len]; exact small_size hn
    have key : ∀ {A' : Around} {E : Value → Shared → Prop} {Q : Fin → Shared → Prop}, (∀ h', (∀ (k : Nat) (r : Src), rows[k]? = some r → IterX r.b h' (hp.objs.size + k) r.a 0) → h'.objs.size = hp.objs.size + rows.length → (∀ c o, hp.get? c = some o → h'.get? c = some o) →
        Q (.done (.ret (.ref ((h'.push { cls := .type "tuple", data := .seq (itsL hp.objs.size rows.length).toArray }).push { cls := .type "tuple", data := .seq ((itsL hp.objs.size rows.length).map fun _ => Value.none).toArray }).objs.size))) ⟨zH h' hp.objs.size rows.length, g, d, tk, os⟩) →
        wpAny (model prog w) A' (do
          let its ← Builtin.SmallTypes.iterAll (usOf rows)
          ret (← Builtin.SmallTypes.newRecord (.type "zip") (Builtin.SmallTypes.ownedTupleFields ++ [.bool false, ← newTuple its, ← newTuple (its.map fun _ => .none)]))) Q E ⟨hp, g, d, tk, os⟩ := fun {A' E Q} k => by
      refine wpAny_bind (iterAllN h1 fun h' y1 y2 y3 => ?_)
      refine wpAny_bind (wpAny_newTuple ?_ hlen)
      refine wpAny_bind (wpAny_newTuple ?_ hlen2)
      refine wpAny_bind ?_
      unfold Builtin.SmallTypes.newRecord
      refine wpAny_newObj_type ?_ (by show (5 : Nat) ≤ sizeLine + 2; decide)
      exact wpAny_pure (k h' y1 y2 y3)
    have fin := key (A' := A.in1) (E := fun e s' => R (.error e) s') (Q := fun fin s' => ∃ v, fin = .done (.ret v) ∧ R (.ok (.ret v)) s') fun h' y1 y2 y3 => ⟨_, rfl, h h' y1 y2 y3⟩
    unfold Builtin.«zip.__new__»
    refine wpAny_bind ?_
    unfold Builtin.SmallTypes.newClass
    show wpAny _ _ (isType (.type "zip") >>= _) _ _ _
    refine wpAny_bind (wpAny_of_eq (a := true) rfl ?_)
    show wpAny _ _ (isSubtype (.type "zip") (.type "zip") >>= _) _ _ _
    refine wpAny_bind (wpAny_of_eq hsub ?_)
    refine wpAny_pure ?_
    exact fin
theorem typeCall_zip_1 (a : Value) : checkTypeCall "zip" ⟨[a], []⟩ = pure () := by kernel_rfl
theorem newCall_zip_1 (a : Value) : checkBuiltinCall "zip.__new__" ⟨[.type "zip", a], []⟩ = pure () := by kernel_rfl
theorem typeCall_zip_4 (a b c d : Value) : checkTypeCall "zip" ⟨[a, b, c, d], []⟩ = pure () := by kernel_rfl
theorem newCall_zip_4 (a b c d : Value) : checkBuiltinCall "zip.__new__" ⟨[.type "zip", a, b, c, d], []⟩ = pure () := by kernel_rfl
theorem args_object_init_5 (obj a b c d : Value) : argsOk "object.__init__" ⟨[obj, a, b, c, d], []⟩ := by unfold argsOk; kernel_rfl
theorem zip_checks {us : List Value} (h0 : us ≠ []) (h4 : us.length ≤ 4) : checkTypeCall "zip" ⟨us, []⟩ = pure () ∧ checkBuiltinCall "zip.__new__" ⟨.type "zip" :: us, []⟩ = pure () ∧ ∀ obj, argsOk "object.__init__" ⟨obj :: us, []⟩ := by
  match us, h0, h4 with
  | [a], _, _ => exact ⟨typeCall_zip_1 a, newCall_zip_1 a, fun obj => F.args_object_init_2 obj a⟩
  | [a, b], _, _ => exact ⟨F.typeCall_zip_2 a b, F.newCall_zip_2 a b, fun obj => F.args_object_init_3 obj a b⟩
  | [a, b, c], _, _ => exact ⟨F.typeCall_zip_3 a b c, F.newCall_zip_3 a b c, fun obj => F.args_object_init_4 obj a b c⟩
  | [a, b, c, d], _, _ => exact ⟨typeCall_zip_4 a b c d, newCall_zip_4 a b c d, fun obj => args_object_init_5 obj a b c d⟩
  | _ :: _ :: _ :: _ :: _ :: _, _, h => exact absurd h (by simp only [List.length_cons]; omega)
/-- zip(r1, .., rn), n up to 4 -/
theorem zip_beginsN {Q : Value → Shared → Prop} (h0 : rows ≠ []) (h4 : rows.length ≤ 4) (hs : ∀ r, r ∈ rows → SeqX r.b s.heap r.a r.items) (lo : Lo s.heap.objs.size rows)
    (h : ∀ h' vs, ZAt h' s.heap.objs.size rows.length .none → ZS h' s.heap.objs.size rows (fun _ => 0) → TupAt h' (s.heap.objs.size + rows.length + 1) vs → vs.size = rows.length → h'.objs.size = s.heap.objs.size + rows.length + 3 → (∀ c o, s.heap.get? c = some o → h'.get? c = some o) →
      Q (.ref (s.heap.objs.size + rows.length + 2)) { s with heap := h' }) : wpAny (model prog w) A (call (.type "zip") (usOf rows)) Q E s := by
  have hu : (usOf rows).length = rows.length := by unfold usOf; simp
  obtain ⟨c1, c2, c3⟩ := zip_checks (us := usOf rows) (fun z => h0 (by
    cases rows with
    | nil => rfl
    | cons r l => cases z)) (by rw [hu]; exact h4)
  refine callType_new F.called_zip (by decide) c1 c2 c3 F.entry_zip_new (meets_zipN rows (by omega)) ⟨hs, fun h' y1 y2 y3 => ?_⟩
  have e1 : (h'.push { cls := .type "tuple", data := .seq (itsL s.heap.objs.size rows.length).toArray }).objs.size = s.heap.objs.size + rows.length + 1 := by rw [Heap.size_push, y2]
  have e2 : ((h'.push { cls := .type "tuple", data := .seq (itsL s.heap.objs.size rows.length).toArray }).push { cls := .type "tuple", data := .seq ((itsL s.heap.objs.size rows.length).map fun _ => Value.none).toArray }).objs.size = s.heap.objs.size + rows.length + 2 := by rw [Heap.size_push, e1]
  have gz := Heap.get?_push_size ((h'.push { cls := .type "tuple", data := .seq (itsL s.heap.objs.size rows.length).toArray }).push { cls := .type "tuple", data := .seq ((itsL s.heap.objs.size rows.length).map fun _ => Value.none).toArray }) (o := { cls := .type "zip", data := .fields #[.none, .bool false, .bool false, .ref h'.objs.size, .ref (h'.push { cls := .type "tuple", data := .seq (itsL s.heap.objs.size rows.length).toArray }).objs.size] }) rfl
  have gO : (zH h' s.heap.objs.size rows.length).get? (h'.push { cls := .type "tuple", data := .seq (itsL s.heap.objs.size rows.length).toArray }).objs.size = some { cls := .type "tuple", data := .seq ((itsL s.heap.objs.size rows.length).map fun _ => Value.none).toArray } := Heap.get?_push_of_some _ (Heap.get?_push_size _ rfl)
  have gT : (zH h' s.heap.objs.size rows.length).get? h'.objs.size = some { cls := .type "tuple", data := .seq (itsL s.heap.objs.size rows.length).toArray } := Heap.get?_push_of_some _ (Heap.get?_push_of_some _ (Heap.get?_push_size _ rfl))
  have up : ∀ c o, h'.get? c = some o → (zH h' s.heap.objs.size rows.length).get? c = some o := fun c o e => Heap.get?_push_of_some _ (Heap.get?_push_of_some _ (Heap.get?_push_of_some _ e))
  have gz' : ZAt (zH h' s.heap.objs.size rows.length) s.heap.objs.size rows.length .none := by
    rw [e2, e1, y2] at gz
    unfold zH
    rw [e1, y2]
    exact gz
  rw [e1] at gO
  rw [y2] at gT
  show _ ∧ _
  rw [e2]
  refine ⟨⟨_, gz', rfl⟩, h _ _ gz' ⟨gT, fun k r hr => ⟨(y1 k r hr).at_ fun o q => up _ _ q, (hs r (List.mem_of_getElem? hr)).at_ fun o q => up _ _ (y3 _ _ q)⟩, lo⟩ gO (by simp [itsL_len]) (by unfold zH; rw [Heap.size_push, e2]) fun c o e => up _ _ (y3 c o e)⟩
end
end M

set_option Elab.async false
set_option linter.all false
set_option maxRecDepth 100000
set_option maxHeartbeats 4000000
/-! B3: list(zip). -/
namespace M
open PySem L2 PyProof.Rows
theorem zip_no_len : typeLookup (.type "zip") "__len__" = pure none := by rw [typeLookup_type, builtinLookup_eq_fast]; kernel_rfl
theorem zip_no_hint : typeLookup (.type "zip") "__length_hint__" = pure none := by rw [typeLookup_type, builtinLookup_eq_fast]; kernel_rfl
section
variable {prog : Program} {w : World} {A : Around} {E : Value → Shared → Prop} {s : Shared} {N n i : Nat} {rows : List Src} {R : Result → Shared → Prop} {S m : Nat}
def LstAt (h : Heap) (S : Addr) (acc : Array Value) : Prop := ∃ c, h.get? S = some { cls := .type "list", dict := none, data := .seq acc c, slots := #[] }
structure XL (hp h : Heap) (N S : Nat) (rows : List Src) (j : Nat) (acc : Array Value) : Prop where
  zs : ZS h N rows (fun _ => j)
  fl : (j = 0 ∧ ZAt h N rows.length .none ∧ ∃ vs, TupAt h (N + rows.length + 1) vs ∧ vs.size = rows.length) ∨ ∃ T oT f, IsZipHeld h (N + rows.length + 2) (N + rows.length) (N + rows.length + 1) T f ∧ h.get? T = some oT ∧ N + rows.length + 2 < T ∧ T ≠ S
  ls : LstAt h S acc
  sz : acc.size = j
  it : ∀ j', j' < j → ∃ (T : Nat) (xs : Array Value), acc[j']? = some (.ref T) ∧ N + rows.length + 2 < T ∧ T ≠ S ∧ TupAt h T xs ∧ xs.size = rows.length ∧ ∀ (k : Nat) (r : Src), rows[k]? = some r → xs[k]? = r.items[j']?
  kp : ∀ (c : Nat) o, c < N → hp.get? c = some o → h.get? c = some o
  hi : N + rows.length + 2 < S
  lt : S < h.objs.size
/-- at the end -/
structure XE (hp h : Heap) (N S : Nat) (rows : List Src) (m : Nat) (acc : Array Value) : Prop where
  ls : LstAt h S acc
  sz : acc.size = m
  it : ∀ j', j' < m → ∃ (T : Nat) (xs : Array Value), acc[j']? = some (.ref T) ∧ N + rows.length + 2 < T ∧ T ≠ S ∧ TupAt h T xs ∧ xs.size = rows.length ∧ ∀ (k : Nat) (r : Src), rows[k]? = some r → xs[k]? = r.items[j']?
  kp : ∀ (c : Nat) o, c < N → hp.get? c = some o → h.get? c = some o
theorem XL.fin {hp h h' : Heap} {j : Nat} {acc : Array Value} (x : XL hp h N S rows j acc) (k : ∀ (c : Nat) o, c < N ∨ N + rows.length + 2 < c → h.get? c = some o → h'.get? c = some o) : XE hp h' N S rows j acc := by
  obtain ⟨c, e⟩ := x.ls
  refine ⟨⟨c, k S _ (.inr x.hi) e⟩, x.sz, fun j' hj => ?_, fun c o hc e => k c o (.inl hc) (x.kp c o hc e)⟩
  obtain ⟨T, xs, y1, y2, y3, y4, y5, y6⟩ := x.it j' hj
  exact ⟨T, xs, y1, y2, y3, k T _ (.inr y2) y4, y5, y6⟩
theorem XL.next {hp h h' h2 : Heap} {j T : Nat} {acc xs : Array Value} (x : XL hp h N S rows j acc) (z : ZS h' N rows (fun _ => j + 1)) (f : ∃ T' oT f, IsZipHeld h' (N + rows.length + 2) (N + rows.length) (N + rows.length + 1) T' f ∧ h'.get? T' = some oT ∧ N + rows.length + 2 < T' ∧ T' ≠ S)
    (hT : TupAt h' T xs) (eT : T = h.objs.size) (hx : xs.size = rows.length) (hxi : ∀ (k : Nat) (r : Src), rows[k]? = some r → xs[k]? = r.items[j]?) (sz : h'.objs.size = h.objs.size + 1) (k : ∀ (c : Nat) o, c < N ∨ N + rows.length + 2 < c → h.get? c = some o → h'.get? c = some o)
    (sb : ∀ b o, b ≠ S → h'.get? b = some o → h2.get? b = some o) (l2 : LstAt h2 S (acc.push (.ref T))) (s2 : h2.objs.size = h'.objs.size) : XL hp h2 N S rows (j + 1) (acc.push (.ref T)) := by
  have hS := x.hi
  have hTS : T ≠ S := by have := x.lt; omega
  have hTN : N + rows.length + 2 < T := by have := x.lt; omega
  refine ⟨⟨sb _ _ (show (N + rows.length : Nat) ≠ S by omega) z.ti, z.rs.over z.lo (fun b o hb e => sb b o hb e) (by omega), z.lo⟩, .inr ?_, l2, by rw [Array.size_push, x.sz], fun j' hj => ?_, fun c o hc e => sb c o (show (c : Nat) ≠ S by omega) (k c o (.inl hc) (x.kp c o hc e)), hS, ?_⟩
  · obtain ⟨T', oT, f, f1, f2, f3, f4⟩ := f
    exact ⟨T', oT, f, sb _ _ (show (N + rows.length + 2 : Nat) ≠ S by omega) f1, sb _ _ f4 f2, f3, f4⟩
  · by_cases e : j' = j
    · subst e
      refine ⟨T, xs, ?_, hTN, hTS, sb _ _ hTS hT, hx, hxi⟩
      rw [← x.sz]
      exact Array.getElem?_push_size
    · obtain ⟨T1, ys, y1, y2, y3, y4, y5, y6⟩ := x.it j' (by omega)
      refine ⟨T1, ys, ?_, y2, y3, sb _ _ y3 (k T1 _ (.inr y2) y4), y5, y6⟩
      have hlt : j' < acc.size := by rw [x.sz]; omega
      rw [Array.getElem?_push_lt hlt, ← y1]
      exact (Array.getElem?_eq_getElem hlt).symm
  · rw [s2, sz]; have := x.lt; omega
theorem updList {acc : Array Value} {v : Value} {Q : Unit → Shared → Prop} (hS : LstAt s.heap S acc) (ha : acc.size ≤ 1000000) (h : ∀ h2, LstAt h2 S (acc.push v) → (∀ b o, b ≠ S → s.heap.get? b = some o → h2.get? b = some o) → h2.objs.size = s.heap.objs.size → Q () { s with heap := h2 }) :
    wpAny (model prog w) A (updateSeq S (·.push v)) Q E s := by
  obtain ⟨c, hS⟩ := hS
  have hz : acc.size ≤ sizeLine := Nat.le_trans ha (by decide)
  refine wpAny_updateSeq hS rfl (h _ ⟨_, Heap.get?_update_self _ hS rfl⟩ (fun b o hb e => (Heap.get?_update_other _ _ (Ne.symm hb)).trans e) ?_) hz (by show (acc.push v).size ≤ sizeLine + 1; rw [Array.size_push]; omega)
  exact (Heap.SameBut.update ..).1
theorem loopZip (hh : A.handled = none) (hn : rows ≠ []) (hsz : rows.length ≤ 1000) (hm : ∀ r, r ∈ rows → r.items.size = m) (hm2 : m ≤ 1000000) (res : Value) {hp : Heap} {g : Array GenState} {d : Drawn} {os : OsState}
    (hR : ∀ h tk acc, XE hp h N S rows m acc → R (.ok (.ret res)) ⟨h, g, d, tk, os⟩) : ∀ (k j : Nat) (h : Heap) (tk : Nat) (acc : Array Value), j + k = m → XL hp h N S rows j acc →
      codeAny (model prog w) A (.builtin "list.extend.loop" ⟨[.ref S, .ref (N + rows.length + 2), res], []⟩) R ⟨h, g, d, tk, os⟩
  | 0, j, h, tk, acc, hk, x => by
    have hj : j = m := by omega
    subst hj
    have hS := x.hi
    refine codeAny_builtin F.entry_extend_loop ?_
    rw [Around.under_plainId F.plain_extend_loop _]
    show wpAny _ A.in1 (pyNext (.ref (N + rows.length + 2)) >>= _) _ _ ⟨h, g, d, tk, os⟩
    have fin : ∀ (h' : Heap) (tk' : Nat), (∀ (c : Nat) o, c < N ∨ N + rows.length + 2 < c → h.get? c = some o → h'.get? c = some o) → R (.ok (.ret res)) ⟨h', g, d, tk', os⟩ := fun h' tk' k => hR h' tk' acc (x.fin k)
    rcases x.fl with ⟨h0, hz, vs, hT, hv⟩ | ⟨T, oT, f, hz, hT, hTn, hTs⟩
    · refine wpAny_bind (nextN_end0 (s := ⟨h, g, d, tk, os⟩) hh hn x.zs hz hT (fun r hr => (hm r hr).symm) fun h' tk' k => ?_)
      exact wpAny_pure (fin h' tk' k)
    · refine wpAny_bind (nextN_endH (s := ⟨h, g, d, tk, os⟩) hh hn x.zs hz hT (fun r hr => (hm r hr).symm) fun h' tk' k => ?_)
      exact wpAny_pure (fin h' tk' k)
  | k + 1, j, h, tk, acc, hk, x => by
    refine codeAny_builtin F.entry_extend_loop ?_
    rw [Around.under_plainId F.plain_extend_loop _]
    show wpAny _ A.in1 (pyNext (.ref (N + rows.length + 2)) >>= _) _ _ ⟨h, g, d, tk, os⟩
    have hS := x.hi
    have hlt := x.lt
    have hsz2 : acc.size ≤ 1000000 := by rw [x.sz]; omega
    have lst : ∀ {h' : Heap}, (∀ (c : Nat) o, c < N ∨ N + rows.length + 2 < c → h.get? c = some o → h'.get? c = some o) → LstAt h' S acc := fun {h'} k => by
      obtain ⟨c, e⟩ := x.ls
      exact ⟨c, k S _ (.inr hS) e⟩
    rcases x.fl with ⟨h0, hz, vs, hT, hv⟩ | ⟨T, oT, f, hz, hT, hTn, hTs⟩
    · refine wpAny_bind (nextN_first (s := ⟨h, g, d, tk, os⟩) hh hn hsz x.zs hz hT hv (fun r hr => by rw [hm r hr]; omega) fun xs h' tk' y1 y2 y3 y4 y5 y6 y7 => ?_)
      show wpAny _ A.in1 (updateSeq S (·.push (.ref h.objs.size)) >>= _) _ _ ⟨h', g, d, tk', os⟩
      refine wpAny_bind (updList (s := ⟨h', g, d, tk', os⟩) (lst y7) hsz2 fun h2 l2 sb s2 => wpAny_pure ⟨plainId_quiet F.plain_extend_loop _, ?_⟩)
      exact loopZip hh hn hsz hm hm2 res hR k (j + 1) h2 tk' _ (by omega) (x.next y4 ⟨h.objs.size, _, false, y3, y5, by show N + rows.length + 2 < h.objs.size; omega, by show (h.objs.size : Nat) ≠ S; omega⟩ y5 rfl y1 y2 y6 y7 sb l2 s2)
    · refine wpAny_bind (nextN_held (s := ⟨h, g, d, tk, os⟩) hh hn hsz x.zs hz hT (fun r hr => by rw [hm r hr]; omega) fun xs h' tk' y1 y2 y3 y4 y5 y6 y7 => ?_)
      show wpAny _ A.in1 (updateSeq S (·.push (.ref h.objs.size)) >>= _) _ _ ⟨h', g, d, tk', os⟩
      refine wpAny_bind (updList (s := ⟨h', g, d, tk', os⟩) (lst y7) hsz2 fun h2 l2 sb s2 => wpAny_pure ⟨plainId_quiet F.plain_extend_loop _, ?_⟩)
      exact loopZip hh hn hsz hm hm2 res hR k (j + 1) h2 tk' _ (by omega) (x.next y4 ⟨T, oT, true, y3, y7 T _ (.inr hTn) hT, hTn, hTs⟩ y5 rfl y1 y2 y6 y7 sb l2 s2)
/-- list(z), z the zip that stands below -/
theorem call_list_zipN {Q : Value → Shared → Prop} {hp : Heap} {vs : Array Value} (hh : A.handled = none) (hn : rows ≠ []) (hsz : rows.length ≤ 1000) (hm : ∀ r, r ∈ rows → r.items.size = m) (hm2 : m ≤ 1000000) (Z : ZS s.heap N rows fun _ => 0) (hz : ZAt s.heap N rows.length .none) (hT : TupAt s.heap (N + rows.length + 1) vs) (hv : vs.size = rows.length)
    (hS : s.heap.objs.size = N + rows.length + 3) (kp : ∀ (c : Nat) o, c < N → hp.get? c = some o → s.heap.get? c = some o)
    (hQ : ∀ h tk acc, XE hp h N s.heap.objs.size rows m acc → Q (.ref s.heap.objs.size) { s with heap := h, toks := tk }) : wpAny (model prog w) A (call (.type "list") [.ref (N + rows.length + 2)]) Q E s := by
  obtain ⟨h0, g, d, tk, os⟩ := s
  have hS : (h0.objs.size : Nat) = N + rows.length + 3 := hS
  refine callType_codes (Q₁ := fun obj s₁ => obj = .ref h0.objs.size ∧ s₁ = ⟨h0.push { cls := .type "list", data := .seq #[] }, g, d, tk, os⟩) F.called_list (F.typeCall_list_1 _) F.entry_list_init
    (code_list_new _ ⟨rfl, rfl⟩) fun obj s₁ h₁ => ?_
  obtain ⟨rfl, rfl⟩ := h₁
  have hL : (h0.push { cls := .type "list", data := .seq #[] }).get? h0.objs.size = some { cls := .type "list", data := .seq #[] } := Heap.get?_push_size _ rfl
  refine ⟨⟨_, hL, rfl⟩, F.args_list_init_2 _ _, ?_⟩
  show wpAny _ A.in1.in1 (do let old ← Builtin.List.listItems (.ref h0.objs.size); Builtin.List.listUpdate (.ref h0.objs.size) (fun _ => #[]); letGo old.toList.reverse; Builtin.List.listExtendWith (.ref h0.objs.size) (.ref (N + rows.length + 2)) .none) _ _ _
  refine wpAny_bind ?_
  unfold Builtin.List.listItems
  refine wpAny_bind (wpAny_seqItems hL rfl (wpAny_pure ?_))
  show wpAny _ A.in1.in1 (updateSeq h0.objs.size (fun _ => #[]) >>= fun _ => letGo (#[] : Array Value).toList.reverse >>= fun _ => Builtin.List.listExtendWith (.ref h0.objs.size) (.ref (N + rows.length + 2)) .none) _ _ _
  refine wpAny_bind (wpAny_updateSeq hL rfl ?_)
  have hS₂ := Heap.get?_update_self (Obj.mapSeq (fun _ => (#[] : Array Value))) hL rfl
  refine wpAny_bind (wpAny_letGo ?_)
  generalize hg1 : (h0.push { cls := .type "list", data := .seq #[] }).update h0.objs.size (Obj.mapSeq (fun _ => (#[] : Array Value))) = g1 at hS₂
  have k1 : ∀ b o, h0.get? b = some o → g1.get? b = some o := fun b o e => by
    rw [← hg1]
    exact (Heap.get?_update_other _ _ (Nat.ne_of_gt (Heap.lt_size e))).trans (Heap.get?_push_of_some _ e)
  have z1 : g1.objs.size = h0.objs.size + 1 := by rw [← hg1, (Heap.SameBut.update ..).1, Heap.size_push]
  have hzz : ZAt g1 N rows.length .none := k1 _ _ hz
  have hTy : (⟨g1, g, d, tk, os⟩ : Shared).TypeIs (.ref (N + rows.length + 2)) "zip" := ⟨_, hzz, rfl⟩
  unfold Builtin.List.listExtendWith
  show wpAny _ A.in1.in1 (typeOf (.ref (N + rows.length + 2)) >>= _) _ _ ⟨g1, g, d, tk, os⟩
  refine wpAny_bind (wpAny_typeOf hTy ?_)
  have hSI : (h0.objs.size : Nat) ≠ N + rows.length + 2 := by omega
  have h1 : Builtin.List.listSameRef (.ref h0.objs.size) (.ref (N + rows.length + 2)) = false := by simp [Builtin.List.listSameRef, hSI]
  have h2 : (Value.type "zip" == Value.type "list") = false := by decide
  have h3 : (Value.type "zip" == Value.type "tuple") = false := by decide
  simp only [h1, h2, h3, Bool.or_false, Bool.false_eq_true, if_false]
  refine wpAny_bind (wpAny_pyIter_zip hzz ?_)
  refine wpAny_bind (wpAny_holding ?_)
  unfold Builtin.List.listLengthHint
  refine wpAny_bind (wpAny_specialOf hTy zip_no_len ?_)
  show wpAny _ A.in1.in1 (specialOf (Value.ref (N + rows.length + 2)) (Str.ofString "__length_hint__") >>= _) _ _ _
  refine wpAny_bind (wpAny_specialOf hTy zip_no_hint ?_)
  refine wpAny_pure ?_
  show wpAny _ A.in1.in1 (rule "list.extend.makes-room" >>= fun _ => Builtin.List.listTouch (.ref h0.objs.size) >>= fun _ =>
    again (.builtin "list.extend.loop" ⟨[.ref h0.objs.size, .ref (N + rows.length + 2), .none], []⟩)) _ _ _
  refine wpAny_bind (wpAny_rule ?_)
  refine wpAny_bind ?_
  show wpAny _ A.in1.in1 (updateSeq h0.objs.size (·.push .none) >>= fun _ => updateSeq h0.objs.size (·.pop)) _ _ ⟨g1, g, d, tk, os⟩
  refine wpAny_bind (wpAny_updateSeq hS₂ rfl ?_)
  have hS₃ := Heap.get?_update_self (Obj.mapSeq (·.push Value.none)) hS₂ rfl
  refine wpAny_updateSeq (hz := by seq_fits) hS₃ rfl ?_
  have hS₄ := Heap.get?_update_self (Obj.mapSeq (·.pop)) hS₃ rfl
  generalize hg2 : (g1.update h0.objs.size (Obj.mapSeq (·.push Value.none))).update h0.objs.size (Obj.mapSeq (·.pop)) = g2 at hS₄
  have k2 : ∀ b o, h0.get? b = some o → g2.get? b = some o := fun b o e => by
    rw [← hg2]
    have nb : h0.objs.size ≠ b := Nat.ne_of_gt (Heap.lt_size e)
    exact (Heap.get?_update_other _ _ nb).trans ((Heap.get?_update_other _ _ nb).trans (k1 b o e))
  have z2 : g2.objs.size = h0.objs.size + 1 := by rw [← hg2, (Heap.SameBut.update ..).1, (Heap.SameBut.update ..).1, z1]
  refine wpAny_pure ⟨plainId_quiet F.plain_extend_loop _, ?_⟩
  refine loopZip (A := A.in1) (S := h0.objs.size) (m := m) (hp := hp) hh hn hsz hm hm2 .none (fun h tk' acc x => ⟨rfl, hQ h tk' acc x⟩) m 0 g2 tk #[] (Nat.zero_add m) ⟨⟨k2 _ _ Z.ti, fun k r hr => ?_, Z.lo⟩, .inl ⟨rfl, k2 _ _ hz, vs, k2 _ _ hT, hv⟩, ⟨_, hS₄⟩, rfl, fun j hj => absurd hj (Nat.not_lt_zero _), fun c o hc e => k2 c o (kp c o hc e), by omega, by rw [z2]; exact Nat.lt_succ_self _⟩
  obtain ⟨w1, w2⟩ := Z.rs k r hr
  exact ⟨w1.at_ fun o q => k2 _ _ q, w2.at_ fun o q => k2 _ _ q⟩
end
end M

set_option Elab.async false
set_option linter.all false
set_option maxRecDepth 100000
set_option maxHeartbeats 4000000
/-! B4: list(zip(*e)) as an expression. -/
namespace M
open PySem L2 PyProof.Rows
section
variable {Mo : Model} {A : Around} {E : Value → Shared → Prop} {s : Shared} {env : Env} {pos p : Pos} {Q : Value → Shared → Prop}
theorem callWith_typeS {T : String} {e : Expr} (h : wpAny Mo A (eval e env) (fun v s₁ => PySem.W.StarOf Mo A E v (fun vs s₂ => wpAny Mo A (call (.type T) vs) Q E s₂) s₁) E s)
    (he : starEach [.Starred e p] env = [(true, eval e env)]) : wpAny Mo A (callWith pos (.type T) [] (backTo pos (starEach [.Starred e p] env)) []) Q E s := by
  rw [he]
  unfold callWith
  refine wpAny_bind (wpAny_holding (wpAny_mono (PySem.W.ks_lone (Q := fun a s₂ => wpAny Mo A (call (.type T) ([] ++ a.pos) a.kw) Q E s₂) h) (fun a s₁ h₁ => wpAny_bind (wpAny_standAt ?_)) fun _ _ x => x))
  have hst : (backTo pos [(true, eval e env)]).any (·.1) = true := rfl
  simp only [hst, Bool.true_or]
  refine wpAny_bind (wpAny_pure ?_)
  have tail : ∀ {t : Sem Value}, wpAny Mo A t Q E s₁ → wpAny Mo A (t >>= fun r => holding [r] point >>= fun _ => pure r) Q E s₁ :=
    fun ht => wpAny_bind (wpAny_mono ht (fun r s₂ hr => wpAny_bind (wpAny_holding (wpAny_point (wpAny_pure hr)))) fun _ _ x => x)
  exact tail (wpAny_operating h₁)
end
theorem vals_ix : ∀ {xs : List V} {us : List Value}, xs.length = us.length → (∀ (k : Nat) x u, xs[k]? = some x → us[k]? = some u → RelV x u) → Vals xs us
  | [], [], _, _ => .nil
  | x :: xs, u :: us, h, r => .cons (r 0 x u rfl rfl) (vals_ix (by simpa using h) fun k y v e1 e2 => r (k + 1) y v (by simpa using e1) (by simpa using e2))
  | [], _ :: _, h, _ => by simp at h
  | _ :: _, [], h, _ => by simp at h
def RowsV (K : PySem.W.Frag) (H : Hp) : List V → List (List V) → Prop
  | [], [] => True
  | v :: vs, xs :: xss => (∃ b r, v = .ref r ∧ SqX b K H r xs) ∧ RowsV K H vs xss
  | _, _ => False
section
variable {X : Cx} {pins : List (Addr × Obj)} {σ : Sg} {H H' : Hp} {s : Shared}
theorem rows_of (I : Inv X pins σ H s) : ∀ {refs : List V} {vss : List (List V)} {us : List Value}, RowsV X.K H refs vss → Vals refs us → ∃ rows : List Src, us = usOf rows ∧ rows.length = vss.length ∧ (∀ r, r ∈ rows → SeqX r.b s.heap r.a r.items ∧ r.a < s.heap.objs.size) ∧ ∀ (k : Nat) xs, vss[k]? = some xs → ∃ r, rows[k]? = some r ∧ Vals xs r.items.toList
  | [], [], _, _, .nil => ⟨[], rfl, rfl, fun r h => by simp at h, fun k xs h => by simp at h⟩
  | v :: vs, xs :: xss, _, ⟨⟨b, a, e, hq⟩, h2⟩, .cons r rr => by
    subst e
    cases r
    obtain ⟨its, rv, p, la⟩ := seqX_of b I hq
    obtain ⟨rows, e1, e2, e3, e4⟩ := rows_of I h2 rr
    subst e1
    refine ⟨⟨b, a, its.toArray⟩ :: rows, rfl, by simp [e2], fun r hr => ?_, fun k ys hk => ?_⟩
    · rcases List.mem_cons.mp hr with rfl | hr
      · exact ⟨p, la⟩
      · exact e3 r hr
    · cases k with
      | zero =>
        have : xs = ys := by simpa using hk
        subst this
        exact ⟨_, rfl, by simpa using rv⟩
      | succ k => exact e4 k ys (by simpa using hk)
  | [], _ :: _, _, h, _ => h.elim
  | _ :: _, [], _, h, _ => h.elim
theorem inv_many {h' : Heap} {tk : Nat} (I : Inv X pins σ H s) (k : ∀ b o, s.heap.get? b = some o → h'.get? b = some o) (sm : Same H H') (fr : ∀ b o, H b = none → H' b = some o → s.heap.get? b = none ∧ ObjOk X.prog X.w H' h' b o) : Inv X pins σ H' { s with heap := h', toks := tk } := by
  refine I.un ⟨fun b o e _ _ _ => k b o e, fun b o e _ _ _ => ⟨o.slots, k b o e⟩, fun b o e n _ => ?_, fun b o e _ => ⟨o, k b o e⟩, fun b xs e => sm b _ e, fun b o u e => sm b _ e, fun b ps e => ⟨#[], by rw [sm b _ e]; simp⟩⟩ fun b u e => ?_
  · cases e2 : H' b with
    | none => rfl
    | some u =>
      have := (fr b u n e2).1
      rw [e] at this; cases this
  · cases e2 : H b with
    | none => exact (fr b u e2 e).2
    | some o =>
      have e3 := sm b o e2
      rw [e] at e3; cases e3
      exact (I.hok b u e2).stay (fun c v _ q => k c v q) (fun c q => sm c _ q) fun c xs q => sm c _ q
end
def colV (vss : List (List V)) (j : Nat) : List V := vss.map fun xs => xs.getD j .non
def tZipS (K : PySem.W.Frag) (te : TE) : TE := fun σ H Q => te σ H fun v H1 => ∃ (a : Addr) (refs : List V) (vss : List (List V)) (m : Nat), v = .ref a ∧ (SqT K H1 a refs ∨ SqL K H1 a refs) ∧ RowsV K H1 refs vss ∧ vss ≠ [] ∧ vss.length ≤ 4 ∧ (∀ xs, xs ∈ vss → xs.length = m) ∧ m ≤ 1000000 ∧
  ∀ (S : Addr) (Ts : List Addr) (H2 : Hp), Ts.length = m → Same H1 H2 → H1 S = none → H2 S = some (.lst (Ts.map V.ref)) → (∀ (j : Nat) T, Ts[j]? = some T → H1 T = none ∧ T ≠ S ∧ H2 T = some (.tup (colV vss j))) → Q (.ref S) H2
theorem pe_zipS {X : Cx} {e : Expr} {te : TE} {p1 p2 p3 p4 pos : Pos} (hgl : Gl X "list") (hml : X.mg "list" = none) (hgz : Gl X "zip") (hmz : X.mg "zip" = none) (hc : X.A.handled = none) (he : PE X e te)
    (hs : starEach [.Call (.Name "zip" p2) [.Starred e p3] [] p4] X.env = (false, eval (.Call (.Name "zip" p2) [.Starred e p3] [] p4) X.env) :: starEach [] X.env) (hs2 : starEach [.Starred e p3] X.env = [(true, eval e X.env)]) :
    PE X (.Call (.Name "list" p1) [.Call (.Name "zip" p2) [.Starred e p3] [] p4] [] pos) (tZipS X.K te) := by
  refine ⟨fun pins s σ H Q I h => ?_⟩
  refine wpAny_Call_Name_kw (ld_blt I hgl hml boot_list ?_)
  refine PyProof.Rows.callWith_type1 ?_ hs rfl
  rw [hs]
  show wpAny _ _ (spliced ((false, eval (.Call (.Name "zip" p2) [.Starred e p3] [] p4) X.env) :: backTo pos (starEach [] X.env))) _ _ s
  refine Calls.spliced_cons ?_
  refine wpAny_Call_Name_kw (ld_blt I hgz hmz PyProof.Rows.boot_zip ?_)
  refine callWith_typeS (thn (he.run pins s σ H _ I h) fun u s1 ⟨v, H1, I1, r1, q1⟩ => ?_) hs2
  obtain ⟨a, refs, vss, m, rfl, hsq, hrows, h0, h4, hm, hm2, q⟩ := q1
  cases r1
  refine StX.star_any I1 hsq fun us s2 I2 rv => ?_
  obtain ⟨rows, rfl, hl, hseq, hval⟩ := rows_of I2 hrows rv
  have r0 : rows ≠ [] := fun z => h0 (List.length_eq_zero_iff.mp (by rw [← hl, z]; rfl))
  have lo : Lo s2.heap.objs.size rows := fun k r hr => (hseq r (List.mem_of_getElem? hr)).2
  have hmr : ∀ r, r ∈ rows → r.items.size = m := fun r hr => by
    obtain ⟨k, hk, e⟩ := List.getElem_of_mem hr
    have hk2 : k < vss.length := by rw [← hl]; exact hk
    obtain ⟨r', e1, e2⟩ := hval k vss[k] (by simp [hk2])
    have : r' = r := by
      have := List.getElem?_eq_some_iff.mp e1
      obtain ⟨_, z⟩ := this
      exact z.symm.trans e
    subst this
    rw [← hm vss[k] (List.getElem_mem hk2), e2.length, Array.length_toList]
  refine zip_beginsN r0 (by rw [hl]; exact h4) (fun r hr => (hseq r hr).1) lo fun h1 vs hz Z hT hv hsz k1 => ?_
  refine Calls.spliced_nil ?_
  refine call_list_zipN (s := { s2 with heap := h1 }) (hp := s2.heap) hc r0 (by rw [hl]; omega) hmr hm2 Z hz hT hv hsz (fun c o _ e => k1 c o e) fun h2 tk acc x => ?_
  have hN : (s2.heap.objs.size : Nat) ≤ h1.objs.size := by rw [hsz]; omega
  have k2 : ∀ b o, s2.heap.get? b = some o → h2.get? b = some o := fun b o e => x.kp b o (Heap.lt_size e) e
  -- the tuples' places
  let Ts : List Addr := acc.toList.map fun v => match v with | .ref a => a | _ => 0
  have hTl : Ts.length = m := by simp [Ts, x.sz]
  have hT0 : ∀ (j : Nat) T, Ts[j]? = some T → acc[j]? = some (.ref T) ∧ (s2.heap.objs.size : Nat) ≤ T ∧ T ≠ h1.objs.size ∧ ∃ xs : Array Value, TupAt h2 T xs ∧ Vals (colV vss j) xs.toList := fun j T e => by
    have hj : j < m := by rw [← hTl]; exact (List.getElem?_eq_some_iff.mp e).1
    obtain ⟨T', xs, y1, y2, y3, y4, y5, y6⟩ := x.it j hj
    have e2 : Ts[j]? = some T' := by
      simp only [Ts, List.getElem?_map, Array.getElem?_toList, y1]
      rfl
    rw [e] at e2; cases e2
    refine ⟨y1, Nat.le_trans (by omega) (Nat.le_of_lt y2), y3, xs, y4, vals_ix (by unfold colV; rw [List.length_map]; exact hl.symm.trans (y5.symm.trans (Array.length_toList (xs := xs)).symm)) fun k v u e3 e4 => ?_⟩
    unfold colV at e3
    rw [List.getElem?_map] at e3
    cases e5 : vss[k]? with
    | none => rw [e5] at e3; cases e3
    | some ys =>
      rw [e5] at e3
      obtain ⟨r, e6, e7⟩ := hval k ys e5
      have e8 := y6 k r e6
      have hjr : j < ys.length := by rw [hm ys (List.mem_of_getElem? e5)]; exact hj
      obtain ⟨u', e9, e10⟩ := e7.get (i := j) (x := ys[j]) (by simp [hjr])
      rw [Array.getElem?_toList] at e4 e9
      rw [e8, e9] at e4; cases e4
      have : ys.getD j .non = ys[j] := by simp [List.getD_eq_getElem?_getD, hjr]
      have e3 : ys.getD j .non = v := Option.some.inj e3
      rw [← e3, this]
      exact e10
  have hfr : ∀ b : Nat, (s2.heap.objs.size : Nat) ≤ b → H1 b = none ∧ s2.heap.get? b = none := fun b hb => ⟨I2.hok.fresh hb, Heap.get?_none_of_le hb⟩
  classical
  let H2 : Hp := fun b => if b = h1.objs.size then some (.lst (Ts.map V.ref)) else if hx : ∃ j : Nat, Ts[j]? = some b then some (.tup (colV vss hx.choose)) else H1 b
  have hH2T : ∀ (j : Nat) T, Ts[j]? = some T → H2 T = some (.tup (colV vss j)) := fun j T e => by
    obtain ⟨y1, y2, y3, xs, y4, y5⟩ := hT0 j T e
    have hx : ∃ j : Nat, Ts[j]? = some T := ⟨j, e⟩
    have hc := hx.choose_spec
    obtain ⟨_, _, _, xs', y4', y5'⟩ := hT0 _ T hc
    have : xs' = xs := by
      have := y4'.symm.trans y4
      injection this with this
      injection this with _ _ this _
      injection this with this
    subst this
    show (if T = h1.objs.size then _ else if hx : ∃ j : Nat, Ts[j]? = some T then some (.tup (colV vss hx.choose)) else H1 T) = _
    rw [if_neg y3, dif_pos hx, y5'.inj y5]
  have hH2S : H2 h1.objs.size = some (.lst (Ts.map V.ref)) := if_pos rfl
  have hsm : Same H1 H2 := fun b o e => by
    have n1 : b ≠ h1.objs.size := fun z => by rw [z, (hfr _ hN).1] at e; cases e
    have n2 : ¬ ∃ j : Nat, Ts[j]? = some b := fun ⟨j, z⟩ => by rw [(hfr b (hT0 j b z).2.1).1] at e; cases e
    show (if b = h1.objs.size then _ else if hx : ∃ j : Nat, Ts[j]? = some b then _ else H1 b) = _
    rw [if_neg n1, dif_neg n2, e]
  have I3 : Inv X pins σ H2 { s2 with heap := h2, toks := tk } := inv_many (tk := tk) I2 k2 hsm fun b o n e => by
    by_cases hb : b = h1.objs.size
    · subst hb
      rw [hH2S] at e; cases e
      obtain ⟨c, hls⟩ := x.ls
      refine ⟨(hfr _ hN).2, ?_, acc.toList, c, vals_ix (by rw [List.length_map, hTl]; exact x.sz.symm.trans (Array.length_toList (xs := acc)).symm) fun k v u e3 e4 => ?_, by simpa using hls⟩
      · rw [List.length_map, hTl]; exact Nat.le_trans hm2 (by decide)
      · rw [List.getElem?_map] at e3
        cases e5 : Ts[k]? with
        | none => rw [e5] at e3; cases e3
        | some T =>
          rw [e5] at e3; cases e3
          have := (hT0 k T e5).1
          rw [Array.getElem?_toList, this] at e4; cases e4
          exact rfl
    · by_cases hx : ∃ j : Nat, Ts[j]? = some b
      · obtain ⟨j, hj⟩ := hx
        rw [hH2T j b hj] at e; cases e
        obtain ⟨y1, y2, y3, xs, y4, y5⟩ := hT0 j b hj
        refine ⟨(hfr b y2).2, ?_, xs.toList, y5, ⟨_, y4, rfl, _, rfl⟩⟩
        unfold colV
        rw [List.length_map]
        exact Nat.le_trans h4 (by decide)
      · have e : (if b = h1.objs.size then some (HO.lst (Ts.map V.ref)) else if hx : ∃ j : Nat, Ts[j]? = some b then some (.tup (colV vss hx.choose)) else H1 b) = some o := e
        rw [if_neg hb, dif_neg hx, n] at e
        cases e
  exact ⟨.ref h1.objs.size, H2, I3, rfl, q h1.objs.size Ts H2 hTl hsm (hfr _ hN).1 hH2S fun j T e => ⟨(hfr T (hT0 j T e).2.1).1, (hT0 j T e).2.2.1, hH2T j T e⟩⟩
/-! ### the reading -/
section
variable {Z : Zc} {H : Hp} {R : Pr}
theorem rowsOf_rep : ∀ {ds : List D} {rs : List (List D)} {vs : List V}, rowsOf ds = some rs → RepL Z H R vs ds → ∃ vss, RowsV Z.K H vs vss ∧ vss.length = rs.length ∧ ∀ (k : Nat) r, rs[k]? = some r → ∃ xs, vss[k]? = some xs ∧ RepL Z H R xs r
  | [], rs, _, h, r => by
    cases r; cases h
    exact ⟨[], True.intro, rfl, fun k r h => by simp at h⟩
  | d :: ds, rs, _, h, r => by
    cases r with
    | @cons v vs _ _ r1 r2 =>
      unfold rowsOf at h
      cases e1 : seqD d with
      | none => rw [e1] at h; cases h
      | some x =>
        cases e2 : rowsOf ds with
        | none => rw [e1, e2] at h; cases h
        | some l =>
          rw [e1, e2] at h; cases h
          obtain ⟨b, a, xs, rfl, h1, h2⟩ := rep_seq r1 e1
          obtain ⟨vss, h3, h4, h5⟩ := rowsOf_rep e2 r2
          refine ⟨xs :: vss, ⟨⟨b, a, rfl, h1.sq⟩, h3⟩, by simp [h4], fun k r hk => ?_⟩
          cases k with
          | zero => exact ⟨xs, rfl, by simpa using (show x = r by simpa using hk) ▸ h2⟩
          | succ k => exact h5 k r (by simpa using hk)
theorem repL_ix : ∀ {xs : List V} {ds : List D}, xs.length = ds.length → (∀ (k : Nat) x d, xs[k]? = some x → ds[k]? = some d → Rep Z H R x d) → RepL Z H R xs ds
  | [], [], _, _ => .nil
  | x :: xs, d :: ds, h, r => .cons (r 0 x d rfl rfl) (repL_ix (by simpa using h) fun k y e e1 e2 => r (k + 1) y e (by simpa using e1) (by simpa using e2))
  | [], _ :: _, h, _ => by simp at h
  | _ :: _, [], h, _ => by simp at h
end
theorem starR_rep {Z : Zc} {R0 : Pr} {s : Sg} {q q1 : Fm} {H H1 : Hp} {w : V} {a : RV} {l : List D} (f0 : FR Z R0 s q H) (p : PoV Z R0 s H q1 H1 w a) (e : starR a q1 = some l) : FR Z R0 s q1 H1 ∧ ∃ p xs, w = V.ref p ∧ (SqT Z.K H1 p xs ∨ SqL Z.K H1 p xs) ∧ RepL Z H1 (Rt R0 s q1) xs l := by
  obtain ⟨f1, p1⟩ := p.down f0
  refine ⟨f1, ?_⟩
  unfold starR at e
  cases e1 : a.at_ q1 with
  | none => rw [e1] at e; cases e
  | some d =>
    rw [e1] at e
    have e1' : a.down.at_ q1 = some d := by rw [← e1]; cases a <;> rfl
    rcases RepR.at_ f1 p1 e1' with ⟨ds, a', xs, rfl, rfl, h1, h2, _⟩ | h1
    · cases e; exact ⟨a', xs, rfl, .inr h1, h2⟩
    · cases h1 with
      | tup h1 h2 => cases e; exact ⟨_, _, rfl, .inl h1.sq, h2⟩
      | lst h1 h2 => cases e; exact ⟨_, _, rfl, .inr h1.sq, h2⟩
      | _ => cases e
theorem tE_zipS {Z : Zc} {K : Calls} {ex : XK} {s : Sg} {H : Hp} {e : E} {pk : Bool} {Q : VK} (h : tE Z K ex (.zipS e) pk s H Q) : tZipS Z.K (tE Z K ex e true) s H Q := by
  unfold tE at h
  rw [show ev K (.zipS e) pk = fun q => bindR (ev K e true q) fun r q1 => match starR r q1 with
    | some l => match zipSR l with
      | some cs => .ok (.new (.lst cs)) q1
      | none => .bad
    | none => .bad from rfl] at h
  refine TR.bind h fun R0 q q1 a w H1 f0 l b p z => ?_
  cases e1 : starR a q1 with
  | none => rw [e1] at z; exact z.elim
  | some ld =>
    rw [e1] at z
    dsimp only at z
    obtain ⟨f1, p0, xs, rfl, hsq, hr⟩ := starR_rep f0 p e1
    unfold zipSR at z
    cases e2 : rowsOf ld with
    | none => rw [e2] at z; exact z.elim
    | some rs =>
      rw [e2] at z
      cases rs with
      | nil => exact z.elim
      | cons r rs =>
        dsimp only at z
        by_cases hc : rs.length ≤ 3 ∧ r.length ≤ 1000000 ∧ rs.all (fun x => x.length == r.length) = true
        case neg => rw [if_neg hc] at z; exact z.elim
        rw [if_pos hc] at z
        dsimp only at z
        obtain ⟨c1, c2, c3⟩ := hc
        obtain ⟨vss, h3, h4, h5⟩ := rowsOf_rep e2 hr
        have hlen : ∀ r', r' ∈ r :: rs → r'.length = r.length := fun r' hr' => by
          rcases List.mem_cons.mp hr' with rfl | hr'
          · rfl
          · rw [List.all_eq_true] at c3
            simpa using c3 r' hr'
        refine ⟨p0, xs, vss, r.length, rfl, hsq, h3, fun z => by rw [z] at h4; simp at h4, by rw [h4, List.length_cons]; omega, fun ys hy => ?_, c2, fun S Ts H2 hT sm hS hS2 hTs => ?_⟩
        · obtain ⟨k, hk, e⟩ := List.getElem_of_mem hy
          have hk2 : k < (r :: rs).length := by rw [← h4]; exact hk
          obtain ⟨xs', g1, g2⟩ := h5 k (r :: rs)[k] (by simp [hk2])
          have : xs' = ys := by
            obtain ⟨_, z⟩ := List.getElem?_eq_some_iff.mp g1
            exact z.symm.trans e
          subst this
          rw [g2.length]
          exact hlen _ (List.getElem_mem hk2)
        · have l2 : Lat (Ow s q) H (Ow s q1) H2 := l.trans (Lat.same sm)
          have lr : Lat (Rt R0 s q1) H1 (Rt (P1 R0 S) s q1) H2 := (Lat.same sm).less fun b y => by
            rcases y with (y | y) | y
            · exact .inl (.inl y)
            · exact .inr (y ▸ hS)
            · exact .inl (.inr y)
          refine z (.ref S) H2 l2 b ⟨S, rfl, l.new hS, f1.on sm (fun b y => Or.elim y .inl fun e => .inr (e ▸ hS)) (fun b y => ?_), _, Ts.map V.ref, rfl, hS2, repL_ix ?_ fun k x d k1 k2 => ?_⟩
          · rcases y with y | y
            · exact (Lat.same (R := Ow s q) sm).tr b (f1.trk b y)
            · rw [y, hS2]; exact fun z => nomatch z
          · rw [List.length_map, hT]; unfold zipCols; simp
          · rw [List.getElem?_map] at k1
            cases e5 : Ts[k]? with
            | none => rw [e5] at k1; cases k1
            | some T =>
              rw [e5] at k1; cases k1
              obtain ⟨t1, t2, t3⟩ := hTs k T e5
              have hk : k < r.length := by rw [← hT]; exact (List.getElem?_eq_some_iff.mp e5).1
              have ed : D.tup ((r :: rs).map fun r => r.getD k .non) = d := by
                unfold zipCols at k2
                rw [List.getElem?_map, List.getElem?_range hk] at k2
                exact Option.some.inj k2
              subst ed
              refine .tup (.inl ⟨.inl t3, fun y => ?_⟩) (repL_ix (by unfold colV; rw [List.length_map, List.length_map, h4]) fun i x d i1 i2 => ?_)
              · rcases y with (y | y) | y
                · exact f1.trk T y t1
                · exact t2 y
                · obtain ⟨xs, e⟩ := f1.owT y
                  rw [e] at t1; cases t1
              · unfold colV at i1
                rw [List.getElem?_map] at i1 i2
                cases g1 : (r :: rs)[i]? with
                | none => rw [g1] at i2; cases i2
                | some ri =>
                  rw [g1] at i2
                  obtain ⟨xs', g2, g3⟩ := h5 i ri g1
                  rw [g2] at i1
                  have hki : k < ri.length := by rw [hlen ri (List.mem_of_getElem? g1)]; exact hk
                  obtain ⟨v, g4, g5⟩ := g3.get (i := k) (d := ri[k]) (by simp [hki])
                  have i1 : xs'.getD k .non = x := Option.some.inj i1
                  have i2 : ri.getD k .non = d := Option.some.inj i2
                  rw [List.getD_eq_getElem?_getD, g4] at i1
                  rw [List.getD_eq_getElem?_getD, List.getElem?_eq_getElem hki] at i2
                  have i1 : v = x := i1
                  have i2 : ri[k] = d := i2
                  rw [← i1, ← i2]
                  exact g5.lat lr
theorem me_zipS {W : Wo} [Calm W] {X : Cx} {ex : XK} {n : Nat} {p1 p2 p3 p4 pos : Pos} {a : Expr} {A : E} (g : Gd W n X ex) (hl : W.mg "list" = none) (hz : W.mg "zip" = none) (ha : ME W X ex a A) (hgl : Gl X "list" := by rfl) (hgz : Gl X "zip" := by rfl)
    (hs : starEach [.Call (.Name "zip" p2) [.Starred a p3] [] p4] X.env = (false, eval (.Call (.Name "zip" p2) [.Starred a p3] [] p4) X.env) :: starEach [] X.env := by rfl) (hs2 : starEach [.Starred a p3] X.env = [(true, eval a X.env)] := by rfl) :
    ME W X ex (.Call (.Name "list" p1) [.Call (.Name "zip" p2) [.Starred a p3] [] p4] [] pos) (.zipS A) := fun pk =>
  (pe_zipS hgl (by rw [g.hm]; exact hl) hgz (by rw [g.hm]; exact hz) g.room.hd (ha true) hs hs2).imp fun _ _ _ h => by rw [g.hK]; exact tE_zipS h
end M

set_option Elab.async false
set_option linter.all false
set_option maxRecDepth 100000
set_option maxHeartbeats 4000000
/-! B5: from level to level; the law's own promise. -/
namespace M
open PySem L2 PyProof.Rows SlX

/-- a def of the text at a -/
structure Df (K : PySem.W.Frag) (x qual : Str) (st : Stmt) (ps : List Str) (a : Addr) : Prop where
  ex : ∃ fd, L2.Fun K x qual st a fd ∧ Binds K fd ps []
/-- .. called with names -/
structure Dk (K : PySem.W.Frag) (x qual : Str) (st : Stmt) (ps : List Str) (a : Addr) (m : Nat) (ks : List Str) (pm : List Nat) : Prop where
  ex : ∃ fd, L2.Fun K x qual st a fd ∧ KB K fd ps m ks pm
abbrev Wo.up (W : Wo) (K : Calls) : Wo := { W with K := K }
theorem spF_zero {Z : Zc} {t : Tab} {f : Nat} {vs : List V} {H : Hp} {Q : VK} {E : XK} (h : spF Z (calls t 0) f vs H Q E) : False := by
  obtain ⟨R0, q, f0, h⟩ := h
  exact h
theorem spC_zero {Z : Zc} {t : Tab} {f : Nat} {vs : List V} {H : Hp} {Q : VK} {E : XK} (h : spC Z (calls t 0) f vs H Q E) : False := by
  obtain ⟨x, dx, vs', R0, q, _, _, _, _, _, _, _, _, h⟩ := h
  exact h
section
variable {W : Wo} {t : Tab} {j n f c : Nat} {d : FDef} {cd : CDef} {N ps : List Str} {x qual : Str} {st : Stmt} {a : Addr}
theorem fnr_zero : FnG W.P W.w W.Z.K W.mg W.base (L2.CX W.P W.w) n a (spF W.Z (calls t 0) f) := fun _ _ _ _ _ _ _ _ _ _ _ _ h => (spF_zero h).elim
theorem fnr_next (hW : W.K = calls t j) (ht : t.fn.lookup f = some d) (D : Df W.Z.K x qual st ps a) (S : FnScope N ps (defScope st)) (hN : N.length = d.nN) (hp : ps.length = d.nps)
    (body : ∀ cdv A outer s H E, Gd W n (cxF W N qual (defScope st) a cdv A outer s H E) E → MSs W (cxF W N qual (defScope st) a cdv A outer s H E) E (defBody st) d.body) : FnG W.P W.w W.Z.K W.mg W.base (L2.CX W.P W.w) (n + 1) a (spF W.Z (calls t (j + 1)) f) := by
  obtain ⟨fd, F, hb⟩ := D.ex
  refine FnA.pos (fn_ok (W := W) (K' := calls t (j + 1)) (fi := f) (d := d) (fun as => ?_) F S hN hp body) hb
  show (match t.fn.lookup f with | some d => runF (calls t j) d as | none => .bad) = _
  rw [ht, hW]
theorem fno_next (hW : W.K = calls t j) (ht : t.fn.lookup f = some d) {fd : FuncData} (F : L2.Fun W.Z.K x qual st a fd) (S : FnScope N ps (defScope st)) (hN : N.length = d.nN) (hp : ps.length = d.nps)
    (body : ∀ cdv A outer s H E, Gd W n (cxF W N qual (defScope st) a cdv A outer s H E) E → MSs W (cxF W N qual (defScope st) a cdv A outer s H E) E (defBody st) d.body) : FnA W.P W.w W.Z.K W.mg W.base (L2.CX W.P W.w) (n + 1) a fd ps (spF W.Z (calls t (j + 1)) f) := by
  refine fn_ok (W := W) (K' := calls t (j + 1)) (fi := f) (d := d) (fun as => ?_) F S hN hp body
  show (match t.fn.lookup f with | some d => runF (calls t j) d as | none => .bad) = _
  rw [ht, hW]
theorem fnc_zero : FnG W.P W.w W.Z.K W.mg W.base (L2.CX W.P W.w) n a (spC W.Z (calls t 0) c) := fun _ _ _ _ _ _ _ _ _ _ _ _ h => (spC_zero h).elim
theorem fnc_next (hW : W.K = calls t j) (ht : t.cn.lookup c = some cd) (D : Df W.Z.K x qual st ps a) (S : FnScope N ps (defScope st)) (hN : N.length = cd.nN) (hp : ps.length = cd.nps)
    (body : ∀ cdv A outer s H E, Gd W n (cxF W N qual (defScope st) a cdv A outer s H E) E → MC W (cxF W N qual (defScope st) a cdv A outer s H E) E (W.Z.C c) (defBody st) cd.pre cd.fs) : FnG W.P W.w W.Z.K W.mg W.base (L2.CX W.P W.w) (n + 1) a (spC W.Z (calls t (j + 1)) c) := by
  obtain ⟨fd, F, hb⟩ := D.ex
  refine FnA.pos (ini_ok (W := W) (K' := calls t (j + 1)) (c := c) (d := cd) (fun as => ?_) F S hN hp body) hb
  show (match t.cn.lookup c with | some d => runM (calls t j) d as | none => .bad) = _
  rw [ht, hW]
theorem fnck_zero {m : Nat} {ks : List Str} {pm : List Nat} : FnK W.P W.w W.Z.K W.mg W.base (L2.CX W.P W.w) n a m ks pm (spC W.Z (calls t 0) c) := fun _ _ _ _ _ _ _ _ _ _ _ _ _ _ _ _ _ h => (spC_zero h).elim
theorem fnck_next {m : Nat} {ks : List Str} {pm : List Nat} (hW : W.K = calls t j) (ht : t.cn.lookup c = some cd) (D : Dk W.Z.K x qual st ps a m ks pm) (S : FnScope N ps (defScope st)) (hN : N.length = cd.nN) (hp : ps.length = cd.nps)
    (body : ∀ cdv A outer s H E, Gd W n (cxF W N qual (defScope st) a cdv A outer s H E) E → MC W (cxF W N qual (defScope st) a cdv A outer s H E) E (W.Z.C c) (defBody st) cd.pre cd.fs) : FnK W.P W.w W.Z.K W.mg W.base (L2.CX W.P W.w) (n + 1) a m ks pm (spC W.Z (calls t (j + 1)) c) := by
  obtain ⟨fd, F, hb⟩ := D.ex
  refine FnA.kws (ini_ok (W := W) (K' := calls t (j + 1)) (c := c) (d := cd) (fun as => ?_) F S hN hp body) hb
  show (match t.cn.lookup c with | some d => runM (calls t j) d as | none => .bad) = _
  rw [ht, hW]
end
/-- the law's promise: a list of at most 63 ints, True comes out -/
def spLaw (K : PySem.W.Frag) (T : List (Addr × Str)) : Sp := fun vs H Q _ => ∃ (a : Addr) (ns : List Int), vs = [.ref a] ∧ SqL K H a (ns.map V.int) ∧ ns.length ≤ 63 ∧ (∀ z ∈ ns, Builtin.Int.intBits z ≤ 1048576) ∧ (LamX.Tabs T H ∧ (∃ o, H sysModules = some (.frz o (.own 0))) ∧ K.lookup sysModules = none) ∧ ∀ H', Q (.bl true) H'
def scr (ns : List Int) : D := .lst (ns.map D.int)
theorem rep_scr {Z : Zc} {H : Hp} {R : Pr} : ∀ ns : List Int, RepL Z H R (ns.map V.int) (ns.map D.int)
  | [] => .nil
  | n :: ns => .cons (.int n) (rep_scr ns)
theorem law_of {Z : Zc} {t : Tab} {J f : Nat} (plain : ∀ ns : List Int, ns.length ≤ 63 → (∀ z ∈ ns, Builtin.Int.intBits z ≤ 1048576) → ∃ q, (calls t J).fn f [.sh false (scr ns)] = .ok (.val (.bl true)) q)
    {vs : List V} {H : Hp} {Q : VK} {E : XK} (h : spLaw Z.K Z.T vs H Q E) : spF Z (calls t J) f vs H Q E := by
  obtain ⟨a, ns, rfl, hS, hl, hb, gr, k⟩ := h
  obtain ⟨q', e⟩ := plain ns hl hb
  have nOw : ∀ {b : Addr}, ¬ Ow [some (V.ref a)] [Slot.sh false (scr ns)] b := fun {b} ⟨i, b', d, h1, h2⟩ => by
    cases i with
    | zero => simp at h1
    | succ i => simp at h1
  refine ⟨fun _ => False, [.sh false (scr ns)], ⟨rfl, ⟨gr.1, gr.2.1, gr.2.2⟩, fun b h => h.elim, fun i b d h1 => ?_, fun i b d h1 => ?_, fun i j b b' d d' c h1 => ?_⟩, ?_⟩
  · cases i with
    | zero =>
      have : Slot.sh false (scr ns) = .sh b d := by simpa using h1
      injection this with e1 e2
      subst e1 e2
      refine ⟨.ref a, rfl, .lst ?_ (rep_scr ns)⟩
      rcases hS with hS | hS
      · exact .inl ⟨hS, fun z => Or.elim z (fun z => z) nOw⟩
      · exact .inr hS
    | succ i => simp at h1
  · cases i with
    | zero => simp at h1
    | succ i => simp at h1
  · cases i with
    | zero => simp at h1
    | succ i => simp at h1
  · show An Z E _ _ _ H _ Q (noSlot ((calls t J).fn f [.sh false (scr ns)]))
    rw [e]
    intro w H' l b p
    obtain ⟨_, r⟩ := p
    cases r
    exact k H'
end M

set_option Elab.async false
set_option linter.all false
set_option maxRecDepth 100000
set_option maxHeartbeats 4000000
/-! W1: the law's own call, where nothing is being shown. -/
namespace M
open PySem L2 PyProof.Rows SlX PySem.Spec
section
variable {P : Program} {w : World} {K : PySem.W.Frag} {mg mb : Str → Option Value} {CX : CXT} {k : Nat} {fa a : Addr} {fd : FuncData} {x : Str} {sp : Sp} {s1 : Shared} {vs : List Value} {ns : List Int}
/-- the end of the law's call -/
def LEnd (s1 : Shared) (r : Result) (s2 : Shared) : Prop := r = .ok (.ret (.bool true)) ∧ OldK s1.heap s2.heap ∧ s2.os = s1.os ∧ AllBare s2.gens
theorem lend_of {H : Hp} {r : Result} {s2 : Shared} {ts : List Addr} (only : ∀ b, H b = none ∨ (b ∈ ts ∧ H b = some (.tbl #[])) ∨ ∃ o u, H b = some (.frz o u)) (hC : ∀ b ∈ ts, PySem.isCodeTable s1.heap b) (ok1 : HOk P w H s1.heap)
    (no : ∀ e, CX [] H s1 (fun _ _ _ => False) e s2 → False) (h : CR CX [] P w H s1 (fun v _ => v = .bl true) (fun _ _ _ => False) r s2) : LEnd s1 r s2 := by
  cases r with
  | error e => exact (no e h).elim
  | ok fl =>
    cases fl with
    | ret u =>
      obtain ⟨v, H2, os, bare, un, ok2, rv, ev⟩ := h
      have ev : v = .bl true := ev
      subst ev
      obtain rfl : u = Value.bool true := rv
      have key : ∀ b o, s1.heap.get? b = some o → (b ∈ ts ∧ H b = some (.tbl #[])) ∨ s2.heap.get? b = some o := fun b o e => by
        rcases only b with z | z | ⟨ob, u, z⟩
        · exact .inr (un.keep b o e z (by intro z; exact absurd (show b ∈ ([] : List Addr) from z) (by simp)) (by simp))
        · exact .inl z
        · obtain ⟨e1, _⟩ := ok1 b _ z
          obtain ⟨e2, _⟩ := ok2 b _ (un.frzs b ob _ z)
          rw [e] at e1; cases e1
          exact .inr e2
      refine ⟨rfl, ⟨fun b o e => ?_, fun b o e => ?_⟩, os, bare⟩
      · rcases key b o e with ⟨hb, z⟩ | z
        · obtain ⟨more, z2⟩ := un.tbls b #[] z
          have e1 : s1.heap.get? b = some { cls := .none, data := .fields #[] } := ok1 b _ z
          have e2 := ok2 b _ z2
          rw [e] at e1; cases e1
          exact .inr (.inl ⟨hC b hb, rfl, #[], more, rfl, e2⟩)
        · exact .inl z
      · rcases key b o e with ⟨hb, z⟩ | z
        · obtain ⟨more, z2⟩ := un.tbls b #[] z
          exact ⟨_, ok2 b _ z2⟩
        · exact ⟨o, z⟩
    | next => exact h.elim
    | brk => exact h.elim
    | cont => exact h.elim
/-- what is said of the code objects that make lambdas, and of their tables -/
structure CsOk (K : PySem.W.Frag) (h : Heap) (cs : List (Addr × Addr)) : Prop where
  e : ∀ p ∈ cs, h.get? p.2 = some { cls := .none, data := .fields #[] }
  n : ∀ p ∈ cs, K.lookup p.2 = none
  c : ∀ p ∈ cs, PySem.W.CodeHd h p.1 p.2
theorem law_callA {cs : List (Addr × Addr)} (KX : K.In s1.heap) (hns : s1.heap.Ns mainGlobals mg) (hb : s1.heap.Ns builtinsNs mb) (hbb : ∀ x : Str, x ≠ "__name__" → mb x = bootBuiltins x) (hlim : s1.heap.NoLimit) (hg : s1.gens = #[])
    (hbm : ∃ (bm : Addr) (ob : Obj), mg "__builtins__" = some (.ref bm) ∧ bm ≠ builtinsNs ∧ s1.heap.get? bm = some ob ∧ ob.cls = .type "module" ∧ ob.dict = some builtinsNs ∧ ob.data = .plain)
    (hcs : CsOk K s1.heap cs) (ks : K.lookup sysModules = none) (hsys : ∃ mm, s1.heap.Ns sysModules mm ∧ mm "_pylong" = none)
    (ha : s1.heap.get? a = some { cls := .type "list", data := .seq vs.toArray }) (hi : IntsAre vs ns) (hl : ns.length ≤ sizeLine) (hr : Room k callerA) (F : ∀ base : Heap, K.In base → base.Ns mainGlobals mg → (∀ p ∈ cs, LamX.TabB base mg p.1 p.2) → FnA P w K mg base CX k fa fd [x] sp)
    (bind : ∀ (s : Shared) (u : Value), BindsTo s fd ⟨[u], []⟩ [(x, u)])
    (hsp : ∀ H : Hp, (∀ p ∈ cs, H p.2 = some (.tbl #[])) → (∃ o, H sysModules = some (.frz o (.own 0))) → SqL K H a (ns.map V.int) → sp [.ref a] H (fun v _ => v = .bl true) fun _ _ _ => False)
    (no : ∀ H e s2, CX [] H s1 (fun _ _ _ => False) e s2 → False) : codeAny (model P w) callerA (.call (.ref fa) ⟨[.ref a], []⟩) (LEnd s1) s1 := by
  obtain ⟨_, ⟨o1, es1, ep1, ho1, hd1, _⟩, _⟩ := hsys
  have hsa : a ≠ sysModules := fun z => by
    rw [z, ho1] at ha
    cases ha
    cases hd1
  have memT : ∀ p ∈ cs, p.2 ∈ cs.map (·.2) := fun p hp => List.mem_map.mpr ⟨p, hp, rfl⟩
  have isT : ∀ b : Addr, b ∈ cs.map (·.2) → s1.heap.get? b = some { cls := .none, data := .fields #[] } ∧ K.lookup b = none ∧ b ≠ sysModules := fun b hb => by
    obtain ⟨p, hp, e⟩ := List.mem_map.mp hb
    rw [← e]
    exact ⟨hcs.e p hp, hcs.n p hp, fun z => by
      have q := hcs.e p hp
      rw [z, ho1] at q
      cases q
      cases hd1⟩
  have aT : a ∉ cs.map (·.2) := fun z => by
    have q := (isT a z).1
    rw [ha] at q
    have z' : Data.seq vs.toArray _ = Data.fields #[] := congrArg Obj.data (Option.some.inj q)
    cases z'
  -- from an abstract heap
  have core : ∀ H : Hp, (∀ b u, H b = some u → (b = sysModules ∧ u = .frz o1 (.own 0)) ∨ (b ∈ cs.map (·.2) ∧ u = .tbl #[]) ∨ (b = a ∧ K.lookup a = none ∧ u = .frz { cls := .type "list", data := .seq vs.toArray } (.lst (ns.map V.int)))) →
      H sysModules = some (.frz o1 (.own 0)) → (∀ p ∈ cs, H p.2 = some (.tbl #[])) → SqL K H a (ns.map V.int) → codeAny (model P w) callerA (.call (.ref fa) ⟨[.ref a], []⟩) (LEnd s1) s1 := by
    intro H hH hs hT hS
    have hok : HOk P w H s1.heap := fun b u z => by
      rcases hH b u z with ⟨rfl, rfl⟩ | ⟨hb, rfl⟩ | ⟨rfl, _, rfl⟩
      · exact ⟨ho1, o1, ho1⟩
      · exact (isT b hb).1
      · exact ⟨ha, by rw [List.length_map]; exact hl, vs, _, vals_ints hi, ha⟩
    have free : ∀ {b : Addr} {o : Obj}, s1.heap.get? b = some o → b ≠ sysModules → (∀ vs n, o.data ≠ .seq vs n) → o.data ≠ .fields #[] → H b = none := fun {b o} e n1 n2 n3 => by
      cases q : H b with
      | none => rfl
      | some u =>
        rcases hH b u q with ⟨rfl, _⟩ | ⟨hb, _⟩ | ⟨rfl, _, _⟩
        · exact absurd rfl n1
        · rw [(isT b hb).1] at e; cases e; exact absurd rfl n3
        · rw [ha] at e; cases e; exact absurd rfl (n2 _ _)
    have nsB : ∀ {b : Addr} {m : Str → Option Value}, s1.heap.Ns b m → b ≠ sysModules → (hidT s1.heap H).Ns b m := fun {b m} ⟨o, es, ep, e, d, r⟩ hb => ⟨o, es, ep, hidT_get e (free e hb (fun vs n z => by rw [d] at z; cases z) fun z => by rw [d] at z; cases z), d, r⟩
    have kB : K.In (hidT s1.heap H) := fun b o e => hidT_get (KX b o e) (by
      cases q : H b with
      | none => rfl
      | some u =>
        rcases hH b u q with ⟨rfl, _⟩ | ⟨hb, _⟩ | ⟨rfl, hk, _⟩
        · rw [ks] at e; cases e
        · rw [(isT b hb).2.1] at e; cases e
        · rw [hk] at e; cases e)
    have e0 : Env0 P w K mg (hidT s1.heap H) callerA [] s1 H := by
      refine ⟨rfl, ⟨kB, nsB hns (by decide), ⟨mb, nsB hb (by decide), hbb⟩, ?_⟩, fun b o e => of_hidT e, Nat.le_of_eq (hidT_size _ _), trivial, fun b hb => ?_, hok, .of_eq hg⟩
      · obtain ⟨mc, h1, h2⟩ := hlim
        exact ⟨mc, nsB h1 (by decide), h2⟩
      · exact absurd (show b ∈ ([] : List Addr) from hb) (by simp)
    have TB : ∀ p ∈ cs, LamX.TabB (hidT s1.heap H) mg p.1 p.2 := fun p hp => by
      have hTp := hcs.e p hp
      refine ⟨?_, ?_, fun z => ?_⟩
      · obtain ⟨o, us, file, tf, flags, tg, inF, text, tt, e1, r1, r2, r3, r4, r5, r6, r7, r8, hne⟩ := hcs.c p hp
        refine ⟨o, us, file, tf, flags, tg, inF, text, tt, hidT_get e1 (free e1 (fun z => by rw [z, ho1] at e1; cases e1; rw [hd1] at r2; cases r2) (fun vs n z => ?_) fun z => ?_), r1, r2, r3, r4, r5, r6, r7, r8, hne⟩
        · rw [r2] at z; cases z
        · rw [r2] at z
          cases z
          simp at r3
      · obtain ⟨bm, ob, b1, b2, b3, b4, b5, b6⟩ := hbm
        have c2 : bm ≠ sysModules := fun z => by rw [z, ho1] at b3; cases b3; rw [hd1] at b6; cases b6
        have nG : bm ≠ mainGlobals := fun q => by
          obtain ⟨o, es, ep, e, hd, _⟩ := hns
          rw [q, e] at b3
          cases b3
          rw [hd] at b6
          cases b6
        have nP : bm ≠ p.2 := fun q => by
          rw [q, hTp] at b3
          cases b3
          cases b6
        refine ⟨bm, ob, b1, b2, nG, nP, hidT_get b3 (free b3 c2 (fun vs n z => ?_) fun z => ?_), b4, b5, b6⟩
        · rw [b6] at z; cases z
        · rw [b6] at z; cases z
      · obtain ⟨o, es, ep, e, hd, _⟩ := hns
        rw [z, hTp] at e
        cases e
        cases hd
    refine codeAny_mono ((F _ kB (nsB hns (by decide)) TB).run callerA [] s1 H ⟨[.ref a], []⟩ [.ref a] [.ref a] _ _ rfl hr e0 (bind s1 (.ref a)) (.cons rfl .nil) (hsp H hT ⟨o1, hs⟩ hS)) fun r s2 z => lend_of (ts := cs.map (·.2)) (fun b => ?_) (fun b hb => ?_) hok (fun e => no H e s2) z
    · cases q : H b with
      | none => exact .inl rfl
      | some u =>
        rcases hH b u q with ⟨_, rfl⟩ | ⟨hb, rfl⟩ | ⟨_, _, rfl⟩
        · exact .inr (.inr ⟨_, _, rfl⟩)
        · exact .inr (.inl ⟨hb, rfl⟩)
        · exact .inr (.inr ⟨_, _, rfl⟩)
    · obtain ⟨p, hp, e⟩ := List.mem_map.mp hb
      rw [← e]
      exact ((hcs.c p hp).tab (hcs.e p hp)).isCodeTable
  cases hk : K.lookup a with
  | some o =>
    have e := (KX a o hk).symm.trans ha
    cases e
    refine core (fun b => if b = sysModules then some (.frz o1 (.own 0)) else if b ∈ cs.map (·.2) then some (.tbl #[]) else none) (fun b u z => ?_) (if_pos rfl) (fun p hp => (if_neg (isT _ (memT p hp)).2.2).trans (if_pos (memT p hp))) (.inr ⟨_, vs.toArray, _, hk, rfl, rfl, rfl, ?_, ?_⟩)
    · by_cases h1 : b = sysModules
      · rw [if_pos h1] at z; cases z; exact .inl ⟨h1, rfl⟩
      · rw [if_neg h1] at z
        by_cases h2 : b ∈ cs.map (·.2)
        · rw [if_pos h2] at z; cases z; exact .inr (.inl ⟨h2, rfl⟩)
        · rw [if_neg h2] at z; cases z
    · rw [List.size_toArray, hi.length]; exact hl
    · simpa using vals_ints hi
  | none =>
    refine core (fun b => if b = sysModules then some (.frz o1 (.own 0)) else if b ∈ cs.map (·.2) then some (.tbl #[]) else if b = a then some (.frz { cls := .type "list", data := .seq vs.toArray } (.lst (ns.map V.int))) else none) (fun b u z => ?_) (if_pos rfl)
      (fun p hp => (if_neg (isT _ (memT p hp)).2.2).trans (if_pos (memT p hp))) (.inl (.inr ⟨_, (if_neg hsa).trans ((if_neg aT).trans (if_pos rfl))⟩))
    by_cases h1 : b = sysModules
    · rw [if_pos h1] at z; cases z; exact .inl ⟨h1, rfl⟩
    · rw [if_neg h1] at z
      by_cases h2 : b ∈ cs.map (·.2)
      · rw [if_pos h2] at z; cases z; exact .inr (.inl ⟨h2, rfl⟩)
      · rw [if_neg h2] at z
        by_cases h3 : b = a
        · rw [if_pos h3] at z; cases z; exact .inr (.inr ⟨h3, hk, rfl⟩)
        · rw [if_neg h3] at z; cases z
end
theorem FnA.imp {P : Program} {w : World} {K : PySem.W.Frag} {mg : Str → Option Value} {base : Heap} {CX : CXT} {k : Nat} {f : Addr} {fd : FuncData} {ps : List Str} {sp sp2 : Sp} (F : FnA P w K mg base CX k f fd ps sp) (h : ∀ vs H Q E, sp2 vs H Q E → sp vs H Q E) : FnA P w K mg base CX k f fd ps sp2 :=
  ⟨fun vs H Q E z => F.len vs H Q E (h _ _ _ _ z), fun A b s0 H gv us vs Q E q r e0 hb rv z => F.run A b s0 H gv us vs Q E q r e0 hb rv (h _ _ _ _ z)⟩
theorem kb_of {K : PySem.W.Frag} {x qual : Str} {st : Stmt} {a : Addr} {fd : FuncData} {ps ks : List Str} {n : Nat} {pm : List Nat} (F : L2.Fun K x qual st a fd)
    (h : ∀ (kV doc pmv : Value) (an : Option Addr) (cdv ct : Value) (us ws : List Value), us.length = n → ws.length = ks.length → bindArgs (PySem.W.fnOf x qual (defArgs st) (defBody st) (defScope st) .none kV doc pmv an cdv ct) ⟨us, ks.zip ws⟩ = pure (ps.zip (pick pm (us ++ ws)))) : KB K fd ps n ks pm := by
  obtain ⟨oc, od, kV, doc, pmv, an, cdv, ct, osl, rfl, lk, hcd⟩ := F.ex
  exact fun s0 us ws _ l1 l2 => .of_eq (h kV doc pmv an cdv ct us ws l1 l2)
theorem walk_ofA {l : PySem.W.OpenLaw} {n k : Nat} {q : Program} {loose : List Str} {XP : (Str → Option Value) → Heap → Prop} {YP : World → Heap → Prop} {d : DefRec} {K : Params → PySem.W.Frag} {CX : World → CXT} {sp : World → Sp} {x : Str} {cs : List (Addr × Addr)}
    (hn : l.most = some n) (hn2 : n ≤ sizeLine) (hdf : d.params.defaults = []) (hr : Room k callerA) (hY : ∀ (w : World) (h : Heap), YP w h → (K w.params).In h)
    (hcs : ∀ (w : World) (h : Heap), YP w h → CsOk (K w.params) h cs) (ks : ∀ w : World, (K w.params).lookup sysModules = none) (him : importsNone q = true)
    (F : ∀ (w : World) (mg : Str → Option Value) (fa : Addr) (h : Heap), (K w.params).In h → h.Ns mainGlobals mg → mg d.name = some (.ref fa) →
      ∃ fd : FuncData, (∀ (s : Shared) (u : Value), BindsTo s fd ⟨[u], []⟩ [(x, u)]) ∧ ∀ base : Heap, (K w.params).In base → base.Ns mainGlobals mg → (∀ p ∈ cs, LamX.TabB base mg p.1 p.2) → FnA l.prog w (K w.params) mg base (CX w) k fa fd [x] (sp w))
    (hsp : ∀ (w : World) (H : Hp) (a : Addr) (ns : List Int), ns.length ≤ n → (∀ z ∈ ns, Builtin.Int.intBits z ≤ 1048576) → (∀ p ∈ cs, H p.2 = some (.tbl #[])) → (∃ o, H sysModules = some (.frz o (.own 0))) → SqL (K w.params) H a (ns.map V.int) → sp w [.ref a] H (fun v _ => v = .bl true) fun _ _ _ => False)
    (no : ∀ (w : World) (H : Hp) (s : Shared) (e : Value) (s2 : Shared), CX w [] H s (fun _ _ _ => False) e s2 → False) : PySem.W.WalkO q loose XP YP l.row.toRowW d [] (fun f vs => PySem.call f vs) := by
  intro w s₀ s₁ mg mb G Y fa o pm cd doc dV kV ho hd hcd hD hmg hg args vals as hpre hlay hrd hwl hlo
  obtain rfl : dV = .none := PySem.W.Dflts.none hD hdf
  obtain rfl : kV = .none := PySem.W.Dflts.noKw hD
  obtain ⟨a, vs, ns, rfl, rfl, hobj, hints, hlen⟩ := Att.script_of hn hpre hwl
  obtain ⟨fd, hb, hF⟩ := F w mg fa _ (hY w _ Y) G.T.g hmg
  refine PySem.W.enter_call (codeAny_mono (law_callA (hY w _ Y) G.T.g G.T.b G.T.builtins G.T.nolimit hg G.T.bmain (hcs w _ Y) (ks w) (G.T.seer him).mods hobj hints (Nat.le_trans hlen hn2) hr hF hb (fun H hH hO hS => hsp w H a ns hlen (Att.script_bits hlay) hH hO hS) fun H e s2 z => no w H s₁ e s2 z) fun r s' hq => ?_)
  obtain ⟨rfl, h2, h3, h4⟩ := hq
  exact ⟨.inl ⟨.bool true, .bool true, [], rfl, fun _ => rfl, .bool true, Att.post_true l _, fun _ => ⟨List.Pairwise.nil, fun _ hm => (nomatch hm)⟩⟩, h2, h3, h4⟩
end M

set_option Elab.async false
set_option linter.all false
set_option maxRecDepth 100000
set_option maxHeartbeats 1000000
/-! C1: the plain functions of a tree, and how they stand to the evaluator: expressions. -/
namespace M
open PySem
/-- what a plain function gives -/
inductive Mo (α : Type) where
  | ok (a : α) | exc (c : Nat) (ds : List D) | bad
def Mo.bnd {α β : Type} : Mo α → (α → Mo β) → Mo β
  | .ok a, f => f a
  | .exc c ds, _ => .exc c ds
  | .bad, _ => .bad
instance : Monad Mo := { pure := .ok, bind := Mo.bnd }
section
variable {α β γ : Type}
theorem nr {α : Type} {a b : α} (h : a = b) : a = b := h
@[simp] theorem ok_bind (a : α) (f : α → Mo β) : (Mo.ok a >>= f) = f a := nr rfl
@[simp] theorem bad_bind (f : α → Mo β) : ((Mo.bad : Mo α) >>= f) = .bad := nr rfl
@[simp] theorem exc_bind (c : Nat) (ds : List D) (f : α → Mo β) : ((Mo.exc c ds : Mo α) >>= f) = .exc c ds := nr rfl
@[simp] theorem bind_ok (m : Mo α) : (m >>= fun a => Mo.ok a) = m := by cases m <;> rfl
theorem bind_bind (m : Mo α) (f : α → Mo β) (g : β → Mo γ) : ((m >>= f) >>= g) = m >>= fun a => f a >>= g := by cases m <;> rfl
/-- primitives -/
def prm (p : P) (ds : List D) : Mo D := match evP p ds with
  | some (_, d) => .ok d
  | none => .bad
def prmV (p : P) (ds : List D) : Mo D := match evP p ds with
  | some (false, d) => .ok d
  | _ => .bad
def tru (d : D) : Mo Bool := match truD d with
  | some b => .ok b
  | none => .bad
def isB : D → Mo Bool
  | .bl b => .ok b
  | _ => .bad
def seqM (d : D) : Mo (List D) := match seqD d with
  | some l => .ok l
  | none => .bad
def itemsM (d : D) : Mo (List D) := match itemsD d with
  | some l => .ok l
  | none => .bad
def optM (o : Option (List D)) : Mo (List D) := match o with
  | some l => .ok l
  | none => .bad
def fitL (l : List D) : Mo (List D) := if l.length ≤ sizeLine then .ok l else .bad
def tupM (l : List D) : Mo D := if l.length ≤ sizeLine then .ok (.tup l) else .bad
def lstM (l : List D) : Mo D := if l.length ≤ sizeLine then .ok (.lst l) else .bad
def fldM (c k : Nat) : D → Mo D
  | .ins c' fs => if c' = c then (match fs[k]? with | some d => .ok d | none => .bad) else .bad
  | _ => .bad
def isI (c : Nat) : D → Mo Unit
  | .ins c' _ => if c' = c then .ok () else .bad
  | _ => .bad
def un (n : Nat) : D → Mo (List D)
  | .tup ds => if ds.length = n then .ok ds else .bad
  | _ => .bad
def un2 : D → Mo (D × D)
  | .tup [a, b] => .ok (a, b)
  | _ => .bad
def un3 : D → Mo (D × D × D)
  | .tup [a, b, c] => .ok (a, b, c)
  | _ => .bad
/-- an error inside of a comprehension is not followed -/
def noExc : Mo α → Mo α
  | .ok a => .ok a
  | _ => .bad
def mapA (f : D → Mo D) : List D → Mo (List D)
  | [] => .ok []
  | d :: l => f d >>= fun x => mapA f l >>= fun r => .ok (x :: r)
/-- [.. for ..] -/
def mapL (f : D → Mo D) (l : List D) : Mo (List D) := if l.length ≤ sizeLine then noExc (mapA f l) else .bad
def filA (f : D → Mo (Option D)) : List D → Mo (List D)
  | [] => .ok []
  | d :: l => f d >>= fun x => filA f l >>= fun r => .ok (match x with | some y => y :: r | none => r)
/-- [.. for .. if ..] -/
def filL (f : D → Mo (Option D)) (l : List D) : Mo (List D) := if l.length ≤ sizeLine then noExc (filA f l) else .bad
/-- a comprehension whose element draws -/
def mapS {σ : Type} (f : D → σ → Mo (D × σ)) : List D → σ → Mo (List D × σ)
  | [], s => .ok ([], s)
  | d :: l, s => f d s >>= fun x => mapS f l x.2 >>= fun r => .ok (x.1 :: r.1, r.2)
def mapSL {σ : Type} (f : D → σ → Mo (D × σ)) (l : List D) (s : σ) : Mo (List D × σ) := if l.length ≤ sizeLine then noExc (mapS f l s) else .bad
/-- two `for` -/
def catA (f : D → Mo (List D)) : List D → Mo (List D)
  | [] => .ok []
  | d :: l => f d >>= fun x => catA f l >>= fun r => .ok (x ++ r)
def catL (f : D → Mo (List D)) (l : List D) : Mo (List D) := noExc (catA f l) >>= fitL
end

/-! ### relations -/
def Rl {α β : Type} (x : Res α) (m : Mo β) (P : β → α → Fm → Prop) : Prop := match m with
  | .ok b => ∃ a q, x = .ok a q ∧ P b a q
  | .exc c ds => ∃ q, x = .exc c ds q
  | .bad => True
section
variable {α β γ δ : Type} {x : Res α} {P : β → α → Fm → Prop}
theorem Rl.ok {b : β} {a : α} {q : Fm} (h : P b a q) : Rl (.ok a q) (.ok b) P := ⟨a, q, rfl, h⟩
theorem Rl.bind {m : Mo β} {f : α → Fm → Res γ} {k : β → Mo δ} {Q : δ → γ → Fm → Prop} (h : Rl x m P) (hk : ∀ b a q, P b a q → Rl (f a q) (k b) Q) : Rl (bindR x f) (m >>= k) Q := by
  cases m with
  | ok b =>
    obtain ⟨a, q, rfl, h⟩ := h
    exact hk b a q h
  | exc c ds =>
    obtain ⟨q, rfl⟩ := h
    exact ⟨q, rfl⟩
  | bad => trivial
theorem Rl.imp {m : Mo β} {Q : β → α → Fm → Prop} (h : Rl x m P) (i : ∀ b a q, P b a q → Q b a q) : Rl x m Q := by
  cases m with
  | ok b =>
    obtain ⟨a, q, e, h⟩ := h
    exact ⟨a, q, e, i b a q h⟩
  | exc c ds => exact h
  | bad => trivial
theorem Rl.map {m : Mo β} {Q : γ → α → Fm → Prop} (g : β → γ) (h : Rl x m P) (i : ∀ b a q, P b a q → Q (g b) a q) : Rl x (m >>= fun b => .ok (g b)) Q := by
  cases m with
  | ok b =>
    obtain ⟨a, q, e, h⟩ := h
    exact ⟨a, q, e, i b a q h⟩
  | exc c ds => exact h
  | bad => trivial
end
/-- an expression: V the value, F the frame then -/
def XV {α : Type} (K : Calls) (e : E) (q : Fm) (m : Mo α) (V : α → D) (F : α → Fm) : Prop := ∀ pk, Rl (ev K e pk q) m fun a r q' => q' = F a ∧ r.vd = some (V a)
/-- .. that makes a new list -/
def XN {α : Type} (K : Calls) (e : E) (q : Fm) (m : Mo α) (V : α → D) (F : α → Fm) : Prop := ∀ pk, Rl (ev K e pk q) m fun a r q' => q' = F a ∧ r = .new (V a)
/-- .. no new list -/
def XB {α : Type} (K : Calls) (e : E) (q : Fm) (m : Mo α) (V : α → D) (F : α → Fm) : Prop := ∀ pk, Rl (ev K e pk q) m fun a r q' => q' = F a ∧ r = .val (V a)
/-- an operand -/
def XA {α : Type} (K : Calls) (e : E) (q : Fm) (m : Mo α) (V : α → D) (F : α → Fm) : Prop := Rl (ev K e true q) m fun a r q' => q' = F a ∧ r.at_ q' = some (V a)
/-- operands; what they are is asked at the last frame -/
def XS {α : Type} (K : Calls) (es : Es) (q : Fm) (m : Mo α) (V : α → List D) (F : α → Fm) : Prop := Rl (evs K es q) m fun a rs q' => q' = F a ∧ atAll q' rs = some (V a)
def XAs {α : Type} (K : Calls) (es : As) (q : Fm) (m : Mo α) (V : α → List D) (F : α → Fm) : Prop := Rl (evA K es q) m fun a ds q' => q' = F a ∧ ds = V a
def XG {α : Type} (K : Calls) (gs : Gs) (q : Fm) (m : Mo α) (V : α → List Ga) (F : α → Fm) : Prop := Rl (evG K gs q) m fun a l q' => q' = F a ∧ l = V a
def XT {α : Type} (K : Calls) (t : T) (q : Fm) (m : Mo α) (V : α → Bool) (F : α → Fm) : Prop := Rl (evT K t q) m fun a b q' => q' = F a ∧ b = V a
def XI {α : Type} (K : Calls) (it : I) (q : Fm) (m : Mo α) (V : α → List D) (F : α → Fm) : Prop := Rl (evI K it q) m fun a l q' => q' = F a ∧ l = V a
/-- a target: τ what it takes apart -/
def XTg {τ : Type} (K : Calls) (l : LV) (d : D) (q : Fm) (m : Mo τ) (F : τ → Fm) : Prop := match m with
  | .ok t => evL K l (.val d) q = .ok () (F t)
  | .exc _ _ => False
  | .bad => True
section
variable {α β γ δ : Type} {K : Calls} {q : Fm} {e a b c : E} {p : P} {pk : Bool}
theorem RV.down_at {r : RV} {d : D} (q : Fm) (h : r.at_ q = some d) : r.down.at_ q = some d := by cases r <;> exact h
theorem vd_at {r : RV} {d : D} (q : Fm) (h : r.vd = some d) : r.at_ q = some d := by cases r <;> first | exact h | cases h
theorem xn_v {m : Mo α} {V : α → D} {F : α → Fm} (h : XN K e q m V F) : XV K e q m V F := fun pk => (h pk).imp fun _ _ _ ⟨h1, h2⟩ => ⟨h1, by rw [h2]; rfl⟩
theorem xb_v {m : Mo α} {V : α → D} {F : α → Fm} (h : XB K e q m V F) : XV K e q m V F := fun pk => (h pk).imp fun _ _ _ ⟨h1, h2⟩ => ⟨h1, by rw [h2]; rfl⟩
theorem xv_a {m : Mo α} {V : α → D} {F : α → Fm} (h : XV K e q m V F) : XA K e q m V F := (h true).imp fun _ _ _ ⟨h1, h2⟩ => ⟨h1, vd_at _ h2⟩
abbrev I1 : D → D := fun d => d
abbrev Fc (q : Fm) {α : Type} : α → Fm := fun _ => q
theorem xb_con {d : D} : XB K (.con d) q (.ok d) I1 (Fc q) := fun pk => by
  rw [show ev K (.con d) pk q = .ok (.val d) q from by rw [ev]]
  refine Rl.ok ?_; exact ⟨rfl, rfl⟩
theorem xb_glo {x : Str} {d : D} : XB K (.glo x d) q (.ok d) I1 (Fc q) := fun pk => by
  rw [show ev K (.glo x d) pk q = .ok (.val d) q from by rw [ev]]
  refine Rl.ok ?_; exact ⟨rfl, rfl⟩
theorem xb_var {i : Nat} {bo : Bool} {d : D} (h : q[i]? = some (.sh bo d)) : XB K (.var i) q (.ok d) I1 (Fc q) := fun pk => by
  rw [ev, h]
  refine Rl.ok ?_; exact ⟨rfl, rfl⟩
theorem xa_own {i : Nat} {bo : Bool} {d : D} (h : q[i]? = some (.ow bo d)) : XA K (.var i) q (.ok d) I1 (Fc q) := by
  unfold XA
  rw [ev, h]
  refine .ok ⟨rfl, ?_⟩
  show (match q[i]? with | some (.sh _ d) => some d | some (.ow _ d) => some d | _ => none) = _
  rw [h]
/-! operands -/
theorem xs_nil : XS K .nil q (.ok []) (fun l => l) (Fc q) := by
  unfold XS
  rw [evs]
  refine Rl.ok ?_; exact ⟨rfl, rfl⟩
theorem xs_cons {m : Mo α} {V : α → D} {F : α → Fm} {k : α → Mo β} {V2 : α → β → List D} {F2 : α → β → Fm} {r : Es} {V3 : γ → List D} {F3 : γ → Fm} (g : α → β → γ) (h : XV K e q m V F) (h2 : ∀ a, XS K r (F a) (k a) (V2 a) (F2 a))
    (hV : ∀ a b, V3 (g a b) = V a :: V2 a b := by intros; rfl) (hF : ∀ a b, F3 (g a b) = F2 a b := by intros; rfl) : XS K (.cons e r) q (m >>= fun a => k a >>= fun b => .ok (g a b)) V3 F3 := by
  unfold XS
  rw [evs]
  refine (h true).bind fun a r q' ⟨h3, h4⟩ => ?_
  subst h3
  refine (h2 a).bind fun b rs q' ⟨h5, h6⟩ => ?_
  subst h5
  refine .ok ⟨(hF a b).symm, ?_⟩
  rw [hV, atAll, RV.down_at _ (vd_at _ h4), h6]
theorem xv_prm {es : Es} {m : Mo α} {V : α → List D} {F : α → Fm} {V3 : γ → D} {F3 : γ → Fm} (g : α → D → γ) (h : XS K es q m V F) (hV : ∀ a d, V3 (g a d) = d := by intros; rfl) (hF : ∀ a d, F3 (g a d) = F a := by intros; rfl) : XV K (.prm p es) q (m >>= fun a => prm p (V a) >>= fun d => .ok (g a d)) V3 F3 := fun pk => by
  rw [ev]
  refine Rl.bind h fun a rs q' ⟨h1, h2⟩ => ?_
  subst h1
  unfold primR
  rw [h2]
  unfold prm
  dsimp only
  cases e1 : evP p (V a) with
  | none => trivial
  | some x =>
    obtain ⟨fl, d⟩ := x
    cases fl
    · refine Rl.ok ?_; exact ⟨(hF a d).symm, by rw [hV]; rfl⟩
    · refine Rl.ok ?_; exact ⟨(hF a d).symm, by rw [hV]; rfl⟩
/-! displays -/
theorem xas_nil : XAs K .nil q (.ok []) (fun l => l) (Fc q) := by
  unfold XAs
  rw [evA]
  refine Rl.ok ?_; exact ⟨rfl, rfl⟩
theorem xas_one {m : Mo α} {V : α → D} {F : α → Fm} {k : α → Mo β} {V2 : α → β → List D} {F2 : α → β → Fm} {r : As} {V3 : γ → List D} {F3 : γ → Fm} (g : α → β → γ) (h : XV K e q m V F) (h2 : ∀ a, XAs K r (F a) (k a) (V2 a) (F2 a))
    (hV : ∀ a b, V3 (g a b) = V a :: V2 a b := by intros; rfl) (hF : ∀ a b, F3 (g a b) = F2 a b := by intros; rfl) : XAs K (.one e r) q (m >>= fun a => k a >>= fun b => .ok (g a b)) V3 F3 := by
  unfold XAs
  rw [evA]
  refine (h false).bind fun a r q' ⟨h3, h4⟩ => ?_
  subst h3
  rw [h4]
  refine (h2 a).bind fun b rs q' ⟨h5, h6⟩ => ?_
  subst h5 h6
  refine Rl.ok ?_; exact ⟨(hF a b).symm, (hV a b).symm⟩
theorem xn_lst {es : As} {m : Mo α} {V : α → List D} {F : α → Fm} {V3 : γ → D} {F3 : γ → Fm} (g : α → D → γ) (h : XAs K es q m V F) (hV : ∀ a d, V3 (g a d) = d := by intros; rfl) (hF : ∀ a d, F3 (g a d) = F a := by intros; rfl) : XN K (.lst es) q (m >>= fun a => lstM (V a) >>= fun d => .ok (g a d)) V3 F3 := fun pk => by
  rw [ev]
  refine Rl.bind h fun a ds q' ⟨h1, h2⟩ => ?_
  subst h1 h2
  unfold lstM
  by_cases hl : (V a).length ≤ sizeLine
  · rw [if_pos hl, if_pos hl]
    refine Rl.ok ?_; exact ⟨(hF _ _).symm, by rw [hV]⟩
  · rw [if_neg hl, if_neg hl]
    trivial
/-! tests -/
theorem xt_val {m : Mo α} {V : α → D} {F : α → Fm} {V3 : γ → Bool} {F3 : γ → Fm} (g : α → Bool → γ) (h : XA K e q m V F) (hV : ∀ a d, V3 (g a d) = d := by intros; rfl) (hF : ∀ a d, F3 (g a d) = F a := by intros; rfl) : XT K (.val e) q (m >>= fun a => tru (V a) >>= fun d => .ok (g a d)) V3 F3 := by
  unfold XT
  rw [evT]
  refine Rl.bind h fun a r q' ⟨h1, h2⟩ => ?_
  subst h1
  rw [h2]
  unfold tru
  dsimp only
  cases e1 : truD (V a) with
  | none => trivial
  | some c => refine Rl.ok ?_; exact ⟨(hF _ _).symm, (hV _ _).symm⟩
theorem xt_not {t : T} {m : Mo α} {V : α → Bool} {F : α → Fm} {V3 : γ → Bool} {F3 : γ → Fm} (g : α → γ) (h : XT K t q m V F) (hV : ∀ a, V3 (g a) = !V a := by intros; rfl) (hF : ∀ a, F3 (g a) = F a := by intros; rfl) : XT K (.not t) q (m >>= fun a => .ok (g a)) V3 F3 := by
  unfold XT
  rw [evT]
  refine Rl.bind h fun a r q' ⟨h1, h2⟩ => ?_
  subst h1 h2
  refine Rl.ok ?_; exact ⟨(hF _).symm, (hV _).symm⟩
theorem xt_any {t t' : T} {m : Mo α} {V : α → Bool} {F : α → Fm} {k : α → Mo γ} {n : α → γ} {V3 : γ → Bool} {F3 : γ → Fm} (h : XT K t q m V F) (h2 : ∀ a, XT K t' (F a) (k a) V3 F3) (hV : ∀ a, V3 (n a) = true := by intros; rfl) (hF : ∀ a, F3 (n a) = F a := by intros; rfl) :
    XT K (.any t t') q (m >>= fun a => if V a then .ok (n a) else k a) V3 F3 := by
  unfold XT
  rw [evT]
  refine Rl.bind h fun a r q' ⟨h1, h3⟩ => ?_
  subst h1 h3
  cases e1 : V a with
  | false => exact h2 a
  | true => refine Rl.ok ?_; exact ⟨(hF _).symm, (hV _).symm⟩
/-! choices -/
theorem xv_ife {t : T} {m : Mo α} {V : α → Bool} {F : α → Fm} {k k' : α → Mo γ} {V3 : γ → D} {F3 : γ → Fm} (h : XT K t q m V F) (ha : ∀ x, XV K a (F x) (k x) V3 F3) (hb : ∀ x, XV K b (F x) (k' x) V3 F3) : XV K (.ife t a b) q (m >>= fun x => if V x then k x else k' x) V3 F3 := fun pk => by
  rw [ev]
  refine Rl.bind h fun x r q' ⟨h1, h3⟩ => ?_
  subst h1 h3
  cases e1 : V x with
  | true => exact ha x false
  | false => exact hb x false
theorem xb_and {m : Mo α} {V : α → D} {F : α → Fm} {k : α → Mo γ} {n : α → γ} {V3 : γ → D} {F3 : γ → Fm} (h : XB K a q m V F) (h2 : ∀ x, XB K b (F x) (k x) V3 F3) (hV : ∀ x, V3 (n x) = .bl false := by intros; rfl) (hF : ∀ x, F3 (n x) = F x := by intros; rfl) :
    XB K (.andV a b) q (m >>= fun x => isB (V x) >>= fun c => if c then k x else .ok (n x)) V3 F3 := fun pk => by
  rw [ev]
  refine (h true).bind fun x r q' ⟨h1, h3⟩ => ?_
  subst h1
  subst h3
  cases e1 : V x with
  | bl c =>
    cases c
    · refine Rl.ok ?_; exact ⟨(hF x).symm, by rw [hV]⟩
    · exact h2 x false
  | _ => trivial
theorem xb_not {m : Mo α} {V : α → D} {F : α → Fm} {V3 : γ → D} {F3 : γ → Fm} (g : α → Bool → γ) (h : XA K e q m V F) (hV : ∀ a c, V3 (g a c) = .bl (!c) := by intros; rfl) (hF : ∀ a c, F3 (g a c) = F a := by intros; rfl) : XB K (.notV e) q (m >>= fun a => tru (V a) >>= fun c => .ok (g a c)) V3 F3 := fun pk => by
  rw [ev]
  refine Rl.bind h fun x r q' ⟨h1, h3⟩ => ?_
  subst h1
  rw [h3]
  unfold tru
  dsimp only
  cases e1 : truD (V x) with
  | none => trivial
  | some c => refine Rl.ok ?_; exact ⟨(hF _ _).symm, by rw [hV]⟩
theorem xb_chain {o1 o2 : P} {m1 : Mo α} {V1 : α → D} {F1 : α → Fm} {m2 : α → Mo β} {V2 : α → β → D} {F2 : α → β → Fm} {m3 : α → β → Mo γ} {V3 : α → β → γ → D} {F3 : α → β → γ → Fm} {V4 : δ → D} {F4 : δ → Fm} (n : α → β → δ) (g : α → β → γ → D → δ)
    (h1 : XV K a q m1 V1 F1) (h2 : ∀ x, XV K b (F1 x) (m2 x) (V2 x) (F2 x)) (h3 : ∀ x y, XV K c (F2 x y) (m3 x y) (V3 x y) (F3 x y))
    (hn : ∀ x y, V4 (n x y) = .bl false := by intros; rfl) (hnF : ∀ x y, F4 (n x y) = F2 x y := by intros; rfl) (hV : ∀ x y z d, V4 (g x y z d) = d := by intros; rfl) (hF : ∀ x y z d, F4 (g x y z d) = F3 x y z := by intros; rfl) :
    XB K (.chain o1 o2 a b c) q (m1 >>= fun x => m2 x >>= fun y => prm o1 [V1 x, V2 x y] >>= fun d => isB d >>= fun t => if t then m3 x y >>= fun z => prmV o2 [V2 x y, V3 x y z] >>= fun d => .ok (g x y z d) else .ok (n x y)) V4 F4 := fun pk => by
  rw [ev]
  refine (h1 false).bind fun x r1 q' ⟨e1, v1⟩ => ?_
  subst e1
  refine (h2 x false).bind fun y r2 q' ⟨e2, v2⟩ => ?_
  subst e2
  rw [v1, v2]
  dsimp only
  unfold prm
  cases e3 : evP o1 [V1 x, V2 x y] with
  | none => trivial
  | some z =>
    obtain ⟨fl, d⟩ := z
    cases d with
    | bl t =>
      cases t
      · refine Rl.ok ?_; exact ⟨(hnF x y).symm, by rw [hn]⟩
      · refine (h3 x y false).bind fun z r3 q' ⟨e4, v4⟩ => ?_
        subst e4
        rw [v4]
        dsimp only
        unfold prmV
        cases e5 : evP o2 [V2 x y, V3 x y z] with
        | none => trivial
        | some w =>
          obtain ⟨fl2, d2⟩ := w
          cases fl2
          · refine Rl.ok ?_; exact ⟨(hF _ _ _ _).symm, by rw [hV]⟩
          · trivial
    | _ => trivial
theorem xb_prm {es : Es} {m : Mo α} {V : α → List D} {F : α → Fm} {V3 : γ → D} {F3 : γ → Fm} (g : α → D → γ) (h : XS K es q m V F) (hV : ∀ a d, V3 (g a d) = d := by intros; rfl) (hF : ∀ a d, F3 (g a d) = F a := by intros; rfl) : XB K (.prm p es) q (m >>= fun a => prmV p (V a) >>= fun d => .ok (g a d)) V3 F3 := fun pk => by
  rw [ev]
  refine Rl.bind h fun a rs q' ⟨h1, h2⟩ => ?_
  subst h1
  unfold primR
  rw [h2]
  unfold prmV
  dsimp only
  cases e1 : evP p (V a) with
  | none => trivial
  | some x =>
    obtain ⟨fl, d⟩ := x
    cases fl
    · refine Rl.ok ?_; exact ⟨(hF a d).symm, by rw [hV]⟩
    · trivial
theorem xb_fld {c k : Nat} {m : Mo α} {V : α → D} {F : α → Fm} {V3 : γ → D} {F3 : γ → Fm} (g : α → D → γ) (h : XB K e q m V F) (hV : ∀ a d, V3 (g a d) = d := by intros; rfl) (hF : ∀ a d, F3 (g a d) = F a := by intros; rfl) : XB K (.fld c k e) q (m >>= fun a => fldM c k (V a) >>= fun d => .ok (g a d)) V3 F3 := fun pk => by
  rw [ev]
  refine (h false).bind fun a r q' ⟨h1, h2⟩ => ?_
  subst h1 h2
  cases V a with
  | ins c' fs =>
    unfold fldM
    dsimp only
    by_cases hc : c' = c
    · rw [if_pos hc, if_pos hc]
      cases fs[k]? with
      | none => trivial
      | some d => refine Rl.ok ?_; exact ⟨(hF _ _).symm, by rw [hV]⟩
    · rw [if_neg hc, if_neg hc]
      trivial
  | _ => trivial
theorem xn_zipS {m : Mo α} {V : α → D} {F : α → Fm} {V3 : γ → D} {F3 : γ → Fm} (g : α → List D → γ) (h : XA K e q m V F) (hV : ∀ a d, V3 (g a d) = .lst d := by intros; rfl) (hF : ∀ a d, F3 (g a d) = F a := by intros; rfl) : XN K (.zipS e) q (m >>= fun a => seqM (V a) >>= fun l => optM (zipSR l) >>= fun d => .ok (g a d)) V3 F3 := fun pk => by
  rw [ev]
  refine Rl.bind h fun a r q' ⟨h1, h2⟩ => ?_
  subst h1
  unfold starR
  rw [h2]
  unfold seqM
  cases e1 : seqD (V a) with
  | none => trivial
  | some l =>
    dsimp only
    rw [e1]
    rw [ok_bind]
    dsimp only
    unfold optM
    cases e2 : zipSR l with
    | none => trivial
    | some cs => refine Rl.ok ?_; exact ⟨(hF _ _).symm, by rw [hV]⟩
/-! arguments, calls -/
theorem xg_nil : XG K .nil q (.ok []) (fun l => l) (Fc q) := by
  unfold XG
  rw [evG]
  refine Rl.ok ?_; exact ⟨rfl, rfl⟩
theorem xg_v {m : Mo α} {V : α → D} {F : α → Fm} {k : α → Mo β} {V2 : α → β → List Ga} {F2 : α → β → Fm} {r : Gs} {V3 : γ → List Ga} {F3 : γ → Fm} (g : α → β → γ) (h : XV K e q m V F) (h2 : ∀ a, XG K r (F a) (k a) (V2 a) (F2 a))
    (hV : ∀ a b, V3 (g a b) = .v (V a) :: V2 a b := by intros; rfl) (hF : ∀ a b, F3 (g a b) = F2 a b := by intros; rfl) : XG K (.v e r) q (m >>= fun a => k a >>= fun b => .ok (g a b)) V3 F3 := by
  unfold XG
  rw [evG]
  refine (h false).bind fun a r q' ⟨h3, h4⟩ => ?_
  subst h3
  rw [h4]
  refine (h2 a).bind fun b rs q' ⟨h5, h6⟩ => ?_
  subst h5 h6
  refine Rl.ok ?_; exact ⟨(hF a b).symm, (hV a b).symm⟩
theorem xg_b {i : Nat} {bo : Bool} {d : D} {k : Mo β} {V2 : β → List Ga} {F2 : β → Fm} {r : Gs} {V3 : γ → List Ga} {F3 : γ → Fm} (g : β → γ) (hi : q[i]? = some (.ow bo d)) (h2 : XG K r q k V2 F2)
    (hV : ∀ b, V3 (g b) = .b i :: V2 b := by intros; rfl) (hF : ∀ b, F3 (g b) = F2 b := by intros; rfl) : XG K (.b i r) q (k >>= fun b => .ok (g b)) V3 F3 := by
  unfold XG
  rw [evG, hi]
  refine Rl.bind h2 fun b rs q' ⟨h5, h6⟩ => ?_
  subst h5 h6
  refine Rl.ok ?_; exact ⟨(hF b).symm, (hV b).symm⟩
/-- what a def gives -/
def FV {α : Type} (K : Calls) (f : Nat) (as : Fm) (m : Mo α) (V : α → D) (B : α → Fm → Prop) : Prop := Rl (K.fn f as) m fun a r q' => r = .val (V a) ∧ B a q'
def FN {α : Type} (K : Calls) (f : Nat) (as : Fm) (m : Mo α) (V : α → D) (B : α → Fm → Prop) : Prop := Rl (K.fn f as) m fun a r q' => r = .new (V a) ∧ B a q'
theorem xb_call {f : Nat} {gs : Gs} {m : Mo α} {V : α → List Ga} {F : α → Fm} {as : α → Fm} {mf : α → Mo β} {V2 : α → β → D} {B : α → β → Fm → Prop} {V3 : γ → D} {F3 : γ → Fm} (g : α → β → γ) (h : XG K gs q m V F) (hf : ∀ a, FV K f (as a) (mf a) (V2 a) (B a))
    (hl : ∀ a, lent (F a) (V a) = some (as a) := by intros; rfl) (hn : ∀ a, (lentIx (V a)).Nodup := by intros; first | exact List.nodup_nil | decide) (hb : ∀ a b q', B a b q' → giveBack (V a) q' (F a) = F3 (g a b) := by intros; rfl) (hV : ∀ a b, V3 (g a b) = V2 a b := by intros; rfl) :
    XB K (.call f gs) q (m >>= fun a => mf a >>= fun b => .ok (g a b)) V3 F3 := fun pk => by
  rw [ev]
  refine Rl.bind h fun a l q' ⟨h1, h2⟩ => ?_
  subst h1 h2
  unfold callR
  rw [if_pos (hn a), hl a]
  dsimp only
  have z := hf a
  unfold FV at z
  cases e1 : mf a with
  | bad => trivial
  | exc c ds =>
    rw [e1] at z
    obtain ⟨q', e2⟩ := z
    rw [e2]
    exact ⟨_, rfl⟩
  | ok b =>
    rw [e1] at z
    obtain ⟨r, q', e2, rfl, hB⟩ := z
    rw [e2]
    refine Rl.ok ?_; exact ⟨hb a b q' hB, by rw [hV]⟩
theorem xn_call {f : Nat} {gs : Gs} {m : Mo α} {V : α → List Ga} {F : α → Fm} {as : α → Fm} {mf : α → Mo β} {V2 : α → β → D} {B : α → β → Fm → Prop} {V3 : γ → D} {F3 : γ → Fm} (g : α → β → γ) (h : XG K gs q m V F) (hf : ∀ a, FN K f (as a) (mf a) (V2 a) (B a))
    (hl : ∀ a, lent (F a) (V a) = some (as a) := by intros; rfl) (hn : ∀ a, (lentIx (V a)).Nodup := by intros; first | exact List.nodup_nil | decide) (hb : ∀ a b q', B a b q' → giveBack (V a) q' (F a) = F3 (g a b) := by intros; rfl) (hV : ∀ a b, V3 (g a b) = V2 a b := by intros; rfl) :
    XN K (.call f gs) q (m >>= fun a => mf a >>= fun b => .ok (g a b)) V3 F3 := fun pk => by
  rw [ev]
  refine Rl.bind h fun a l q' ⟨h1, h2⟩ => ?_
  subst h1 h2
  unfold callR
  rw [if_pos (hn a), hl a]
  dsimp only
  have z := hf a
  unfold FN at z
  cases e1 : mf a with
  | bad => trivial
  | exc c ds =>
    rw [e1] at z
    obtain ⟨q', e2⟩ := z
    rw [e2]
    exact ⟨_, rfl⟩
  | ok b =>
    rw [e1] at z
    obtain ⟨r, q', e2, rfl, hB⟩ := z
    rw [e2]
    refine Rl.ok ?_; exact ⟨hb a b q' hB, by rw [hV]⟩
/-- a new list handed to a def that writes into it -/
theorem xb_callO {f : Nat} {m : Mo α} {V : α → D} {F : α → Fm} {mf : α → Mo β} {V2 : α → β → D} {B : α → β → Fm → Prop} {V3 : γ → D} {F3 : γ → Fm} (g : α → β → γ) (h : XN K e q m V F) (hf : ∀ a, FV K f [.ow false (V a)] (mf a) (V2 a) (B a))
    (hV : ∀ a b, V3 (g a b) = V2 a b := by intros; rfl) (hF : ∀ a b, F3 (g a b) = F a := by intros; rfl) : XB K (.callO f e) q (m >>= fun a => mf a >>= fun b => .ok (g a b)) V3 F3 := fun pk => by
  rw [ev]
  refine (h false).bind fun a r q' ⟨h1, h2⟩ => ?_
  subst h1 h2
  dsimp only
  have z := hf a
  unfold FV at z
  cases e1 : mf a with
  | bad => trivial
  | exc c ds =>
    rw [e1] at z
    obtain ⟨q', e2⟩ := z
    rw [e2]
    exact ⟨_, rfl⟩
  | ok b =>
    rw [e1] at z
    obtain ⟨r, q', e2, rfl, hB⟩ := z
    rw [e2]
    refine Rl.ok ?_; exact ⟨(hF a b).symm, by rw [hV]⟩
/-- what a constructor gives -/
def CV (K : Calls) (c : Nat) (as : Fm) (m : Mo (List D)) : Prop := Rl (K.cn c as) m fun fs l q' => l = fs
theorem xb_make {c : Nat} {gs : Gs} {m : Mo α} {V : α → List Ga} {F : α → Fm} {as : α → Fm} {mf : α → Mo (List D)} {V3 : γ → D} {F3 : γ → Fm} (g : α → List D → γ) (h : XG K gs q m V F) (hf : ∀ a, CV K c (as a) (mf a))
    (hl : ∀ a, lent (F a) (V a) = some (as a) := by intros; rfl) (hn : ∀ a, lentIx (V a) = [] := by intros; rfl) (hV : ∀ a b, V3 (g a b) = .ins c b := by intros; rfl) (hF : ∀ a b, F3 (g a b) = F a := by intros; rfl) :
    XB K (.make c gs) q (m >>= fun a => mf a >>= fun b => .ok (g a b)) V3 F3 := fun pk => by
  rw [ev]
  refine Rl.bind h fun a l q' ⟨h1, h2⟩ => ?_
  subst h1 h2
  unfold makeR
  rw [if_pos (hn a), hl a]
  dsimp only
  have z := hf a
  unfold CV at z
  cases e1 : mf a with
  | bad => trivial
  | exc c ds =>
    rw [e1] at z
    obtain ⟨q', e2⟩ := z
    rw [e2]
    exact ⟨_, rfl⟩
  | ok b =>
    rw [e1] at z
    obtain ⟨r, q', e2, rfl⟩ := z
    rw [e2]
    refine Rl.ok ?_; exact ⟨(hF a r).symm, by rw [hV]⟩
theorem xb_prop {c f : Nat} {m : Mo α} {V : α → D} {F : α → Fm} {mf : D → Mo D} {B : α → D → Fm → Prop} {V3 : γ → D} {F3 : γ → Fm} (g : α → D → γ) (h : XB K e q m V F) (hf : ∀ a, FV K f [.sh false (V a)] (mf (V a)) I1 (B a))
    (hV : ∀ a b, V3 (g a b) = b := by intros; rfl) (hF : ∀ a b, F3 (g a b) = F a := by intros; rfl) : XB K (.prop c f e) q (m >>= fun a => isI c (V a) >>= fun _ => noExc (mf (V a)) >>= fun b => .ok (g a b)) V3 F3 := fun pk => by
  rw [ev]
  refine (h false).bind fun a r q' ⟨h1, h2⟩ => ?_
  subst h1 h2
  have z := hf a
  cases e0 : V a with
  | ins c' fs =>
    unfold isI
    dsimp only
    by_cases hc : c' = c
    · subst hc
      rw [if_pos rfl, if_pos rfl]
      rw [e0] at z
      unfold FV at z
      cases e1 : mf (.ins c' fs) with
      | bad => trivial
      | exc c ds => trivial
      | ok b =>
        rw [e1] at z
        obtain ⟨r, q', e2, rfl, hB⟩ := z
        rw [e2]
        refine Rl.ok ?_; exact ⟨(hF a b).symm, by rw [hV]⟩
    · rw [if_neg hc, if_neg hc]
      trivial
  | _ => trivial
end
end M

set_option Elab.async false
set_option linter.all false
set_option maxRecDepth 100000
set_option maxHeartbeats 1000000
/-! C2: walks, targets, comprehensions. -/
namespace M
open PySem
/-- a list's place gets another value -/
def putM : D → D → D → Mo D
  | .lst xs, .int z, v => match L2.ixN xs.length z with
    | some j => .ok (.lst (xs.set j v))
    | none => .bad
  | _, _, _ => .bad
section
variable {α β γ δ τ : Type} {K : Calls} {q : Fm} {e a b c : E} {p : P} {pk : Bool}
theorem vds1 {r : RV} {d : D} (h : r.vd = some d) : vds [r] = some [d] := by simp [vds, h]
theorem vds2 {r r' : RV} {d d' : D} (h : r.vd = some d) (h' : r'.vd = some d') : vds [r, r'] = some [d, d'] := by simp [vds, h, h']
theorem vds3 {r r' r2 : RV} {d d' d2 : D} (h : r.vd = some d) (h' : r'.vd = some d') (h2 : r2.vd = some d2) : vds [r, r', r2] = some [d, d', d2] := by simp [vds, h, h', h2]
theorem rl_it {rs : List RV} {ds : List D} {f : List D → Option (List D)} {V3 : List D → γ} {P : γ → List D → Fm → Prop} (hr : vds rs = some ds) (hP : ∀ l, P (V3 l) l q) : Rl (itR rs q f) (optM (f ds) >>= fun l => .ok (V3 l)) P := by
  unfold itR
  rw [hr]
  dsimp only
  unfold optM
  cases f ds with
  | none => trivial
  | some l => exact Rl.ok (hP l)
theorem xi_seq {m : Mo α} {V : α → D} {F : α → Fm} {V3 : γ → List D} {F3 : γ → Fm} (g : α → List D → γ) (h : XV K e q m V F) (hV : ∀ a l, V3 (g a l) = l := by intros; rfl) (hF : ∀ a l, F3 (g a l) = F a := by intros; rfl) :
    XI K (.seq e) q (m >>= fun a => itemsM (V a) >>= fun l => .ok (g a l)) V3 F3 := by
  unfold XI
  rw [evI]
  refine (h false).bind fun a r q' ⟨h1, h2⟩ => ?_
  subst h1
  rw [h2]
  unfold itemsM
  dsimp only
  cases e1 : itemsD (V a) with
  | none => trivial
  | some l => refine Rl.ok ?_; exact ⟨(hF _ _).symm, (hV _ _).symm⟩
theorem xi_rng1 {m : Mo α} {V : α → D} {F : α → Fm} {V3 : γ → List D} {F3 : γ → Fm} (g : α → List D → γ) (h : XV K a q m V F) (hV : ∀ a l, V3 (g a l) = l := by intros; rfl) (hF : ∀ a l, F3 (g a l) = F a := by intros; rfl) :
    XI K (.rng1 a) q (m >>= fun a => optM (rng1F [V a]) >>= fun l => .ok (g a l)) V3 F3 := by
  unfold XI
  rw [evI]
  refine (h false).bind fun a r q' ⟨h1, h2⟩ => ?_
  subst h1
  exact rl_it (vds1 h2) fun l => ⟨(hF _ _).symm, (hV _ _).symm⟩
theorem xi_enm {m : Mo α} {V : α → D} {F : α → Fm} {V3 : γ → List D} {F3 : γ → Fm} (g : α → List D → γ) (h : XV K a q m V F) (hV : ∀ a l, V3 (g a l) = l := by intros; rfl) (hF : ∀ a l, F3 (g a l) = F a := by intros; rfl) :
    XI K (.enm a) q (m >>= fun a => optM (enmF [V a]) >>= fun l => .ok (g a l)) V3 F3 := by
  unfold XI
  rw [evI]
  refine (h false).bind fun a r q' ⟨h1, h2⟩ => ?_
  subst h1
  exact rl_it (vds1 h2) fun l => ⟨(hF _ _).symm, (hV _ _).symm⟩
theorem xi_zip {m : Mo α} {V : α → D} {F : α → Fm} {m2 : α → Mo β} {V2 : α → β → D} {F2 : α → β → Fm} {V3 : γ → List D} {F3 : γ → Fm} (g : α → β → List D → γ) (h : XV K a q m V F) (h2 : ∀ x, XV K b (F x) (m2 x) (V2 x) (F2 x))
    (hV : ∀ a b l, V3 (g a b l) = l := by intros; rfl) (hF : ∀ a b l, F3 (g a b l) = F2 a b := by intros; rfl) :
    XI K (.zip a b) q (m >>= fun a => m2 a >>= fun b => optM (zipF [V a, V2 a b]) >>= fun l => .ok (g a b l)) V3 F3 := by
  unfold XI
  rw [evI]
  refine (h false).bind fun x r q' ⟨h1, v1⟩ => ?_
  subst h1
  refine (h2 x false).bind fun y r q' ⟨h1, v2⟩ => ?_
  subst h1
  exact rl_it (vds2 v1 v2) fun l => ⟨(hF _ _ _).symm, (hV _ _ _).symm⟩
theorem xi_rng3 {m : Mo α} {V : α → D} {F : α → Fm} {m2 : α → Mo β} {V2 : α → β → D} {F2 : α → β → Fm} {m3 : α → β → Mo δ} {V4 : α → β → δ → D} {F4 : α → β → δ → Fm} {V3 : γ → List D} {F3 : γ → Fm} (g : α → β → δ → List D → γ) (h : XV K a q m V F) (h2 : ∀ x, XV K b (F x) (m2 x) (V2 x) (F2 x)) (h3 : ∀ x y, XV K c (F2 x y) (m3 x y) (V4 x y) (F4 x y))
    (hV : ∀ a b c l, V3 (g a b c l) = l := by intros; rfl) (hF : ∀ a b c l, F3 (g a b c l) = F4 a b c := by intros; rfl) :
    XI K (.rng3 a b c) q (m >>= fun a => m2 a >>= fun b => m3 a b >>= fun c => optM (rng3F [V a, V2 a b, V4 a b c]) >>= fun l => .ok (g a b c l)) V3 F3 := by
  unfold XI
  rw [evI]
  refine (h false).bind fun x r q' ⟨h1, v1⟩ => ?_
  subst h1
  refine (h2 x false).bind fun y r q' ⟨h1, v2⟩ => ?_
  subst h1
  refine (h3 x y false).bind fun z r q' ⟨h1, v3⟩ => ?_
  subst h1
  exact rl_it (vds3 v1 v2 v3) fun l => ⟨(hF _ _ _ _).symm, (hV _ _ _ _).symm⟩
/-! ### targets -/
def fr1 (q : Fm) (i : Nat) : Bool := match q[i]? with
  | some s => !s.isBor
  | none => false
theorem setName_v {q : Fm} {i : Nat} {d : D} (h : fr1 q i = true) : setName i (.val d) q = .ok () (q.set i (.sh false d)) := by
  unfold fr1 at h
  unfold setName
  cases e : q[i]? with
  | none => rw [e] at h; cases h
  | some s =>
    rw [e] at h
    have hb : s.isBor = false := by simpa using h
    simp [hb]
theorem setName_n {q : Fm} {i : Nat} {d : D} (h : fr1 q i = true) : setName i (.new d) q = .ok () (q.set i (.ow false d)) := by
  unfold fr1 at h
  unfold setName
  cases e : q[i]? with
  | none => rw [e] at h; cases h
  | some s =>
    rw [e] at h
    have hb : s.isBor = false := by simpa using h
    simp [hb]
theorem xl_nm {i : Nat} {d : D} {F : D → Fm} (hs : fr1 q i = true := by rfl) (hF : q.set i (.sh false d) = F d := by rfl) : XTg K (.nm i) d q (.ok d) F := by
  unfold XTg
  show setName i (.val d) q = _
  rw [setName_v hs, hF]
theorem xl_mk {l : LV} {d : D} {m : Mo τ} {F : τ → Fm} (h : ∀ t, m = .ok t → evL K l (.val d) q = .ok () (F t)) (n : ∀ c ds, m ≠ .exc c ds) : XTg K l d q m F := by
  unfold XTg
  cases m with
  | ok t => exact h t rfl
  | exc c ds => exact n c ds rfl
  | bad => trivial
theorem putM_exc {x k d : D} {c : Nat} {ds : List D} : putM x k d ≠ .exc c ds := by
  cases x with
  | lst xs =>
    cases k with
    | int z =>
      intro h
      unfold putM at h
      dsimp only at h
      cases e : L2.ixN xs.length z with
      | none => rw [e] at h; cases h
      | some j => rw [e] at h; cases h
    | _ => exact fun h => nomatch h
  | _ => intro h; cases k <;> cases h
theorem put_eq {i : Nat} {d x k y : D} {bo : Bool} (hi : q[i]? = some (.ow bo x)) (h : putM x k d = .ok y) : setSub i k d q = .ok () (q.set i (.ow bo y)) := by
  unfold setSub
  rw [hi]
  cases x with
  | lst xs =>
    cases k with
    | int z =>
      unfold putM at h
      dsimp only at h ⊢
      cases e : L2.ixN xs.length z with
      | none => rw [e] at h; cases h
      | some j => rw [e] at h; cases h; rfl
    | _ => cases h
  | _ => cases k <;> cases h
theorem xl_sub {i : Nat} {k : E} {d x : D} {bo : Bool} {mk : Mo D} {F : D → Fm} (hi : q[i]? = some (.ow bo x)) (hk : XB K k q mk I1 (Fc q)) (hF : ∀ y, q.set i (.ow bo y) = F y := by intros; rfl) : XTg K (.sub i k) d q (noExc mk >>= fun z => putM x z d) F := xl_mk (n := fun c ds h => by
    cases mk with
    | ok z => exact putM_exc h
    | _ => cases h) fun t ht => by
  have z := hk false
  cases e1 : mk with
  | bad => rw [e1] at ht; cases ht
  | exc _ _ => rw [e1] at ht; cases ht
  | ok k0 =>
    rw [e1] at z ht
    obtain ⟨r, q', e2, h1, h2⟩ := z
    rw [evL, hi]
    show (match ev K k false q with | .ok (.val z) q1 => setSub i z d q1 | _ => .bad) = _
    rw [e2, h2, h1]
    show setSub i k0 d q = _
    rw [put_eq hi ht, hF]
def XTgs {τ : Type} (K : Calls) (l : LVs) (ds : List D) (q : Fm) (m : Mo τ) (F : τ → Fm) : Prop := match m with
  | .ok t => evLs K l ds q = .ok () (F t)
  | .exc _ _ => False
  | .bad => True
theorem xls_one {l : LV} {d : D} {m : Mo τ} {F : τ → Fm} (h : XTg K l d q m F) : XTgs K (.cons l .nil) [d] q m F := by
  unfold XTgs
  unfold XTg at h
  cases m with
  | ok t =>
    rw [evLs, h]
    show evLs K .nil [] (F t) = _
    rw [evLs]
  | exc _ _ => exact h
  | bad => trivial
theorem xls_cons {l : LV} {r : LVs} {d : D} {ds : List D} {m : Mo α} {F : α → Fm} {k : α → Mo β} {F2 : α → β → Fm} {F3 : γ → Fm} (g : α → β → γ) (h : XTg K l d q m F) (h2 : ∀ t, XTgs K r ds (F t) (k t) (F2 t)) (hF : ∀ a b, F3 (g a b) = F2 a b := by intros; rfl) :
    XTgs K (.cons l r) (d :: ds) q (m >>= fun a => k a >>= fun b => .ok (g a b)) F3 := by
  unfold XTg at h
  cases m with
  | ok t =>
    rw [ok_bind]
    have z := h2 t
    unfold XTgs at z ⊢
    cases e : k t with
    | ok u =>
      rw [e] at z
      rw [ok_bind, evLs, h]
      dsimp only
      rw [z, hF]
    | exc _ _ => rw [e] at z; exact z
    | bad => trivial
  | exc _ _ => exact h.elim
  | bad => trivial
theorem xl_tp2 {l : LVs} {d : D} {m : D → D → Mo τ} {F : τ → Fm} (h : ∀ a b, XTgs K l [a, b] q (m a b) F) (hl : l.len = 2 := by rfl) : XTg K (.tp l) d q (un2 d >>= fun x => m x.1 x.2) F := by
  unfold XTg
  cases d with
  | tup ds =>
    match ds with
    | [a, b] =>
      show match m a b with | .ok t => evL K (.tp l) (.val (.tup [a, b])) q = .ok () (F t) | .exc _ _ => False | .bad => True
      rw [evL]
      show match m a b with | .ok t => (if [a, b].length = l.len then evLs K l [a, b] q else .bad) = .ok () (F t) | .exc _ _ => False | .bad => True
      rw [if_pos (by rw [hl]; rfl)]
      exact h a b
    | [] => trivial
    | [_] => trivial
    | _ :: _ :: _ :: _ => trivial
  | _ => trivial
/-- two names -/
theorem xl_nn {i j : Nat} {d : D} {F : D × D → Fm} (hi : fr1 q i = true := by rfl) (hj : ∀ a, fr1 (q.set i (.sh false a)) j = true := by intros; rfl) (hF : ∀ a b, (q.set i (.sh false a)).set j (.sh false b) = F (a, b) := by intros; rfl) : XTg K (.tp (.cons (.nm i) (.cons (.nm j) .nil))) d q (un2 d) F := by
  have z := xl_tp2 (K := K) (q := q) (l := .cons (.nm i) (.cons (.nm j) .nil)) (d := d) (m := fun a b => .ok (a, b)) (F := F) fun a b => by
    show evLs K (.cons (.nm i) (.cons (.nm j) .nil)) [a, b] q = .ok () (F (a, b))
    rw [evLs]
    show (match setName i (.val a) q with | .ok _ q1 => evLs K (.cons (.nm j) .nil) [b] q1 | _ => .bad) = _
    rw [setName_v hi]
    dsimp only
    rw [evLs]
    show (match setName j (.val b) (q.set i (.sh false a)) with | .ok _ q1 => evLs K .nil [] q1 | _ => .bad) = _
    rw [setName_v (hj a)]
    dsimp only
    rw [evLs, hF]
  have e : (un2 d >>= fun x => Mo.ok (x.1, x.2)) = un2 d := by cases un2 d <;> rfl
  rw [e] at z
  exact z
/-! ### comprehensions -/
/-- a frame of a comprehension's turn: as at its start, but for its own names -/
structure CFr (vs : List Nat) (Q Q0 q : Fm) : Prop where
  w : wipeF vs q = Q0
  b : backF vs Q q = Q
/-- one turn: a value, or none -/
def Tn (K : Calls) (vs : List Nat) (g : LV) (t : T) (e : E) (Q Q0 : Fm) (d : D) (m : Mo (Option D)) : Prop := match m with
  | .ok x => ∃ q1 c q2, evL K g (.val d) Q0 = .ok () q1 ∧ evT K t q1 = .ok c q2 ∧ match x with
    | none => c = false ∧ noOw vs q2 = true ∧ CFr vs Q Q0 q2
    | some y => c = true ∧ ∃ r q3, ev K e false q2 = .ok r q3 ∧ r.vd = some y ∧ noOw vs q3 = true ∧ CFr vs Q Q0 q3
  | _ => True
theorem lc_fil {vs : List Nat} {g : LV} {t : T} {Q Q0 : Fm} {f : D → Mo (Option D)} (st : ∀ d, Tn K vs g t e Q Q0 d (f d)) : ∀ (l acc r : List D) (q : Fm), filA f l = .ok r → acc.length + l.length ≤ sizeLine → CFr vs Q Q0 q → ∃ q', loopC vs (fun d q => evL K g (.val d) q) (evT K t) (ev K e false) acc l q = .ok (acc ++ r) q' ∧ CFr vs Q Q0 q'
  | [], acc, r, q, h, hl, c => by cases h; exact ⟨q, by simp [loopC], c⟩
  | d :: l, acc, r, q, h, hl, c => by
    rw [filA] at h
    have z := st d
    unfold Tn at z
    cases e1 : f d with
    | ok x =>
      rw [e1, ok_bind] at h
      rw [e1] at z
      cases e2 : filA f l with
      | ok s =>
        rw [e2, ok_bind] at h
        obtain ⟨q1, cc, q2, z1, z2, z3⟩ := z
        have ha : acc.length < sizeLine := by simp at hl; omega
        cases x with
        | none =>
          obtain ⟨rfl, z4, z5⟩ := z3
          obtain ⟨q', h1, h2⟩ := lc_fil st l acc s q2 e2 (by simp at hl; omega) z5
          cases h
          refine ⟨q', ?_, h2⟩
          rw [loopC, c.w, z1]
          simp only [z2]
          rw [if_pos z4]
          exact h1
        | some y =>
          obtain ⟨rfl, rr, q3, z4, z5, z6, z7⟩ := z3
          obtain ⟨q', h1, h2⟩ := lc_fil st l (acc ++ [y]) s q3 e2 (by simp at hl ⊢; omega) z7
          cases h
          refine ⟨q', ?_, h2⟩
          rw [loopC, c.w, z1]
          simp only [z2, z4, z5]
          rw [if_pos (by rw [z6, decide_eq_true ha]; rfl), h1]
          simp
      | _ => rw [e2] at h; cases h
    | _ => rw [e1] at h; cases h
theorem xn_lc {vs : List Nat} {g : LV} {it : I} {t : T} {mi : Mo α} {Vi : α → List D} {Fi Q0 : α → Fm} {f : α → D → Mo (Option D)} {V3 : γ → D} {F3 : γ → Fm} (gg : α → List D → γ) (hi : XI K it q mi Vi Fi) (st : ∀ a d, Tn K vs g t e (Fi a) (Q0 a) d (f a d))
    (hn : ∀ a, noOw vs (Fi a) = true := by intros; rfl) (hw : ∀ a, wipeF vs (Fi a) = Q0 a := by intros; rfl) (hb : ∀ a, backF vs (Fi a) (Fi a) = Fi a := by intros; rfl) (hV : ∀ a l, V3 (gg a l) = .lst l := by intros; rfl) (hF : ∀ a l, F3 (gg a l) = Fi a := by intros; rfl) :
    XN K (.lc vs g it t e) q (mi >>= fun a => filL (f a) (Vi a) >>= fun l => .ok (gg a l)) V3 F3 := fun pk => by
  rw [ev]
  refine Rl.bind hi fun a l q' ⟨h1, h2⟩ => ?_
  subst h1 h2
  rw [if_pos (hn a)]
  unfold filL
  by_cases hl : (Vi a).length ≤ sizeLine
  · rw [if_pos hl]
    cases e1 : filA (f a) (Vi a) with
    | ok r =>
      obtain ⟨q', h1, h2⟩ := lc_fil (st a) (Vi a) [] r (Fi a) e1 (by simpa using hl) ⟨hw a, hb a⟩
      rw [h1]
      refine Rl.ok ?_
      exact ⟨by rw [hF, h2.b], by rw [hV]; rfl⟩
    | _ => trivial
  · rw [if_neg hl]
    trivial
def Tn1 (K : Calls) (vs : List Nat) (g : LV) (e : E) (Q Q0 : Fm) (d : D) (m : Mo D) : Prop := match m with
  | .ok y => ∃ q1, evL K g (.val d) Q0 = .ok () q1 ∧ ∃ r q3, ev K e false q1 = .ok r q3 ∧ r.vd = some y ∧ noOw vs q3 = true ∧ CFr vs Q Q0 q3
  | _ => True
theorem mapA_fil (f : D → Mo D) : ∀ l : List D, mapA f l = filA (fun d => f d >>= fun y => .ok (some y)) l
  | [] => rfl
  | d :: l => by
    rw [mapA, filA, mapA_fil f l]
    cases f d with
    | ok x => rfl
    | _ => rfl
theorem mapL_fil (f : D → Mo D) (l : List D) : mapL f l = filL (fun d => f d >>= fun y => .ok (some y)) l := by
  unfold mapL filL
  rw [mapA_fil]
theorem xn_lcM {vs : List Nat} {g : LV} {it : I} {mi : Mo α} {Vi : α → List D} {Fi Q0 : α → Fm} {f : α → D → Mo D} {V3 : γ → D} {F3 : γ → Fm} (gg : α → List D → γ) (hi : XI K it q mi Vi Fi) (st : ∀ a d, Tn1 K vs g e (Fi a) (Q0 a) d (f a d))
    (hn : ∀ a, noOw vs (Fi a) = true := by intros; rfl) (hw : ∀ a, wipeF vs (Fi a) = Q0 a := by intros; rfl) (hb : ∀ a, backF vs (Fi a) (Fi a) = Fi a := by intros; rfl) (hV : ∀ a l, V3 (gg a l) = .lst l := by intros; rfl) (hF : ∀ a l, F3 (gg a l) = Fi a := by intros; rfl) :
    XN K (.lc vs g it .yes e) q (mi >>= fun a => mapL (f a) (Vi a) >>= fun l => .ok (gg a l)) V3 F3 := by
  have z := xn_lc (K := K) (q := q) (e := e) (vs := vs) (g := g) (it := it) (t := .yes) (f := fun a d => f a d >>= fun y => .ok (some y)) gg hi (fun a d => by
    have z := st a d
    unfold Tn1 at z
    unfold Tn
    cases e1 : f a d with
    | ok y =>
      rw [e1] at z
      obtain ⟨q1, h1, r, q3, h2, h3, h4, h5⟩ := z
      exact ⟨q1, true, q1, h1, by rw [evT], rfl, r, q3, h2, h3, h4, h5⟩
    | _ => trivial) hn hw hb hV hF
  simp only [← mapL_fil] at z
  exact z
/-- a turn by its parts -/
theorem tn1_of {vs : List Nat} {g : LV} {Q Q0 : Fm} {d : D} {pt : Mo τ} {Fp : τ → Fm} {m : τ → Mo D} {Fe : τ → D → Fm} (hp : XTg K g d Q0 pt Fp) (he : ∀ t, XV K e (Fp t) (m t) I1 (Fe t)) (hn : ∀ t y, noOw vs (Fe t y) = true := by intros; rfl) (hc : ∀ t y, CFr vs Q Q0 (Fe t y) := by intros; exact ⟨rfl, rfl⟩) : Tn1 K vs g e Q Q0 d (pt >>= m) := by
  unfold XTg at hp
  unfold Tn1
  cases pt with
  | ok t =>
    rw [ok_bind]
    have z := he t false
    cases e1 : m t with
    | ok y =>
      rw [e1] at z
      obtain ⟨r, q3, z1, z2, z3⟩ := z
      subst z2
      exact ⟨Fp t, hp, r, _, z1, z3, hn t y, hc t y⟩
    | _ => trivial
  | _ => trivial
theorem tn_of {vs : List Nat} {g : LV} {t : T} {Q Q0 : Fm} {d : D} {pt : Mo τ} {Fp : τ → Fm} {mt : τ → Mo Bool} {m : τ → Mo D} {Fe : τ → D → Fm} (hp : XTg K g d Q0 pt Fp) (ht : ∀ x, XT K t (Fp x) (mt x) (fun b => b) (fun _ => Fp x)) (he : ∀ x, XV K e (Fp x) (m x) I1 (Fe x))
    (hn : ∀ x, noOw vs (Fp x) = true := by intros; rfl) (hc : ∀ x, CFr vs Q Q0 (Fp x) := by intros; exact ⟨rfl, rfl⟩) (hn2 : ∀ x y, noOw vs (Fe x y) = true := by intros; rfl) (hc2 : ∀ x y, CFr vs Q Q0 (Fe x y) := by intros; exact ⟨rfl, rfl⟩) :
    Tn K vs g t e Q Q0 d (pt >>= fun x => mt x >>= fun c => if c then m x >>= fun y => .ok (some y) else .ok none) := by
  unfold XTg at hp
  unfold Tn
  cases pt with
  | ok x =>
    rw [ok_bind]
    have z0 := ht x
    unfold XT at z0
    cases e0 : mt x with
    | ok c =>
      rw [e0] at z0
      obtain ⟨c', q', z1, z2, z3⟩ := z0
      subst z2
      have z3 : c' = c := z3
      subst z3
      rw [ok_bind]
      cases c' with
      | false => exact ⟨Fp x, false, Fp x, hp, z1, rfl, hn x, hc x⟩
      | true =>
        rw [if_pos rfl]
        have z := he x false
        cases e1 : m x with
        | ok y =>
          rw [e1] at z
          obtain ⟨r, q3, z4, z5, z6⟩ := z
          subst z5
          exact ⟨Fp x, true, Fp x, hp, z1, rfl, r, _, z4, z6, hn2 x y, hc2 x y⟩
        | _ => trivial
    | _ => trivial
  | _ => trivial
/-! a comprehension whose element draws: S the frame by what is drawn from -/
theorem lc_S {σ : Type} {vs : List Nat} {g : LV} {Q Q0 : σ → Fm} {f : D → σ → Mo (D × σ)} (st : ∀ d s, match f d s with
      | .ok y => ∃ q1, evL K g (.val d) (Q0 s) = .ok () q1 ∧ ∃ r q3, ev K e false q1 = .ok r q3 ∧ r.vd = some y.1 ∧ noOw vs q3 = true ∧ wipeF vs q3 = Q0 y.2 ∧ ∀ s0, backF vs (Q s0) q3 = Q y.2
      | _ => True) : ∀ (l acc : List D) (s : σ) (r : List D × σ) (q : Fm), mapS f l s = .ok r → acc.length + l.length ≤ sizeLine → wipeF vs q = Q0 s → (∀ s0, backF vs (Q s0) q = Q s) →
    ∃ q', loopC vs (fun d q => evL K g (.val d) q) (evT K .yes) (ev K e false) acc l q = .ok (acc ++ r.1) q' ∧ ∀ s0, backF vs (Q s0) q' = Q r.2
  | [], acc, s, r, q, h, hl, c, c2 => by cases h; exact ⟨q, by simp [loopC], c2⟩
  | d :: l, acc, s, r, q, h, hl, c, c2 => by
    rw [mapS] at h
    have z := st d s
    cases e1 : f d s with
    | ok y =>
      rw [e1, ok_bind] at h
      rw [e1] at z
      cases e2 : mapS f l y.2 with
      | ok u =>
        rw [e2, ok_bind] at h
        obtain ⟨q1, z1, rr, q3, z2, z3, z4, z5, z6⟩ := z
        have ha : acc.length < sizeLine := by simp at hl; omega
        obtain ⟨q', h1, h2⟩ := lc_S st l (acc ++ [y.1]) y.2 u q3 e2 (by simp at hl ⊢; omega) z5 z6
        cases h
        refine ⟨q', ?_, h2⟩
        rw [loopC, c, z1]
        have ey : evT K .yes q1 = .ok true q1 := by rw [evT]
        simp only [ey, z2, z3]
        rw [if_pos (by rw [z4, decide_eq_true ha]; rfl), h1]
        simp
      | _ => rw [e2] at h; cases h
    | _ => rw [e1] at h; cases h
theorem xn_lcS {σ : Type} {vs : List Nat} {g : LV} {it : I} {mi : Mo α} {Vi : α → List D} {s0 : α → σ} {Q Q0 : σ → Fm} {Fi : α → Fm} {pt : D → σ → Mo τ} {Fp : τ → σ → Fm} {m : τ → σ → Mo (D × σ)} {Fe : τ → D → σ → Fm} {V3 : γ → D} {F3 : γ → Fm} (gg : List D × σ → γ) (hi : XI K it q mi Vi Fi)
    (hp : ∀ d s, XTg K g d (Q0 s) (pt d s) (fun t => Fp t s)) (he : ∀ t s, XV K e (Fp t s) (m t s) (fun y => y.1) (fun y => Fe t y.1 y.2))
    (hq : ∀ a, Fi a = Q (s0 a) := by intros; rfl) (hn : ∀ s, noOw vs (Q s) = true := by intros; rfl) (hw : ∀ s, wipeF vs (Q s) = Q0 s := by intros; rfl) (hb : ∀ s s', backF vs (Q s') (Q s) = Q s := by intros; rfl)
    (hn2 : ∀ t y s, noOw vs (Fe t y s) = true := by intros; rfl) (hw2 : ∀ t y s, wipeF vs (Fe t y s) = Q0 s := by intros; rfl) (hb2 : ∀ t y s s', backF vs (Q s') (Fe t y s) = Q s := by intros; rfl) (hV : ∀ x, V3 (gg x) = .lst x.1 := by intros; rfl) (hF : ∀ x, F3 (gg x) = Q x.2 := by intros; rfl) :
    XN K (.lc vs g it .yes e) q (mi >>= fun a => mapSL (fun d s => pt d s >>= fun t => m t s) (Vi a) (s0 a) >>= fun x => .ok (gg x)) V3 F3 := fun pk => by
  rw [ev]
  refine Rl.bind hi fun a l q' ⟨h1, h2⟩ => ?_
  subst h1 h2
  rw [if_pos (by rw [hq]; exact hn _)]
  unfold mapSL
  by_cases hl : (Vi a).length ≤ sizeLine
  · rw [if_pos hl]
    cases e1 : mapS (fun d s => pt d s >>= fun t => m t s) (Vi a) (s0 a) with
    | ok r =>
      obtain ⟨q', h1, h2⟩ := lc_S (K := K) (e := e) (vs := vs) (g := g) (Q := Q) (Q0 := Q0) (f := fun d s => pt d s >>= fun t => m t s) (fun d s => by
        have z1 := hp d s
        unfold XTg at z1
        cases e2 : pt d s with
        | ok t =>
          rw [e2] at z1
          have z2 := he t s false
          show match m t s with | .ok y => _ | _ => True
          cases e3 : m t s with
          | ok y =>
            rw [e3] at z2
            obtain ⟨r, q3, z4, z5, z6⟩ := z2
            subst z5
            exact ⟨_, z1, r, _, z4, z6, hn2 _ _ _, hw2 _ _ _, fun s' => hb2 _ _ _ s'⟩
          | _ => trivial
        | _ => trivial) (Vi a) [] (s0 a) r (Fi a) e1 (by simpa using hl) (by rw [hq]; exact hw _) (fun s' => by rw [hq]; exact hb _ _)
      rw [h1]
      refine Rl.ok ?_
      refine ⟨?_, by rw [hV]; rfl⟩
      rw [hF]
      show backF vs (Fi a) q' = _
      rw [hq]
      exact h2 _
    | _ => trivial
  · rw [if_neg hl]
    trivial
end
end M

set_option Elab.async false
set_option linter.all false
set_option maxRecDepth 100000
set_option maxHeartbeats 1000000
/-! C3: statements, defs. -/
namespace M
open PySem
/-- how a body ends -/
inductive Fl (α ρ : Type) where
  | nx (a : α) | brk (a : α) | ret (r : ρ)
def Fl.on {α ρ γ : Type} (x : Fl α ρ) (k : α → Mo γ) (h : ρ → Mo γ) : Mo γ := match x with
  | .nx a => k a
  | .brk a => k a
  | .ret r => h r
section
variable {α ρ γ : Type}
@[simp] theorem on_nx (a : α) (k : α → Mo γ) (h : ρ → Mo γ) : Fl.on (.nx a) k h = k a := rfl
@[simp] theorem on_brk (a : α) (k : α → Mo γ) (h : ρ → Mo γ) : Fl.on (.brk a) k h = k a := rfl
@[simp] theorem on_ret (r : ρ) (k : α → Mo γ) (h : ρ → Mo γ) : Fl.on (.ret r) k h = h r := rfl
def foldN (f : α → D → Mo α) : α → List D → Mo α
  | s, [] => .ok s
  | s, d :: l => f s d >>= fun s' => foldN f s' l
def foldB (f : α → D → Mo (Fl α ρ)) : α → List D → Mo (Fl α ρ)
  | s, [] => .ok (.nx s)
  | s, d :: l => f s d >>= fun x => match x with
    | .nx s' => foldB f s' l
    | .brk s' => .ok (.nx s')
    | .ret r => .ok (.ret r)
def appM : D → D → Mo D
  | .lst xs, d => if xs.length < sizeLine then .ok (.lst (xs ++ [d])) else .bad
  | _, _ => .bad
end
def evKs (K : Calls) : List Ss → Fm → SRes
  | [], q => .nx q
  | s :: ks, q => match evSs K s q with
    | .nx q1 => evKs K ks q1
    | x => x
def SR {γ : Type} (K : Calls) (s : Ss) (ks : List Ss) (q : Fm) (m : Mo γ) (P : γ → SRes → Prop) : Prop := match m with
  | .ok g => P g (evKs K (s :: ks) q)
  | .exc c ds => ∃ q', evKs K (s :: ks) q = .exc c ds q'
  | .bad => True
/-- goes on -/
def PN {α : Type} (F : α → Fm) : α → SRes → Prop := fun a x => x = .nx (F a)
def PNc {α : Type} (F : α → Fm) : α → SRes → Prop := fun a x => x = .nx (F a) ∨ x = .cnt (F a)
def IsRet (x : SRes) : Prop := ∃ v q, x = .ret v q
def PB {α ρ : Type} (F : α → Fm) (R : ρ → SRes → Prop) : Fl α ρ → SRes → Prop
  | .nx a, x => x = .nx (F a) ∨ x = .cnt (F a)
  | .brk a, x => x = .brk (F a)
  | .ret r, x => R r x ∧ IsRet x
section
variable {α β γ δ τ ρ : Type} {K : Calls} {q q1 : Fm} {e a b c : E} {p : P} {r s sa sb : Ss} {ks : List Ss} {P : γ → SRes → Prop}
theorem SR.of_eq {q' : Fm} {s' : Ss} {ks' : List Ss} {m : Mo γ} (h : SR K s' ks' q' m P) (e : evKs K (s :: ks) q = evKs K (s' :: ks') q') : SR K s ks q m P := by
  unfold SR at h ⊢
  rw [e]
  exact h
theorem sr_nil {m : Mo γ} (h : SR K r ks q m P) : SR K .nil (r :: ks) q m P := h.of_eq (by
  rw [evKs]
  rw [show evSs K .nil q = .nx q from by rw [evSs]])
theorem sr_end {g : γ} (h : P g (.nx q)) : SR K .nil [] q (.ok g) P := by
  show P g (evKs K [.nil] q)
  rw [evKs, show evSs K .nil q = .nx q from by rw [evSs]]
  exact h
theorem ks_cons {x : S} (h : evS K x q = .nx q1) : evKs K (.cons x r :: ks) q = evKs K (r :: ks) q1 := by
  rw [evKs, evSs, h, evKs]
theorem ks_exc {x : S} {c : Nat} {ds : List D} (h : evS K x q = .exc c ds q1) : evKs K (.cons x r :: ks) q = .exc c ds q1 := by
  rw [evKs, evSs, h]
theorem ks_ret {x : S} {v : RV} (h : evS K x q = .ret v q1) : evKs K (.cons x r :: ks) q = .ret v q1 := by
  rw [evKs, evSs, h]
/-- a step and what comes behind it -/
theorem SR.step {x : S} {m : Mo α} {k : α → Mo γ} {F : α → Fm} (h1 : ∀ a, m = .ok a → evS K x q = .nx (F a)) (h2 : ∀ c ds, m = .exc c ds → ∃ q', evS K x q = .exc c ds q') (hr : ∀ a, SR K r ks (F a) (k a) P) : SR K (.cons x r) ks q (m >>= k) P := by
  cases m with
  | ok a => exact (hr a).of_eq (ks_cons (h1 a rfl))
  | exc c ds =>
    obtain ⟨q', e⟩ := h2 c ds rfl
    exact ⟨q', ks_exc e⟩
  | bad => trivial
theorem sr_kil {is : List Nat} {m : Mo γ} (h : SR K r ks q1 m P) (e : wipeF is q = q1 := by rfl) : SR K (.cons (.kil is) r) ks q m P := h.of_eq (ks_cons (by rw [evS, e]))
theorem sr_shr {is : List Nat} {m : Mo γ} (h : SR K r ks q1 m P) (e : shrF is q = q1 := by rfl) : SR K (.cons (.shr is) r) ks q m P := h.of_eq (ks_cons (by rw [evS, e]))
theorem sr_nev : SR K (.cons .nev r) ks q .bad P := trivial
theorem sr_set {i : Nat} {m : Mo α} {V : α → D} {F F' : α → Fm} {k : α → Mo γ} (h : XV K e q m V F) (hr : ∀ a, SR K r ks (F' a) (k a) P) (hi : ∀ a, fr1 (F a) i = true := by intros; rfl) (hF : ∀ a, (F a).set i (.sh false (V a)) = F' a := by intros; rfl) : SR K (.cons (.asgS (.nm i) e) r) ks q (m >>= k) P := by
  refine SR.step (F := F') (fun a ha => ?_) (fun c ds hc => ?_) hr
  · have z := h false
    rw [ha] at z
    obtain ⟨x, q', e1, rfl, hv⟩ := z
    rw [evS, e1]
    show (match setName i x.down (F a) with | .ok _ q2 => SRes.nx q2 | _ => .bad) = _
    have : x.down = .val (V a) := by cases x <;> cases hv <;> rfl
    rw [this, setName_v (hi a)]
    exact congrArg _ (hF a)
  · have z := h false
    rw [hc] at z
    obtain ⟨q', e1⟩ := z
    exact ⟨q', by rw [evS, e1]; rfl⟩
/-- a new list for a name -/
theorem sr_new {i : Nat} {m : Mo α} {V : α → D} {F F' : α → Fm} {k : α → Mo γ} (h : XN K e q m V F) (hr : ∀ a, SR K r ks (F' a) (k a) P) (hi : ∀ a, fr1 (F a) i = true := by intros; rfl) (hF : ∀ a, (F a).set i (.ow false (V a)) = F' a := by intros; rfl) : SR K (.cons (.asg (.nm i) e) r) ks q (m >>= k) P := by
  refine SR.step (F := F') (fun a ha => ?_) (fun c ds hc => ?_) hr
  · have z := h false
    rw [ha] at z
    obtain ⟨x, q', e1, rfl, rfl⟩ := z
    rw [evS, e1]
    show (match setName i (.new (V a)) (F a) with | .ok _ q2 => SRes.nx q2 | _ => .bad) = _
    rw [setName_n (hi a)]
    exact congrArg _ (hF a)
  · have z := h false
    rw [hc] at z
    obtain ⟨q', e1⟩ := z
    exact ⟨q', by rw [evS, e1]; rfl⟩
/-- other targets -/
theorem sr_tgt {l : LV} {m : Mo α} {V : α → D} {F : α → Fm} {pt : α → Mo τ} {Ft : α → τ → Fm} {k : α → τ → Mo γ} (h : XV K e q m V F) (hl : ∀ a, XTg K l (V a) (F a) (pt a) (Ft a)) (hr : ∀ a t, SR K r ks (Ft a t) (k a t) P) : SR K (.cons (.asgS l e) r) ks q (m >>= fun a => pt a >>= fun t => k a t) P := by
  have z := h false
  cases m with
  | bad => trivial
  | exc c ds =>
    obtain ⟨q', e1⟩ := z
    exact ⟨q', ks_exc (by rw [evS, e1]; rfl)⟩
  | ok a =>
    rw [ok_bind]
    obtain ⟨x, q', e1, rfl, hv⟩ := z
    have z := hl a
    unfold XTg at z
    cases e2 : pt a with
    | ok t =>
      rw [e2] at z
      rw [ok_bind]
      refine (hr a t).of_eq (ks_cons ?_)
      rw [evS, e1]
      show (match evL K l x.down (F a) with | .ok _ q2 => SRes.nx q2 | _ => .bad) = _
      have : x.down = .val (V a) := by cases x <;> cases hv <;> rfl
      rw [this, z]
    | exc c ds => rw [e2] at z; exact z.elim
    | bad => trivial
/-- what a name gets: a new list or a value -/
def XQ {α : Type} (fl : Bool) (K : Calls) (e : E) (q : Fm) (m : Mo α) (V : α → D) (F : α → Fm) : Prop := ∀ pk, Rl (ev K e pk q) m fun a r q' => q' = F a ∧ r = if fl then .new (V a) else .val (V a)
theorem xq_n {m : Mo α} {V : α → D} {F : α → Fm} (h : XN K e q m V F) : XQ true K e q m V F := h
theorem xq_b {m : Mo α} {V : α → D} {F : α → Fm} (h : XB K e q m V F) : XQ false K e q m V F := h
def slF (fl : Bool) (d : D) : Slot := if fl then .ow false d else .sh false d
theorem setName_q {q : Fm} {i : Nat} {d : D} {fl : Bool} (h : fr1 q i = true) : setName i (if fl then .new d else .val d) q = .ok () (q.set i (slF fl d)) := by
  cases fl
  · exact setName_v h
  · exact setName_n h
theorem sr_par2 {i j : Nat} {f1 f2 : Bool} {m : Mo α} {V : α → D} {F : α → Fm} {m2 : α → Mo β} {V2 : α → β → D} {F2 F' : α → β → Fm} {k : α → β → Mo γ} (h1 : XQ f1 K a q m V F) (h2 : ∀ x, XQ f2 K b (F x) (m2 x) (V2 x) (F2 x)) (hr : ∀ x y, SR K r ks (F' x y) (k x y) P)
    (hj : ∀ x y, fr1 (F2 x y) j = true := by intros; rfl) (hi : ∀ x y, fr1 ((F2 x y).set j (slF f2 (V2 x y))) i = true := by intros; rfl) (hF : ∀ x y, ((F2 x y).set j (slF f2 (V2 x y))).set i (slF f1 (V x)) = F' x y := by intros; rfl) :
    SR K (.cons (.par2 i j a b) r) ks q (m >>= fun x => m2 x >>= fun y => k x y) P := by
  have z := h1 false
  cases m with
  | bad => trivial
  | exc c ds =>
    obtain ⟨q', e1⟩ := z
    exact ⟨q', ks_exc (by rw [evS, e1]; rfl)⟩
  | ok x =>
    rw [ok_bind]
    obtain ⟨x1, q', e1, rfl, rfl⟩ := z
    refine SR.step (F := F' x) (fun y hy => ?_) (fun c ds hc => ?_) (hr x)
    · have z := h2 x false
      rw [hy] at z
      obtain ⟨x2, q', e2, rfl, rfl⟩ := z
      rw [evS, e1]
      show ofR (ev K b false (F x)) _ = _
      rw [e2]
      show setNs [(j, _), (i, _)] (F2 x y) = _
      rw [setNs, setName_q (hj x y)]
      dsimp only
      rw [setNs, setName_q (hi x y)]
      dsimp only
      rw [setNs, hF]
    · have z := h2 x false
      rw [hc] at z
      obtain ⟨q', e2⟩ := z
      exact ⟨q', by rw [evS, e1]; show ofR (ev K b false (F x)) _ = _; rw [e2]; rfl⟩
/-! returns -/
theorem sr_retS {m : Mo α} {V : α → D} {F : α → Fm} (g : α → γ) (h : XV K e q m V F) (hP : ∀ a, P (g a) (.ret (.val (V a)) (F a))) : SR K (.cons (.retS e) r) ks q (m >>= fun a => .ok (g a)) P := by
  have z := h false
  cases m with
  | bad => trivial
  | exc c ds =>
    obtain ⟨q', e1⟩ := z
    exact ⟨q', ks_exc (by rw [evS, e1]; rfl)⟩
  | ok a =>
    obtain ⟨x, q', e1, rfl, hv⟩ := z
    show P (g a) (evKs K (.cons (.retS e) r :: ks) q)
    have : x.down = .val (V a) := by cases x <;> cases hv <;> rfl
    rw [ks_ret (q1 := F a) (v := .val (V a)) (by rw [evS, e1]; show SRes.ret x.down _ = _; rw [this])]
    exact hP a
theorem sr_retW {m : Mo α} {V : α → D} {F : α → Fm} (g : α → γ) (h : XN K e q m V F) (hP : ∀ a, P (g a) (.ret (.new (V a)) (F a))) : SR K (.cons (.ret e) r) ks q (m >>= fun a => .ok (g a)) P := by
  have z := h false
  cases m with
  | bad => trivial
  | exc c ds =>
    obtain ⟨q', e1⟩ := z
    exact ⟨q', ks_exc (by rw [evS, e1]; rfl)⟩
  | ok a =>
    obtain ⟨x, q', e1, rfl, rfl⟩ := z
    show P (g a) (evKs K (.cons (.ret e) r :: ks) q)
    rw [ks_ret (q1 := F a) (v := .new (V a)) (by rw [evS, e1]; rfl)]
    exact hP a
/-! expressions as statements -/
theorem sr_expr {m : Mo α} {V : α → D} {F : α → Fm} {k : α → Mo γ} (h : XV K e q m V F) (hr : ∀ a, SR K r ks (F a) (k a) P) : SR K (.cons (.expr e) r) ks q (m >>= k) P := by
  refine SR.step (F := F) (fun a ha => ?_) (fun c ds hc => ?_) hr
  · have z := h false
    rw [ha] at z
    obtain ⟨x, q', e1, rfl, hv⟩ := z
    rw [evS, e1]; rfl
  · have z := h false
    rw [hc] at z
    obtain ⟨q', e1⟩ := z
    exact ⟨q', by rw [evS, e1]; rfl⟩
theorem app_eq {i : Nat} {x d y : D} {bo : Bool} {q : Fm} (hi : q[i]? = some (.ow bo x)) (h : appM x d = .ok y) : appR i d q = .ok (.val .non) (q.set i (.ow bo y)) := by
  unfold appR
  rw [hi]
  cases x with
  | lst xs =>
    unfold appM at h
    dsimp only at h ⊢
    by_cases hl : xs.length < sizeLine
    · rw [if_pos hl] at h ⊢; cases h; rfl
    · rw [if_neg hl] at h; cases h
  | _ => cases h
theorem appM_exc {x d : D} {c : Nat} {ds : List D} : appM x d ≠ .exc c ds := by
  cases x with
  | lst xs =>
    intro h
    unfold appM at h
    dsimp only at h
    by_cases hl : xs.length < sizeLine
    · rw [if_pos hl] at h; cases h
    · rw [if_neg hl] at h; cases h
  | _ => exact fun h => nomatch h
theorem sr_app {i : Nat} {bo : α → Bool} {x : α → D} {m : Mo α} {V : α → D} {F : α → Fm} {F' : α → D → Fm} {k : α → D → Mo γ} (h : XV K e q m V F) (hi : ∀ a, (F a)[i]? = some (.ow (bo a) (x a))) (hr : ∀ a y, SR K r ks (F' a y) (k a y) P) (hF : ∀ a y, (F a).set i (.ow (bo a) y) = F' a y := by intros; rfl) (h0 : isOwn q[i]? = true := by rfl) :
    SR K (.cons (.expr (.app i e)) r) ks q (m >>= fun a => appM (x a) (V a) >>= fun y => k a y) P := by
  have z := h false
  cases m with
  | bad => trivial
  | exc c ds =>
    obtain ⟨q', e1⟩ := z
    exact ⟨q', ks_exc (by rw [evS, ev, if_pos h0, e1]; rfl)⟩
  | ok a =>
    rw [ok_bind]
    obtain ⟨x1, q', e1, rfl, hv⟩ := z
    refine SR.step (F := F' a) (fun y hy => ?_) (fun c ds hc => absurd hc appM_exc) (hr a)
    rw [evS, ev, if_pos h0, e1]
    show ofR (match x1.vd with | some d => appR i d (F a) | none => .bad) _ = _
    rw [hv]
    dsimp only
    rw [app_eq (hi a) hy, hF]
    rfl
/-! choices -/
theorem sr_if {t : T} {m : Mo α} {V : α → Bool} {F : α → Fm} {ka kb : α → Mo γ} (h : XT K t q m V F) (ha : ∀ x, SR K sa (r :: ks) (F x) (ka x) P) (hb : ∀ x, SR K sb (r :: ks) (F x) (kb x) P) : SR K (.cons (.ift t sa sb) r) ks q (m >>= fun x => if V x then ka x else kb x) P := by
  unfold XT at h
  cases m with
  | bad => trivial
  | exc c ds =>
    obtain ⟨q', e1⟩ := h
    exact ⟨q', ks_exc (by rw [evS, e1]; rfl)⟩
  | ok x =>
    obtain ⟨b, q', e1, rfl, rfl⟩ := h
    rw [ok_bind]
    cases e2 : V x with
    | true =>
      refine SR.of_eq (ha x) ?_
      rw [evKs, evSs, evS, e1, e2]
      show (match (match evSs K sa (F x) with | .nx q1 => evSs K r q1 | x => x) with | .nx q1 => evKs K ks q1 | x => x) = evKs K (sa :: r :: ks) (F x)
      rw [evKs]
      cases evSs K sa (F x) with
      | nx q1 => dsimp only; rw [evKs]
      | _ => rfl
    | false =>
      refine SR.of_eq (hb x) ?_
      rw [evKs, evSs, evS, e1, e2]
      show (match (match evSs K sb (F x) with | .nx q1 => evSs K r q1 | x => x) with | .nx q1 => evKs K ks q1 | x => x) = evKs K (sb :: r :: ks) (F x)
      rw [evKs]
      cases evSs K sb (F x) with
      | nx q1 => dsimp only; rw [evKs]
      | _ => rfl
theorem ks_one {s : Ss} : evKs K [s] q = evSs K s q := by
  rw [evKs]
  cases evSs K s q with
  | nx q1 => dsimp only; rw [evKs]
  | _ => rfl
end
end M

set_option Elab.async false
set_option linter.all false
set_option maxRecDepth 100000
set_option maxHeartbeats 1000000
/-! C4: loops, defs, constructors. -/
namespace M
open PySem
section
variable {α β γ δ τ ρ : Type} {K : Calls} {q q1 : Fm} {e a b c : E} {p : P} {r s sa sb : Ss} {ks : List Ss} {P : γ → SRes → Prop}
theorem ans_ret {F : β → Fm} {R : ρ → SRes → Prop} {body : Fm → SRes} {asg : D → Fm → Res Unit} {f : β → D → Mo (Fl β ρ)}
    (st : ∀ s d, match f s d with
      | .ok x => ∃ q1, asg d (F s) = .ok () q1 ∧ PB F R x (body q1)
      | .exc c ds => ∃ q1 q2, asg d (F s) = .ok () q1 ∧ body q1 = .exc c ds q2
      | .bad => True) : ∀ (l : List D) (s : β), match foldB f s l with
      | .ok (.nx s') => loopF asg body l (F s) = .nx (F s')
      | .ok (.ret x) => R x (loopF asg body l (F s)) ∧ IsRet (loopF asg body l (F s))
      | .ok (.brk _) => False
      | .exc c ds => ∃ q2, loopF asg body l (F s) = .exc c ds q2
      | .bad => True
  | [], s => rfl
  | d :: l, s => by
    rw [foldB]
    have z := st s d
    cases e1 : f s d with
    | bad => trivial
    | exc c ds =>
      rw [e1] at z
      obtain ⟨q1, q2, h1, h2⟩ := z
      exact ⟨q2, by rw [loopF, h1]; dsimp only; rw [h2]⟩
    | ok x =>
      rw [e1] at z
      rw [ok_bind]
      obtain ⟨q1, h1, h2⟩ := z
      cases x with
      | nx s' =>
        have ih := ans_ret st l s'
        have e3 : loopF asg body (d :: l) (F s) = loopF asg body l (F s') := by
          rw [loopF, h1]
          dsimp only
          rcases h2 with h2 | h2 <;> rw [h2]
        rw [e3]
        exact ih
      | brk s' =>
        show loopF asg body (d :: l) (F s) = .nx (F s')
        have h2 : body q1 = .brk (F s') := h2
        rw [loopF, h1]
        dsimp only
        rw [h2]
      | ret x =>
        obtain ⟨h2, v, q2, h3⟩ := h2
        have e3 : loopF asg body (d :: l) (F s) = body q1 := by
          rw [loopF, h1]
          dsimp only
          rw [h3]
        show R x (loopF asg body (d :: l) (F s)) ∧ IsRet (loopF asg body (d :: l) (F s))
        rw [e3]
        exact ⟨h2, v, q2, h3⟩
theorem sr_for {it : I} {l : LV} {mi : Mo α} {Vi : α → List D} {Fi : α → Fm} {F : β → Fm} {pt : β → D → Mo τ} {Ft : β → τ → Fm} {st : β → τ → Mo (Fl β ρ)} {R : ρ → SRes → Prop} {k : β → Mo γ} (b0 : α → β) (rt : ρ → γ)
    (hi : XI K it q mi Vi Fi) (ht : ∀ s d, XTg K l d (F s) (pt s d) (Ft s)) (hb : ∀ s t, SR K sa [] (Ft s t) (st s t) (PB F R)) (hr : ∀ s, SR K r ks (F s) (k s) P) (hP : ∀ x y, R x y → IsRet y → P (rt x) y) (hF : ∀ a, Fi a = F (b0 a) := by intros; rfl) :
    SR K (.cons (.for l it sa) r) ks q (mi >>= fun a => foldB (fun s d => pt s d >>= fun t => st s t) (b0 a) (Vi a) >>= fun x => Fl.on x k fun x => .ok (rt x)) P := by
  unfold XI at hi
  cases mi with
  | bad => trivial
  | exc c ds =>
    obtain ⟨q', e1⟩ := hi
    exact ⟨q', ks_exc (by rw [evS, e1]; rfl)⟩
  | ok a =>
    obtain ⟨l0, q', e1, rfl, rfl⟩ := hi
    rw [ok_bind]
    have key := ans_ret (F := F) (R := R) (body := evSs K sa) (asg := fun d q => evL K l (.val d) q) (f := fun s d => pt s d >>= fun t => st s t) (fun s d => by
      have z := ht s d
      unfold XTg at z
      show match (pt s d >>= fun t => st s t) with | .ok x => _ | .exc c ds => _ | .bad => _
      cases e2 : pt s d with
      | bad => trivial
      | exc c ds => rw [e2] at z; exact z.elim
      | ok t =>
        rw [e2] at z
        rw [ok_bind]
        have y := hb s t
        unfold SR at y
        cases e3 : st s t with
        | bad => trivial
        | exc c ds =>
          rw [e3] at y
          obtain ⟨q2, h⟩ := y
          exact ⟨_, q2, z, by rw [← ks_one]; exact h⟩
        | ok x =>
          rw [e3] at y
          exact ⟨_, z, by rw [← ks_one]; exact y⟩) (Vi a) (b0 a)
    have e2 : evS K (.for l it sa) q = loopF (fun d q => evL K l (.val d) q) (evSs K sa) (Vi a) (F (b0 a)) := by
      rw [evS, e1, ← hF]; rfl
    cases e3 : foldB (fun s d => pt s d >>= fun t => st s t) (b0 a) (Vi a) with
    | bad => trivial
    | exc c ds =>
      rw [e3] at key
      obtain ⟨q2, h⟩ := key
      exact ⟨q2, ks_exc (by rw [e2, h])⟩
    | ok x =>
      rw [e3] at key
      rw [ok_bind]
      cases x with
      | nx s' => exact (hr s').of_eq (ks_cons (by rw [e2]; exact key))
      | brk s' => exact key.elim
      | ret x =>
        obtain ⟨h1, v, q2, h2⟩ := key
        rw [← e2] at h1 h2
        have e4 : evKs K (.cons (.for l it sa) r :: ks) q = evS K (.for l it sa) q := by
          rw [ks_ret h2, h2]
        show P (rt x) (evKs K (.cons (.for l it sa) r :: ks) q)
        rw [e4]
        exact hP _ _ h1 ⟨v, q2, h2⟩
theorem foldN_B (f : β → D → Mo β) (g : β → D → Mo (Fl β ρ)) (h : ∀ s d, g s d = f s d >>= fun s' => .ok (.nx s')) : ∀ (l : List D) (s : β), foldB g s l = foldN f s l >>= fun s' => .ok (.nx s')
  | [], s => rfl
  | d :: l, s => by
    rw [foldB, foldN, h]
    cases f s d with
    | ok x => exact foldN_B f g h l x
    | _ => rfl
theorem SR.map {P' : δ → SRes → Prop} {m : Mo γ} (g : γ → δ) (h : SR K s ks q m P) (i : ∀ x y, P x y → P' (g x) y) : SR K s ks q (m >>= fun x => .ok (g x)) P' := by
  unfold SR at h ⊢
  cases m with
  | ok x => exact i _ _ h
  | exc c ds => exact h
  | bad => trivial
theorem sr_forN {it : I} {l : LV} {mi : Mo α} {Vi : α → List D} {Fi : α → Fm} {F : β → Fm} {pt : β → D → Mo τ} {Ft : β → τ → Fm} {st : β → τ → Mo β} {k : β → Mo γ} (b0 : α → β)
    (hi : XI K it q mi Vi Fi) (ht : ∀ s d, XTg K l d (F s) (pt s d) (Ft s)) (hb : ∀ s t, SR K sa [] (Ft s t) (st s t) (PNc F)) (hr : ∀ s, SR K r ks (F s) (k s) P) (hF : ∀ a, Fi a = F (b0 a) := by intros; rfl) :
    SR K (.cons (.for l it sa) r) ks q (mi >>= fun a => foldN (fun s d => pt s d >>= fun t => st s t) (b0 a) (Vi a) >>= k) P := by
  have z := sr_for (K := K) (ρ := PEmpty) (γ := γ) (P := P) (q := q) (ks := ks) (r := r) (sa := sa) (st := fun s t => st s t >>= fun s' => .ok (.nx s')) (R := fun _ _ => False) (k := k) b0 (fun x => x.elim) hi ht (fun s t => (hb s t).map _ fun x y h => h) hr (fun x => x.elim) hF
  have e : (fun a => foldB (ρ := PEmpty) (fun s d => pt s d >>= fun t => st s t >>= fun s' => .ok (.nx s')) (b0 a) (Vi a) >>= fun x => Fl.on x k fun x => Mo.ok (x.elim : γ)) = fun a => foldN (fun s d => pt s d >>= fun t => st s t) (b0 a) (Vi a) >>= k := by
    funext a
    rw [foldN_B (ρ := PEmpty) (fun s d => pt s d >>= fun t => st s t) _ (fun s d => (bind_bind _ _ _).symm)]
    rw [bind_bind]
    rfl
  rw [e] at z
  exact z
/-! ### defs -/
theorem sr_retP {m : Mo γ} {V : γ → D} {F : γ → Fm} (h : XV K e q m V F) (hP : ∀ a, P a (.ret (.val (V a)) (F a))) : SR K (.cons (.retS e) r) ks q m P := by
  have z := sr_retS (K := K) (r := r) (ks := ks) (P := P) (fun a => a) h hP
  rw [bind_ok] at z
  exact z
theorem sr_retWP {m : Mo γ} {V : γ → D} {F : γ → Fm} (h : XN K e q m V F) (hP : ∀ a, P a (.ret (.new (V a)) (F a))) : SR K (.cons (.ret e) r) ks q m P := by
  have z := sr_retW (K := K) (r := r) (ks := ks) (P := P) (fun a => a) h hP
  rw [bind_ok] at z
  exact z
/-- a def's end: V the value, B what the lent lists are then -/
def PF {α : Type} (n : Nat) (V : α → D) (B : α → Fm → Prop) : α → SRes → Prop := fun a x =>
  (∃ q', x = .ret (.val (V a)) q' ∧ n ≤ q'.length ∧ B a (lentBack n q')) ∨ ∃ q', x = .nx q' ∧ V a = .non ∧ n ≤ q'.length ∧ B a (lentBack n q')
def PFN {α : Type} (n : Nat) (V : α → D) (B : α → Fm → Prop) : α → SRes → Prop := fun a x => ∃ q', x = .ret (.new (V a)) q' ∧ n ≤ q'.length ∧ B a (lentBack n q')
theorem pf_ret {n : Nat} {V : α → D} {B : α → Fm → Prop} {a : α} {q' : Fm} {d : D} (hV : d = V a := by rfl) (hn : n ≤ q'.length := by exact Nat.le_of_ble_eq_true rfl) (hB : B a (lentBack n q') := by first | trivial | rfl) : PF n V B a (.ret (.val d) q') := .inl ⟨q', by rw [hV], hn, hB⟩
theorem pbr {F : β → Fm} {R : ρ → SRes → Prop} {r : ρ} {v : RV} {q : Fm} (h : R r (.ret v q)) : PB F R (.ret r) (.ret v q) := ⟨h, v, q, rfl⟩
theorem pf_nx {n : Nat} {V : α → D} {B : α → Fm → Prop} {a : α} {q' : Fm} (hV : V a = .non := by rfl) (hn : n ≤ q'.length := by exact Nat.le_of_ble_eq_true rfl) (hB : B a (lentBack n q') := by first | trivial | rfl) : PF n V B a (.nx q') := .inr ⟨q', rfl, hV, hn, hB⟩
theorem pfn_ret {n : Nat} {V : α → D} {B : α → Fm → Prop} {a : α} {q' : Fm} {d : D} (hV : d = V a := by rfl) (hn : n ≤ q'.length := by exact Nat.le_of_ble_eq_true rfl) (hB : B a (lentBack n q') := by first | trivial | rfl) : PFN n V B a (.ret (.new d) q') := ⟨q', by rw [hV], hn, hB⟩
theorem run_fv {d : FDef} {as : Fm} {m : Mo α} {V : α → D} {B : α → Fm → Prop} (hl : as.length = d.nps) (h : SR K d.body [] (as ++ List.replicate (d.nN - d.nps) .no) m (PF d.nps V B)) : Rl (runF K d as) m fun a r q' => r = .val (V a) ∧ B a q' := by
  unfold runF
  rw [if_pos hl]
  unfold SR at h
  rw [ks_one] at h
  cases m with
  | bad => trivial
  | exc c ds =>
    obtain ⟨q', e⟩ := h
    rw [e]
    exact ⟨_, rfl⟩
  | ok a =>
    rcases h with ⟨q', e, hn, hB⟩ | ⟨q', e, hV, hn, hB⟩
    · rw [e]
      dsimp only
      rw [if_pos hn]
      exact ⟨_, _, rfl, rfl, hB⟩
    · rw [e]
      dsimp only
      rw [if_pos hn]
      exact ⟨_, _, rfl, by rw [hV], hB⟩
theorem run_fn {d : FDef} {as : Fm} {m : Mo α} {V : α → D} {B : α → Fm → Prop} (hl : as.length = d.nps) (h : SR K d.body [] (as ++ List.replicate (d.nN - d.nps) .no) m (PFN d.nps V B)) : Rl (runF K d as) m fun a r q' => r = .new (V a) ∧ B a q' := by
  unfold runF
  rw [if_pos hl]
  unfold SR at h
  rw [ks_one] at h
  cases m with
  | bad => trivial
  | exc c ds =>
    obtain ⟨q', e⟩ := h
    rw [e]
    exact ⟨_, rfl⟩
  | ok a =>
    obtain ⟨q', e, hn, hB⟩ := h
    rw [e]
    dsimp only
    rw [if_pos hn]
    exact ⟨_, _, rfl, rfl, hB⟩
section
variable {t : Tab} {n f : Nat} {d : FDef} {as : Fm} {m : Mo α} {V : α → D} {B : α → Fm → Prop}
theorem fv_of (ht : t.fn.lookup f = some d) (hl : as.length = d.nps) (h : SR (calls t n) d.body [] (as ++ List.replicate (d.nN - d.nps) .no) m (PF d.nps V B)) : FV (calls t (n + 1)) f as m V B := by
  show Rl (match t.fn.lookup f with | some d => runF (calls t n) d as | none => .bad) _ _
  rw [ht]
  exact run_fv hl h
theorem fn_of (ht : t.fn.lookup f = some d) (hl : as.length = d.nps) (h : SR (calls t n) d.body [] (as ++ List.replicate (d.nN - d.nps) .no) m (PFN d.nps V B)) : FN (calls t (n + 1)) f as m V B := by
  show Rl (match t.fn.lookup f with | some d => runF (calls t n) d as | none => .bad) _ _
  rw [ht]
  exact run_fn hl h
end
/-- a constructor's body; slot 0 stays self -/
def MR (K : Calls) (e : E) (s : Ss) (q : Fm) (m : Mo (List D)) : Prop := Rl (evM K e s q) m fun a r q' => r = a
theorem mr_nil {m : Mo D} {F : D → Fm} (h : XV K e q m I1 F) : MR K e .nil q (m >>= fun d => .ok [d]) := by
  unfold MR
  rw [evM]
  refine (h false).bind fun a r q' ⟨h1, h2⟩ => ?_
  rw [h2]
  exact Rl.ok rfl
theorem mr_cons {x : S} {m : Mo α} {F : α → Fm} {k : α → Mo (List D)} (h : SR K (.cons x .nil) [] q m (PN F)) (hr : ∀ a, MR K e r (F a) (k a)) (hp : ∀ a, isPin (F a)[0]? = true := by intros; rfl) : MR K e (.cons x r) q (m >>= k) := by
  have ex : evKs K [.cons x .nil] q = evS K x q := by
    rw [ks_one, evSs]
    cases evS K x q with
    | nx q1 => dsimp only; rw [evSs]
    | _ => rfl
  unfold SR at h
  rw [ex] at h
  unfold MR
  rw [evM]
  cases m with
  | bad => trivial
  | exc c ds =>
    obtain ⟨q', e1⟩ := h
    rw [e1]
    exact ⟨q', rfl⟩
  | ok a =>
    have h : evS K x q = .nx (F a) := h
    rw [h]
    dsimp only
    rw [if_pos (hp a)]
    exact hr a
theorem cv_of {t : Tab} {n c : Nat} {d : CDef} {as : Fm} {m : Mo (List D)} (ht : t.cn.lookup c = some d) (hl : as.length + 1 = d.nps) (h : MR (calls t n) d.fs d.pre (.pin :: as ++ List.replicate (d.nN - d.nps) .no) m) : CV (calls t (n + 1)) c as m := by
  show Rl (match t.cn.lookup c with | some d => runM (calls t n) d as | none => .bad) _ _
  rw [ht]
  show Rl (runM (calls t n) d as) _ _
  unfold runM
  rw [if_pos hl]
  exact h.imp fun _ _ _ h => h
end
end M

set_option Elab.async false
set_option linter.all false
set_option maxRecDepth 100000
set_option maxHeartbeats 1000000
/-! C5: rules for expressions that draw nothing: the frame stays. -/
namespace M
open PySem
abbrev EV (K : Calls) (e : E) (q : Fm) (m : Mo D) : Prop := XV K e q m I1 (Fc q)
abbrev EN (K : Calls) (e : E) (q : Fm) (m : Mo D) : Prop := XN K e q m I1 (Fc q)
abbrev EB (K : Calls) (e : E) (q : Fm) (m : Mo D) : Prop := XB K e q m I1 (Fc q)
abbrev EA (K : Calls) (e : E) (q : Fm) (m : Mo D) : Prop := XA K e q m I1 (Fc q)
abbrev Ib : Bool → Bool := fun b => b
abbrev Il : List D → List D := fun l => l
abbrev TP (K : Calls) (t : T) (q : Fm) (m : Mo Bool) : Prop := XT K t q m Ib (Fc q)
abbrev AsP (K : Calls) (e : As) (q : Fm) (m : Mo (List D)) : Prop := XAs K e q m Il (Fc q)
abbrev IP (K : Calls) (it : I) (q : Fm) (m : Mo (List D)) : Prop := XI K it q m Il (Fc q)
/-- arguments, none lent -/
def GP (K : Calls) (gs : Gs) (q : Fm) (m : Mo (List D)) : Prop := XG K gs q m (fun l => l.map Ga.v) (Fc q)
/-- a def without lent lists -/
abbrev FP (K : Calls) (f : Nat) (as : List D) (m : Mo D) : Prop := FV K f (as.map (Slot.sh false)) m I1 fun _ _ => True
abbrev FPN (K : Calls) (f : Nat) (as : List D) (m : Mo D) : Prop := FN K f (as.map (Slot.sh false)) m I1 fun _ _ => True
theorem bind_okD {α : Type} (m : Mo α) : (m >>= fun a => Mo.ok a) = m := by cases m <;> rfl
section
variable {K : Calls} {q : Fm} {e a b c d : E} {p : P} {m ma mb mc : Mo D} {t t' : T} {i f k : Nat}
theorem ea_own {bo : Bool} {x : D} (h : q[i]? = some (.ow bo x) := by rfl) : EA K (.var i) q (.ok x) := xa_own h
theorem e_var {bo : Bool} {x : D} (h : q[i]? = some (.sh bo x) := by rfl) : EB K (.var i) q (.ok x) := xb_var h
theorem e_con {x : D} : EB K (.con x) q (.ok x) := xb_con
theorem e_glo {z : Str} {x : D} : EB K (.glo z x) q (.ok x) := xb_glo
/-! operands at one frame -/
def SP (K : Calls) (es : Es) (q : Fm) (m : Mo (List D)) : Prop := Rl (evs K es q) m fun l rs q' => q' = q ∧ atAll q rs = some l
theorem sp_nil : SP K .nil q (.ok []) := by
  unfold SP
  rw [evs]
  exact Rl.ok ⟨rfl, rfl⟩
theorem sp_cons {r : Es} {ms : Mo (List D)} (h : EA K e q m) (hs : SP K r q ms) : SP K (.cons e r) q (m >>= fun x => ms >>= fun l => .ok (x :: l)) := by
  unfold SP
  rw [evs]
  refine Rl.bind h fun x r0 q' ⟨h1, h2⟩ => ?_
  have h1 : q' = q := h1
  subst h1
  refine Rl.bind hs fun l rs q2 ⟨h3, h4⟩ => ?_
  subst h3
  refine Rl.ok ⟨rfl, ?_⟩
  rw [atAll, RV.down_at _ h2, h4]
theorem sp_1 (h : EA K a q ma) : SP K (.cons a .nil) q (ma >>= fun x => .ok [x]) := sp_cons h sp_nil
theorem sp_2 (h : EA K a q ma) (h2 : EA K b q mb) : SP K (.cons a (.cons b .nil)) q (ma >>= fun x => mb >>= fun y => .ok [x, y]) := by
  have z := sp_cons h (sp_1 h2)
  have e : (ma >>= fun x => (mb >>= fun y => Mo.ok [y]) >>= fun l => .ok (x :: l)) = (ma >>= fun x => mb >>= fun y => .ok [x, y]) := by cases ma <;> cases mb <;> rfl
  rw [e] at z
  exact z
theorem sp_3 (h : EA K a q ma) (h2 : EA K b q mb) (h3 : EA K c q mc) : SP K (.cons a (.cons b (.cons c .nil))) q (ma >>= fun x => mb >>= fun y => mc >>= fun z => .ok [x, y, z]) := by
  have z := sp_cons h (sp_2 h2 h3)
  have e : (ma >>= fun x => (mb >>= fun y => mc >>= fun z => Mo.ok [y, z]) >>= fun l => .ok (x :: l)) = (ma >>= fun x => mb >>= fun y => mc >>= fun z => .ok [x, y, z]) := by cases ma <;> cases mb <;> cases mc <;> rfl
  rw [e] at z
  exact z
theorem prm_v {es : Es} {ms : Mo (List D)} (h : SP K es q ms) : EV K (.prm p es) q (ms >>= fun l => M.prm p l) := fun pk => by
  rw [ev]
  refine Rl.bind h fun l rs q' ⟨h1, h2⟩ => ?_
  subst h1
  unfold primR M.prm
  rw [h2]
  dsimp only
  cases e1 : evP p l with
  | none => trivial
  | some x =>
    obtain ⟨fl, d⟩ := x
    cases fl <;> (refine Rl.ok ?_; exact ⟨rfl, rfl⟩)
theorem prm_b {es : Es} {ms : Mo (List D)} (h : SP K es q ms) : EB K (.prm p es) q (ms >>= fun l => prmV p l) := fun pk => by
  rw [ev]
  refine Rl.bind h fun l rs q' ⟨h1, h2⟩ => ?_
  subst h1
  unfold primR prmV
  rw [h2]
  dsimp only
  cases e1 : evP p l with
  | none => trivial
  | some x =>
    obtain ⟨fl, d⟩ := x
    cases fl
    · refine Rl.ok ?_; exact ⟨rfl, rfl⟩
    · trivial
theorem v_p1 (h : EA K a q ma) : EV K (.prm p (.cons a .nil)) q (ma >>= fun x => M.prm p [x]) := by
  have z := prm_v (p := p) (sp_1 h); rw [bind_bind] at z; exact z
theorem b_p1 (h : EA K a q ma) : EB K (.prm p (.cons a .nil)) q (ma >>= fun x => prmV p [x]) := by
  have z := prm_b (p := p) (sp_1 h); rw [bind_bind] at z; exact z
theorem bb2 {α β γ δ : Type} {m1 : Mo α} {m2 : Mo β} {g : α → β → γ} {h : γ → Mo δ} : ((m1 >>= fun x => m2 >>= fun y => Mo.ok (g x y)) >>= h) = m1 >>= fun x => m2 >>= fun y => h (g x y) := by cases m1 <;> cases m2 <;> rfl
theorem bb3 {α β γ δ ε : Type} {m1 : Mo α} {m2 : Mo β} {m3 : Mo γ} {g : α → β → γ → δ} {h : δ → Mo ε} : ((m1 >>= fun x => m2 >>= fun y => m3 >>= fun z => Mo.ok (g x y z)) >>= h) = m1 >>= fun x => m2 >>= fun y => m3 >>= fun z => h (g x y z) := by cases m1 <;> cases m2 <;> cases m3 <;> rfl
theorem v_p2 (h : EA K a q ma) (h2 : EA K b q mb) : EV K (.prm p (.cons a (.cons b .nil))) q (ma >>= fun x => mb >>= fun y => M.prm p [x, y]) := by
  have z := prm_v (p := p) (sp_2 h h2); rw [bb2] at z; exact z
theorem b_p2 (h : EA K a q ma) (h2 : EA K b q mb) : EB K (.prm p (.cons a (.cons b .nil))) q (ma >>= fun x => mb >>= fun y => prmV p [x, y]) := by
  have z := prm_b (p := p) (sp_2 h h2); rw [bb2] at z; exact z
theorem v_p3 (h : EA K a q ma) (h2 : EA K b q mb) (h3 : EA K c q mc) : EV K (.prm p (.cons a (.cons b (.cons c .nil)))) q (ma >>= fun x => mb >>= fun y => mc >>= fun z => M.prm p [x, y, z]) := by
  have z := prm_v (p := p) (sp_3 h h2 h3); rw [bb3] at z; exact z
/-! displays -/
theorem as_nil : AsP K .nil q (.ok []) := xas_nil
theorem as_one {r : As} {ms : Mo (List D)} (h : EV K e q m) (hr : AsP K r q ms) : AsP K (.one e r) q (m >>= fun x => ms >>= fun l => .ok (x :: l)) := xas_one (V3 := Il) (F3 := Fc q) (fun x l => x :: l) h fun _ => hr
theorem bo {α : Type} (m : Mo α) {β : Type} (f : α → Mo β) : (m >>= fun a => f a >>= fun d => Mo.ok d) = m >>= f := by cases m <;> simp [bind_ok]
theorem e_tup {es : As} {ms : Mo (List D)} (h : AsP K es q ms) : EB K (.tup es) q (ms >>= tupM) := fun pk => by
  rw [ev]
  refine Rl.bind h fun a ds q' ⟨h1, h2⟩ => ?_
  subst h1 h2
  unfold tupM
  by_cases hl : ds.length ≤ sizeLine
  · rw [if_pos hl, if_pos hl]
    refine Rl.ok ?_; exact ⟨rfl, rfl⟩
  · rw [if_neg hl, if_neg hl]
    trivial
theorem e_lst {es : As} {ms : Mo (List D)} (h : AsP K es q ms) : EN K (.lst es) q (ms >>= lstM) := by
  have z := xn_lst (V3 := I1) (F3 := Fc q) (fun _ d => d) h
  rw [bo] at z
  exact z
/-! tests -/
theorem t_val (h : EA K e q m) : TP K (.val e) q (m >>= tru) := by
  have z := xt_val (V3 := Ib) (F3 := Fc q) (fun _ d => d) h
  rw [bo] at z
  exact z
theorem t_not {mt : Mo Bool} (h : TP K t q mt) : TP K (.not t) q (mt >>= fun c => .ok (!c)) := M.xt_not (V3 := Ib) (F3 := Fc q) (fun c => !c) h
theorem t_any {mt mt' : Mo Bool} (h : TP K t q mt) (h2 : TP K t' q mt') : TP K (.any t t') q (mt >>= fun c => if c then .ok true else mt') := M.xt_any (n := fun _ => true) (V3 := Ib) (F3 := Fc q) (k := fun _ => mt') (V := Ib) h (fun _ => h2) (hV := fun _ => rfl)
/-! choices -/
theorem v_ife {mt : Mo Bool} (h : TP K t q mt) (ha : EV K a q ma) (hb : EV K b q mb) : EV K (.ife t a b) q (mt >>= fun c => if c then ma else mb) := xv_ife h (fun _ => ha) (fun _ => hb)
theorem e_and (ha : EB K a q ma) (hb : EB K b q mb) : EB K (.andV a b) q (ma >>= fun x => isB x >>= fun c => if c then mb else .ok (.bl false)) := xb_and (n := fun _ => .bl false) (V3 := I1) (F3 := Fc q) ha fun _ => hb
theorem e_not (h : EA K e q m) : EB K (.notV e) q (m >>= fun x => tru x >>= fun c => .ok (.bl (!c))) := xb_not (V3 := I1) (F3 := Fc q) (fun _ c => .bl (!c)) h
theorem e_chain {o1 o2 : P} (h1 : EV K a q ma) (h2 : EV K b q mb) (h3 : EV K c q mc) : EB K (.chain o1 o2 a b c) q (ma >>= fun x => mb >>= fun y => M.prm o1 [x, y] >>= fun d => isB d >>= fun t => if t then mc >>= fun z => prmV o2 [y, z] else .ok (.bl false)) := by
  have z := xb_chain (o1 := o1) (o2 := o2) (V4 := I1) (F4 := Fc q) (fun _ _ => .bl false) (fun _ _ _ d => d) h1 (fun _ => h2) (fun _ _ => h3)
  simp only [bo] at z
  exact z
theorem e_fld (h : EB K e q m) : EB K (.fld f k e) q (m >>= fldM f k) := by
  have z := xb_fld (c := f) (k := k) (V3 := I1) (F3 := Fc q) (fun _ d => d) h
  rw [bo] at z
  exact z
theorem e_zipS (h : EA K e q m) : EN K (.zipS e) q (m >>= fun x => seqM x >>= fun l => optM (zipSR l) >>= fun l => .ok (.lst l)) := xn_zipS (V3 := I1) (F3 := Fc q) (fun _ l => .lst l) h
/-! methods of texts -/
def isS : D → Mo Unit
  | .str _ => .ok ()
  | _ => .bad
theorem mth_rl {ma mb : Mo D} (h1 : EB K a q ma) (h2 : EA K b q mb) {pk : Bool} {mm : List D → Mo D} {φ : D → RV → Prop} (hp : ∀ l rs, atAll q rs = some l → Rl (primR p rs q) (mm l) fun d r q' => q' = q ∧ φ d r) :
    Rl (ev K (.mth p a b) pk q) (ma >>= fun x => isS x >>= fun _ => mb >>= fun y => mm [x, y]) fun d r q' => q' = q ∧ φ d r := by
  rw [ev]
  refine (h1 false).bind fun x r q' ⟨e1, e2⟩ => ?_
  have e1 : q' = q := e1
  have e2 : r = .val x := e2
  subst e1 e2
  cases x with
  | str z =>
    show Rl (bindR (ev K b true q') fun r2 q2 => primR p [.val (.str z), r2.down] q2) (mb >>= fun y => mm [.str z, y]) _
    refine Rl.bind h2 fun y r2 q2 ⟨e3, e4⟩ => ?_
    have e3 : q2 = q' := e3
    subst e3
    have e4 : r2.at_ q2 = some y := e4
    refine hp _ _ ?_
    rw [atAll, atAll, atAll, RV.down_at _ e4]
    rfl
  | _ => trivial
theorem v_mth {ma mb : Mo D} (h1 : EB K a q ma) (h2 : EA K b q mb) : EV K (.mth p a b) q (ma >>= fun x => isS x >>= fun _ => mb >>= fun y => M.prm p [x, y]) := fun pk => mth_rl (mm := M.prm p) (φ := fun d r => r.vd = some d) h1 h2 fun l rs e => by
  unfold primR M.prm
  rw [e]
  dsimp only
  cases evP p l with
  | none => trivial
  | some x =>
    obtain ⟨fl, d⟩ := x
    cases fl <;> (refine Rl.ok ?_; exact ⟨rfl, rfl⟩)
/-! calls -/
theorem gp_nil : GP K .nil q (.ok []) := xg_nil
theorem xg_nilV {K : Calls} {q : Fm} : XG K .nil q (.ok []) (fun l : List D => l.map Ga.v) (Fc q) := by
  unfold XG
  rw [evG]
  exact .ok ⟨rfl, rfl⟩
theorem gp_cons {r : Gs} {ms : Mo (List D)} (h : EV K e q m) (hr : GP K r q ms) : GP K (.v e r) q (m >>= fun x => ms >>= fun l => .ok (x :: l)) := by
  have z := xg_v (g := fun (x : D) (l : List D) => x :: l) (V3 := fun l : List D => l.map Ga.v) (F3 := Fc q) (V2 := fun _ (l : List D) => l.map Ga.v) (F2 := fun _ => Fc q) (k := fun _ => ms) h (fun _ => hr) (fun _ _ => rfl) (fun _ _ => rfl)
  exact z
theorem lent_v (q : Fm) : ∀ ds : List D, lent q (ds.map Ga.v) = some (ds.map (Slot.sh false))
  | [] => rfl
  | d :: ds => by rw [List.map_cons, lent, lent_v q ds]; rfl
theorem lx_v : ∀ ds : List D, lentIx (ds.map Ga.v) = []
  | [] => rfl
  | d :: ds => by rw [List.map_cons, lentIx, lx_v ds]
theorem gb_v : ∀ (ds : List D) (l q : Fm), giveBack (ds.map Ga.v) l q = q
  | [], l, q => by cases l <;> rfl
  | d :: ds, [], q => rfl
  | d :: ds, s :: l, q => by rw [List.map_cons, giveBack]; exact gb_v ds l q
theorem call_b {gs : Gs} {ms : Mo (List D)} {mf : List D → Mo D} (h : GP K gs q ms) (hf : ∀ l, FP K f l (mf l)) : EB K (.call f gs) q (ms >>= mf) := by
  have z := xb_call (f := f) (V := fun l : List D => l.map Ga.v) (F := Fc q) (as := fun l => l.map (Slot.sh false)) (V3 := I1) (F3 := Fc q) (fun _ d => d) h hf (fun a => lent_v q a) (fun a => by rw [lx_v]; exact List.nodup_nil) (fun a b q' _ => gb_v a q' q)
  rw [bo] at z
  exact z
theorem call_n {gs : Gs} {ms : Mo (List D)} {mf : List D → Mo D} (h : GP K gs q ms) (hf : ∀ l, FPN K f l (mf l)) : EN K (.call f gs) q (ms >>= mf) := by
  have z := xn_call (f := f) (V := fun l : List D => l.map Ga.v) (F := Fc q) (as := fun l => l.map (Slot.sh false)) (V3 := I1) (F3 := Fc q) (fun _ d => d) h hf (fun a => lent_v q a) (fun a => by rw [lx_v]; exact List.nodup_nil) (fun a b q' _ => gb_v a q' q)
  rw [bo] at z
  exact z
/-- the number of arguments written -/
def on1 {α : Type} (g : D → Mo α) : List D → Mo α
  | [x] => g x
  | _ => .bad
def on2 {α : Type} (g : D → D → Mo α) : List D → Mo α
  | [x, y] => g x y
  | _ => .bad
section
variable {R : List D → Mo D → Prop} (hb : ∀ l, R l .bad)
theorem on1_ok {α : Type} {R : List D → Mo α → Prop} {g : D → Mo α} (hb : ∀ l, R l .bad) (h : ∀ x, R [x] (g x)) : ∀ l, R l (on1 g l)
  | [x] => h x
  | [] => hb _
  | _ :: _ :: _ => hb _
theorem on2_ok {α : Type} {R : List D → Mo α → Prop} {g : D → D → Mo α} (hb : ∀ l, R l .bad) (h : ∀ x y, R [x, y] (g x y)) : ∀ l, R l (on2 g l)
  | [x, y] => h x y
  | [] => hb _
  | [_] => hb _
  | _ :: _ :: _ :: _ => hb _
end
section
variable {md me : Mo D}
theorem c1_b {g : D → Mo D} (h1 : EV K a q ma) (hf : ∀ x, FP K f [x] (g x)) : EB K (.call f (.v a .nil)) q (ma >>= g) := by
  have z := call_b (gp_cons h1 gp_nil) (on1_ok (R := fun l m => FP K f l m) (fun _ => trivial) hf)
  cases ma <;> exact z
theorem c2_b {g : D → D → Mo D} (h1 : EV K a q ma) (h2 : EV K b q mb) (hf : ∀ x y, FP K f [x, y] (g x y)) : EB K (.call f (.v a (.v b .nil))) q (ma >>= fun x => mb >>= fun y => g x y) := by
  have z := call_b (gp_cons h1 (gp_cons h2 gp_nil)) (on2_ok (R := fun l m => FP K f l m) (fun _ => trivial) hf)
  cases ma <;> cases mb <;> exact z
theorem c2_n {g : D → D → Mo D} (h1 : EV K a q ma) (h2 : EV K b q mb) (hf : ∀ x y, FPN K f [x, y] (g x y)) : EN K (.call f (.v a (.v b .nil))) q (ma >>= fun x => mb >>= fun y => g x y) := by
  have z := call_n (gp_cons h1 (gp_cons h2 gp_nil)) (on2_ok (R := fun l m => FPN K f l m) (fun _ => trivial) hf)
  cases ma <;> cases mb <;> exact z
end
/-- an instance of a class, one argument -/
theorem m1_b {g : D → Mo (List D)} (h1 : EV K a q ma) (hf : ∀ x, CV K f [.sh false x] (g x)) : EB K (.make f (.v a .nil)) q (ma >>= fun x => g x >>= fun fs => .ok (.ins f fs)) := by
  have z := xb_make (c := f) (V := fun l : List D => l.map Ga.v) (F := Fc q) (as := fun l => l.map (Slot.sh false)) (mf := on1 g) (V3 := I1) (F3 := Fc q) (fun _ fs => .ins f fs) (gp_cons h1 gp_nil) (on1_ok (R := fun l m => CV K f (l.map (Slot.sh false)) m) (fun _ => trivial) hf) (fun a => lent_v q a) (fun a => lx_v a)
  cases ma <;> exact z
theorem e_prop {fn : Nat} {g : D → Mo D} (h : EB K e q m) (hf : ∀ x, FP K fn [x] (g x)) : EB K (.prop f fn e) q (m >>= fun x => isI f x >>= fun _ => noExc (g x)) := by
  have z := xb_prop (c := f) (f := fn) (B := fun _ _ _ => True) (mf := g) (V3 := I1) (F3 := Fc q) (fun _ d => d) h fun a => hf a
  have e : (m >>= fun a => isI f (I1 a) >>= fun _ => noExc (g (I1 a)) >>= fun b => Mo.ok b) = (m >>= fun x => isI f x >>= fun _ => noExc (g x)) := by
    cases m with
    | ok a => show (isI f a >>= fun _ => noExc (g a) >>= fun b => Mo.ok b) = _; simp only [bind_ok]; rfl
    | _ => rfl
  rw [e] at z
  exact z
/-! walks -/
theorem i_seq (h : EV K e q m) : IP K (.seq e) q (m >>= itemsM) := by
  have z := xi_seq (V3 := Il) (F3 := Fc q) (fun _ l => l) h
  rw [bo] at z
  exact z
theorem i_rng1 (h : EV K a q ma) : IP K (.rng1 a) q (ma >>= fun x => optM (rng1F [x])) := by
  have z := xi_rng1 (V3 := Il) (F3 := Fc q) (fun _ l => l) h
  rw [bo] at z
  exact z
theorem i_enm (h : EV K a q ma) : IP K (.enm a) q (ma >>= fun x => optM (enmF [x])) := by
  have z := xi_enm (V3 := Il) (F3 := Fc q) (fun _ l => l) h
  rw [bo] at z
  exact z
theorem i_zip (h : EV K a q ma) (h2 : EV K b q mb) : IP K (.zip a b) q (ma >>= fun x => mb >>= fun y => optM (zipF [x, y])) := by
  have z := xi_zip (V3 := Il) (F3 := Fc q) (fun _ _ l => l) h (fun _ => h2)
  simp only [bo] at z
  exact z
theorem i_rng3 (h : EV K a q ma) (h2 : EV K b q mb) (h3 : EV K c q mc) : IP K (.rng3 a b c) q (ma >>= fun x => mb >>= fun y => mc >>= fun z => optM (rng3F [x, y, z])) := by
  have z := xi_rng3 (V3 := Il) (F3 := Fc q) (fun _ _ _ l => l) h (fun _ => h2) (fun _ _ => h3)
  simp only [bo] at z
  exact z
/-! comprehensions -/
theorem e_lcM {vs : List Nat} {g : LV} {it : I} {Q0 : Fm} {mi : Mo (List D)} {fm : D → Mo D} (hi : IP K it q mi) (st : ∀ d, Tn1 K vs g e q Q0 d (fm d)) (hn : noOw vs q = true := by rfl) (hw : wipeF vs q = Q0 := by rfl) (hb : backF vs q q = q := by rfl) :
    EN K (.lc vs g it .yes e) q (mi >>= fun l => mapL fm l >>= fun l => .ok (.lst l)) := xn_lcM (V3 := I1) (F3 := Fc q) (Fi := Fc q) (Vi := Il) (Q0 := Fc Q0) (f := fun _ => fm) (fun _ l => .lst l) hi (fun _ => st) (fun _ => hn) (fun _ => hw) (fun _ => hb)
theorem e_lcF {vs : List Nat} {g : LV} {it : I} {Q0 : Fm} {mi : Mo (List D)} {fm : D → Mo (Option D)} (hi : IP K it q mi) (st : ∀ d, Tn K vs g t e q Q0 d (fm d)) (hn : noOw vs q = true := by rfl) (hw : wipeF vs q = Q0 := by rfl) (hb : backF vs q q = q := by rfl) :
    EN K (.lc vs g it t e) q (mi >>= fun l => filL fm l >>= fun l => .ok (.lst l)) := xn_lc (V3 := I1) (F3 := Fc q) (Fi := Fc q) (Vi := Il) (Q0 := Fc Q0) (f := fun _ => fm) (fun _ l => .lst l) hi (fun _ => st) (fun _ => hn) (fun _ => hw) (fun _ => hb)
end
end M

set_option Elab.async false
set_option linter.all false
set_option maxRecDepth 100000
set_option maxHeartbeats 1000000
/-! C6: comprehensions with two `for`; short forms of frames. -/
namespace M
open PySem
structure CFr2 (vs vs1 : List Nat) (Q Q0 Q1 q : Fm) : Prop where
  w1 : wipeF vs1 q = Q1
  n : noOw vs q = true
  w : wipeF vs q = Q0
  b : backF vs Q q = Q
section
variable {K : Calls} {q : Fm} {e : E} {t : T} {τ τ1 : Type}
def Tn2 (K : Calls) (vs vs1 : List Nat) (g : LV) (t : T) (e : E) (Q Q0 Q1 : Fm) (d : D) (m : Mo (Option D)) : Prop := match m with
  | .ok x => ∃ q1 c q2, evL K g (.val d) Q1 = .ok () q1 ∧ evT K t q1 = .ok c q2 ∧ match x with
    | none => c = false ∧ CFr2 vs vs1 Q Q0 Q1 q2
    | some y => c = true ∧ ∃ r q3, ev K e false q2 = .ok r q3 ∧ r.vd = some y ∧ CFr2 vs vs1 Q Q0 Q1 q3
  | _ => True
theorem lc1_fil {vs vs1 : List Nat} {g : LV} {t : T} {Q Q0 Q1 : Fm} {f : D → Mo (Option D)} (st : ∀ d, Tn2 K vs vs1 g t e Q Q0 Q1 d (f d)) : ∀ (l acc r : List D) (q : Fm), filA f l = .ok r → acc.length + r.length ≤ sizeLine → CFr2 vs vs1 Q Q0 Q1 q →
    ∃ q', loopC1 vs vs1 (fun d q => evL K g (.val d) q) (evT K t) (ev K e false) acc l q = .ok (acc ++ r) q' ∧ CFr2 vs vs1 Q Q0 Q1 q'
  | [], acc, r, q, h, hl, c => by cases h; exact ⟨q, by simp [loopC1], c⟩
  | d :: l, acc, r, q, h, hl, c => by
    rw [filA] at h
    have z := st d
    unfold Tn2 at z
    cases e1 : f d with
    | ok x =>
      rw [e1, ok_bind] at h
      rw [e1] at z
      cases e2 : filA f l with
      | ok s =>
        rw [e2, ok_bind] at h
        obtain ⟨q1, cc, q2, z1, z2, z3⟩ := z
        cases x with
        | none =>
          obtain ⟨rfl, z5⟩ := z3
          cases h
          obtain ⟨q', h1, h2⟩ := lc1_fil st l acc s q2 e2 hl z5
          refine ⟨q', ?_, h2⟩
          rw [loopC1, c.w1, z1]
          simp only [z2]
          rw [if_pos z5.n]
          exact h1
        | some y =>
          obtain ⟨rfl, rr, q3, z4, z5, z7⟩ := z3
          cases h
          have ha : acc.length < sizeLine := by simp at hl; omega
          obtain ⟨q', h1, h2⟩ := lc1_fil st l (acc ++ [y]) s q3 e2 (by simp at hl ⊢; omega) z7
          refine ⟨q', ?_, h2⟩
          rw [loopC1, c.w1, z1]
          simp only [z2, z4, z5]
          rw [if_pos (by rw [z7.n, decide_eq_true ha]; rfl), h1]
          simp
      | _ => rw [e2] at h; cases h
    | _ => rw [e1] at h; cases h
theorem lc2_cat {vs vs1 : List Nat} {g g1 : LV} {it1 : I} {t1 : T} {Q Q0 : Fm} {f : D → Mo (List D)}
    (st : ∀ d r, f d = .ok r → ∃ q1 l1 Q1 f1, evL K g (.val d) Q0 = .ok () q1 ∧ evI K it1 q1 = .ok l1 q1 ∧ filA f1 l1 = .ok r ∧ CFr2 vs vs1 Q Q0 Q1 q1 ∧ ∀ d, Tn2 K vs vs1 g1 t1 e Q Q0 Q1 d (f1 d)) :
    ∀ (l acc r : List D) (q : Fm), catA f l = .ok r → acc.length + r.length ≤ sizeLine → CFr vs Q Q0 q →
    ∃ q', loopC2 vs (fun d q => evL K g (.val d) q) (evT K .yes) (fun acc q => bindR (evI K it1 q) fun l1 q2 => if noOw vs q2 then loopC1 vs vs1 (fun d q => evL K g1 (.val d) q) (evT K t1) (ev K e false) acc l1 q2 else .bad) acc l q = .ok (acc ++ r) q' ∧ CFr vs Q Q0 q'
  | [], acc, r, q, h, hl, c => by cases h; exact ⟨q, by simp [loopC2], c⟩
  | d :: l, acc, r, q, h, hl, c => by
    rw [catA] at h
    cases e1 : f d with
    | ok x =>
      rw [e1, ok_bind] at h
      cases e2 : catA f l with
      | ok s =>
        rw [e2, ok_bind] at h
        cases h
        obtain ⟨q1, l1, Q1, f1, z1, z2, z3, z4, z5⟩ := st d x e1
        simp only [List.length_append] at hl
        obtain ⟨q2, y1, y2⟩ := lc1_fil z5 l1 acc x q1 z3 (by omega) z4
        obtain ⟨q', h1, h2⟩ := lc2_cat st l (acc ++ x) s q2 e2 (by simp only [List.length_append]; omega) ⟨y2.w, y2.b⟩
        refine ⟨q', ?_, h2⟩
        rw [loopC2, c.w, z1]
        have ey : evT K .yes q1 = .ok true q1 := by rw [evT]
        simp only [ey, z2]
        rw [show (bindR (Res.ok l1 q1) fun l1 q2 => if noOw vs q2 then loopC1 vs vs1 (fun d q => evL K g1 (.val d) q) (evT K t1) (ev K e false) acc l1 q2 else .bad) = (if noOw vs q1 then loopC1 vs vs1 (fun d q => evL K g1 (.val d) q) (evT K t1) (ev K e false) acc l1 q1 else .bad) from rfl]
        rw [if_pos z4.n, y1]
        simp only
        rw [if_pos y2.n, h1]
        simp
      | _ => rw [e2] at h; cases h
    | _ => rw [e1] at h; cases h
theorem e_lc2 {vs vs1 : List Nat} {g g1 : LV} {it it1 : I} {t1 : T} {Q0 : Fm} {mi : Mo (List D)} {pt : D → Mo τ} {Fp : τ → Fm} {mi1 : τ → Mo (List D)} {Q1 : τ → Fm} {f1 : τ → D → Mo (Option D)} (hi : IP K it q mi) (hp : ∀ d, XTg K g d Q0 (pt d) Fp) (hi1 : ∀ x, IP K it1 (Fp x) (mi1 x)) (st : ∀ x d, Tn2 K vs vs1 g1 t1 e q Q0 (Q1 x) d (f1 x d))
    (hc : ∀ x, CFr2 vs vs1 q Q0 (Q1 x) (Fp x) := by intros; exact ⟨rfl, rfl, rfl, rfl⟩) (hn : noOw vs q = true := by rfl) (hw : wipeF vs q = Q0 := by rfl) (hb : backF vs q q = q := by rfl) :
    EN K (.lc2 vs vs1 g it .yes g1 it1 t1 e) q (mi >>= fun l => catL (fun d => pt d >>= fun x => mi1 x >>= fun l1 => filA (f1 x) l1) l >>= fun l => .ok (.lst l)) := fun pk => by
  rw [ev]
  refine Rl.bind hi fun l l' q' ⟨h1, h2⟩ => ?_
  have h1 : q' = q := h1
  have h2 : l' = l := h2
  subst h1 h2
  rw [if_pos hn]
  unfold catL
  cases e1 : catA (fun d => pt d >>= fun x => mi1 x >>= fun l1 => filA (f1 x) l1) l' with
  | ok r =>
    show Rl _ (fitL r >>= _) _
    unfold fitL
    by_cases hl : r.length ≤ sizeLine
    · rw [if_pos hl]
      obtain ⟨q2, h1, h2⟩ := lc2_cat (K := K) (e := e) (vs := vs) (vs1 := vs1) (g := g) (g1 := g1) (it1 := it1) (t1 := t1) (Q := q') (Q0 := Q0) (f := fun d => pt d >>= fun x => mi1 x >>= fun l1 => filA (f1 x) l1) (fun d r hr => by
        have z := hp d
        unfold XTg at z
        cases e2 : pt d with
        | ok x =>
          rw [e2] at z
          rw [e2, ok_bind] at hr
          have y := hi1 x
          unfold IP XI at y
          cases e3 : mi1 x with
          | ok l1 =>
            rw [e3] at y
            rw [e3, ok_bind] at hr
            obtain ⟨l2, q3, y1, y2, y3⟩ := y
            have y2 : q3 = Fp x := y2
            have y3 : l2 = l1 := y3
            subst y2 y3
            exact ⟨Fp x, l2, Q1 x, f1 x, z, y1, hr, hc x, st x⟩
          | _ => rw [e3] at hr; cases hr
        | _ => rw [e2] at hr; cases hr) l' [] r q' e1 (by simpa using hl) ⟨hw, hb⟩
      rw [h1]
      refine Rl.ok ?_
      exact ⟨h2.b, rfl⟩
    · rw [if_neg hl]
      trivial
  | _ => trivial
/-- an inner turn by its parts -/
theorem tn2_of {vs vs1 : List Nat} {g : LV} {Q Q0 Q1 : Fm} {d : D} {pt : Mo τ} {Fp : τ → Fm} {m : τ → Mo D} (hp : XTg K g d Q1 pt Fp) (he : ∀ t, XV K e (Fp t) (m t) I1 (Fc (Fp t))) (hc : ∀ t, CFr2 vs vs1 Q Q0 Q1 (Fp t) := by intros; exact ⟨rfl, rfl, rfl, rfl⟩) : Tn2 K vs vs1 g .yes e Q Q0 Q1 d (pt >>= fun t => m t >>= fun y => .ok (some y)) := by
  unfold XTg at hp
  unfold Tn2
  cases pt with
  | ok t =>
    rw [ok_bind]
    have z := he t false
    cases e1 : m t with
    | ok y =>
      rw [e1] at z
      obtain ⟨r, q3, z1, z2, z3⟩ := z
      have z2 : q3 = Fp t := z2
      subst z2
      exact ⟨Fp t, true, Fp t, hp, by rw [evT], rfl, r, _, z1, z3, hc t⟩
    | _ => trivial
  | _ => trivial
end
end M

set_option Elab.async false
set_option linter.all false
set_option maxRecDepth 100000
set_option maxHeartbeats 1000000
/-! C7: calls that draw. -/
namespace M
open PySem
theorem lv {a b n : Nat} (h : Nat.ble a b = true) (k : b ≤ n) : a ≤ n := Nat.le_trans (Nat.le_of_ble_eq_true h) k
/-- a def that writes into its first list -/
abbrev FLb (K : Calls) (f : Nat) (bo : Bool) (p : D) (l : List D) (m : Mo (D × D)) : Prop := FV K f (.ow bo p :: l.map (Slot.sh false)) m (fun y => y.1) fun y q' => bo = true → q' = .ow true y.2 :: List.replicate l.length .no
section
variable {K : Calls} {q : Fm} {e a b c d : E} {p : P} {m ma mb mc : Mo D} {t t' : T} {i f k : Nat} {σ : Type}
theorem gb_rep : ∀ (l : List D) (q : Fm), giveBack (l.map Ga.v) (List.replicate l.length .no) q = q
  | [], q => rfl
  | d :: l, q => by rw [List.map_cons, List.length_cons, List.replicate_succ, giveBack]; exact gb_rep l q
theorem callL {bo : Bool} {x : D} {gs : Gs} {ms : Mo (List D)} {mf : List D → Mo (D × D)} {F : D → Fm} (hq : q[i]? = some (.ow bo x)) (h : GP K gs q ms) (hf : ∀ l, FLb K f true x l (mf l)) (hF : ∀ y, q.set i (.ow bo y) = F y) :
    XB K (.call f (.b i gs)) q (ms >>= mf) (fun z => z.1) (fun z => F z.2) := by
  have hg : XG K (.b i gs) q (ms >>= fun l => .ok l) (fun l : List D => Ga.b i :: l.map Ga.v) (Fc q) := xg_b (g := fun l => l) (V2 := fun l : List D => l.map Ga.v) (F2 := Fc q) hq h (fun _ => rfl) (fun _ => rfl)
  have z := xb_call (f := f) (V := fun l : List D => Ga.b i :: l.map Ga.v) (F := Fc q) (as := fun l => .ow true x :: l.map (Slot.sh false)) (V3 := fun z : D × D => z.1) (F3 := fun z => F z.2) (fun _ y => y) hg hf
    (fun l => by rw [lent, hq, lent_v]) (fun l => by rw [lentIx, lx_v]; exact List.nodup_cons.2 ⟨by simp, List.nodup_nil⟩) (fun l y q' hB => by
      rw [hB rfl]
      show giveBack (Ga.b i :: l.map Ga.v) (Slot.ow true y.2 :: List.replicate l.length .no) q = _
      rw [giveBack, gb_rep]
      have : q.getD i .no = .ow bo x := by rw [List.getD_eq_getElem?_getD, hq]; rfl
      rw [this]
      exact hF y.2)
  have e1 : ((ms >>= fun l => Mo.ok l) >>= fun a => mf a >>= fun b => Mo.ok b) = ms >>= mf := by
    cases ms with
    | ok l => show (mf l >>= fun b => Mo.ok b) = mf l; rw [bind_okD]
    | _ => rfl
  rw [e1] at z
  exact z
theorem cL0 {bo : Bool} {x : D} {mf : Mo (D × D)} {F : D → Fm} (hf : FLb K f true x [] mf) (hq : q[i]? = some (.ow bo x) := by rfl) (hF : ∀ y, q.set i (.ow bo y) = F y := by intros; rfl) : XB K (.call f (.b i .nil)) q mf (fun z => z.1) (fun z => F z.2) :=
  callL (mf := fun l => match l with | [] => mf | _ => .bad) hq gp_nil (fun l => by cases l with | nil => exact hf | cons _ _ => trivial) hF
theorem cL1 {bo : Bool} {x : D} {g : D → Mo (D × D)} {F : D → Fm} (h1 : EV K a q ma) (hf : ∀ y, FLb K f true x [y] (g y)) (hq : q[i]? = some (.ow bo x) := by rfl) (hF : ∀ y, q.set i (.ow bo y) = F y := by intros; rfl) : XB K (.call f (.b i (.v a .nil))) q (ma >>= g) (fun z => z.1) (fun z => F z.2) := by
  have z := callL (mf := on1 g) hq (gp_cons h1 gp_nil) (on1_ok (R := fun l m => FLb K f true x l m) (fun _ => trivial) hf) hF
  cases ma <;> exact z
/-- a drawing call whose further arguments draw -/
theorem callLi {bo0 : Bool} {x0 : D} {gs : Gs} {g : D → List D → Mo (D × D)} {ms : Mo (List D × D)} {F : D → Fm} (h : XG K gs q ms (fun z => z.1.map Ga.v) (fun z => F z.2)) (hq : ∀ y, ∃ bo, (F y)[i]? = some (.ow bo y) ∧ ∀ z, (F y).set i (.ow bo z) = F z) (hf : ∀ p l, FLb K f true p l (g p l)) (hi : q[i]? = some (.ow bo0 x0)) :
    XB K (.call f (.b i gs)) q (ms >>= fun z => g z.2 z.1) (fun z => z.1) (fun z => F z.2) := by
  have hg : XG K (.b i gs) q (ms >>= fun l => .ok l) (fun z : List D × D => Ga.b i :: z.1.map Ga.v) (fun z => F z.2) := xg_b (g := fun l => l) hi h (fun _ => rfl) (fun _ => rfl)
  have z := xb_call (f := f) (V := fun z : List D × D => Ga.b i :: z.1.map Ga.v) (F := fun z => F z.2) (as := fun z => .ow true z.2 :: z.1.map (Slot.sh false)) (mf := fun z => g z.2 z.1) (V3 := fun z : D × D => z.1) (F3 := fun z => F z.2) (V2 := fun _ y => y.1) (B := fun z y q' => true = true → q' = .ow true y.2 :: List.replicate z.1.length .no) (fun _ y => y) hg (fun z => hf z.2 z.1)
    (fun z => by
      obtain ⟨bo1, h1, _⟩ := hq z.2
      show lent (F z.2) (Ga.b i :: z.1.map Ga.v) = _
      rw [lent, h1, lent_v]) (fun l => by show (lentIx (Ga.b i :: l.1.map Ga.v)).Nodup; rw [lentIx, lx_v]; exact List.nodup_cons.2 ⟨by simp, List.nodup_nil⟩) (fun l y q' hB => by
      obtain ⟨bo1, h1, h2⟩ := hq l.2
      rw [hB rfl]
      show giveBack (Ga.b i :: l.1.map Ga.v) (Slot.ow true y.2 :: List.replicate l.1.length .no) (F l.2) = _
      rw [giveBack, gb_rep]
      have : (F l.2).getD i .no = .ow bo1 l.2 := by rw [List.getD_eq_getElem?_getD, h1]; rfl
      rw [this]
      exact h2 y.2)
  have e1 : ((ms >>= fun l => Mo.ok l) >>= fun a => g a.2 a.1 >>= fun b => Mo.ok b) = ms >>= fun z => g z.2 z.1 := by
    cases ms with
    | ok w => show (g w.2 w.1 >>= fun b => Mo.ok b) = _; rw [bind_okD]; rfl
    | _ => rfl
  rw [e1] at z
  exact z
/-- arguments that draw -/
theorem callI {gs : Gs} {ms : Mo (List D × σ)} {mf : List D → Mo D} {F : σ → Fm} (h : XG K gs q ms (fun z => z.1.map Ga.v) (fun z => F z.2)) (hf : ∀ l, FP K f l (mf l)) : XB K (.call f gs) q (ms >>= fun a => mf a.1 >>= fun d => .ok (d, a.2)) (fun z => z.1) (fun z => F z.2) :=
  xb_call (f := f) (V := fun z : List D × σ => z.1.map Ga.v) (F := fun z => F z.2) (as := fun z => z.1.map (Slot.sh false)) (mf := fun z => mf z.1) (V3 := fun z : D × σ => z.1) (F3 := fun z => F z.2) (fun a d => (d, a.2)) h (fun z => hf z.1) (fun z => lent_v _ _) (fun z => by rw [lx_v]; exact List.nodup_nil) (fun a b q' _ => gb_v _ _ _)
/-- a new list handed to a def that writes into it -/
theorem c_O {g : D → Mo (D × D)} (h : EN K e q m) (hf : ∀ x, FLb K f false x [] (g x)) : EB K (.callO f e) q (m >>= fun x => g x >>= fun y => .ok y.1) := xb_callO (V3 := I1) (F3 := Fc q) (fun _ y => y.1) h hf
end
end M

set_option Elab.async false
set_option linter.all false
set_option maxRecDepth 100000
set_option maxHeartbeats 1000000
/-! C8: the rules for statements, over a statement that is not unfolded (printed by mkc8.py). -/
namespace M
open PySem
structure SQ {γ : Type} (K : Calls) (s : Ss) (ks : List Ss) (q : Fm) (m : Mo γ) (P : γ → SRes → Prop) : Prop where
  r : SR K s ks q m P
structure MQ (K : Calls) (e : E) (s : Ss) (q : Fm) (m : Mo (List D)) : Prop where
  r : MR K e s q m
section
variable {α β γ δ τ ρ : Type} {K : Calls} {q q1 : Fm} {e a b c : E} {p : P} {r s sa sb : Ss} {ks : List Ss} {P : γ → SRes → Prop}
theorem sq_nil {m : Mo γ} (h : SQ K r ks q m P) : SQ K .nil (r :: ks) q m P := ⟨sr_nil (h := h.r)⟩
theorem sq_end {g : γ} (h : P g (.nx q)) : SQ K .nil [] q (.ok g) P := ⟨sr_end (h := h)⟩
theorem sq_kil {is : List Nat} {m : Mo γ} (h : SQ K r ks q1 m P) (e : wipeF is q = q1 := by rfl) : SQ K (.cons (.kil is) r) ks q m P := ⟨sr_kil (h := h.r) (e := e)⟩
theorem sq_shr {is : List Nat} {m : Mo γ} (h : SQ K r ks q1 m P) (e : shrF is q = q1 := by rfl) : SQ K (.cons (.shr is) r) ks q m P := ⟨sr_shr (h := h.r) (e := e)⟩
theorem sq_nev : SQ K (.cons .nev r) ks q .bad P := ⟨sr_nev ⟩
theorem sq_set {i : Nat} {m : Mo α} {V : α → D} {F F' : α → Fm} {k : α → Mo γ} (h : XV K e q m V F) (hr : ∀ a, SQ K r ks (F' a) (k a) P) (hi : ∀ a, fr1 (F a) i = true := by intros; rfl) (hF : ∀ a, (F a).set i (.sh false (V a)) = F' a := by intros; rfl) : SQ K (.cons (.asgS (.nm i) e) r) ks q (m >>= k) P := ⟨sr_set (h := h) (hr := fun a => (hr a).r) (hi := hi) (hF := hF)⟩
theorem sq_new {i : Nat} {m : Mo α} {V : α → D} {F F' : α → Fm} {k : α → Mo γ} (h : XN K e q m V F) (hr : ∀ a, SQ K r ks (F' a) (k a) P) (hi : ∀ a, fr1 (F a) i = true := by intros; rfl) (hF : ∀ a, (F a).set i (.ow false (V a)) = F' a := by intros; rfl) : SQ K (.cons (.asg (.nm i) e) r) ks q (m >>= k) P := ⟨sr_new (h := h) (hr := fun a => (hr a).r) (hi := hi) (hF := hF)⟩
theorem sq_tgt {l : LV} {m : Mo α} {V : α → D} {F : α → Fm} {pt : α → Mo τ} {Ft : α → τ → Fm} {k : α → τ → Mo γ} (h : XV K e q m V F) (hl : ∀ a, XTg K l (V a) (F a) (pt a) (Ft a)) (hr : ∀ a t, SQ K r ks (Ft a t) (k a t) P) : SQ K (.cons (.asgS l e) r) ks q (m >>= fun a => pt a >>= fun t => k a t) P := ⟨sr_tgt (h := h) (hl := hl) (hr := fun a t => (hr a t).r)⟩
theorem sq_par2 {i j : Nat} {f1 f2 : Bool} {m : Mo α} {V : α → D} {F : α → Fm} {m2 : α → Mo β} {V2 : α → β → D} {F2 F' : α → β → Fm} {k : α → β → Mo γ} (h1 : XQ f1 K a q m V F) (h2 : ∀ x, XQ f2 K b (F x) (m2 x) (V2 x) (F2 x)) (hr : ∀ x y, SQ K r ks (F' x y) (k x y) P)
    (hj : ∀ x y, fr1 (F2 x y) j = true := by intros; rfl) (hi : ∀ x y, fr1 ((F2 x y).set j (slF f2 (V2 x y))) i = true := by intros; rfl) (hF : ∀ x y, ((F2 x y).set j (slF f2 (V2 x y))).set i (slF f1 (V x)) = F' x y := by intros; rfl) :
    SQ K (.cons (.par2 i j a b) r) ks q (m >>= fun x => m2 x >>= fun y => k x y) P := ⟨sr_par2 (h1 := h1) (h2 := h2) (hr := fun x y => (hr x y).r) (hj := hj) (hi := hi) (hF := hF)⟩
theorem sq_retS {m : Mo α} {V : α → D} {F : α → Fm} (g : α → γ) (h : XV K e q m V F) (hP : ∀ a, P (g a) (.ret (.val (V a)) (F a))) : SQ K (.cons (.retS e) r) ks q (m >>= fun a => .ok (g a)) P := ⟨sr_retS (g := g) (h := h) (hP := hP)⟩
theorem sq_retP {m : Mo γ} {V : γ → D} {F : γ → Fm} (h : XV K e q m V F) (hP : ∀ a, P a (.ret (.val (V a)) (F a))) : SQ K (.cons (.retS e) r) ks q m P := ⟨sr_retP (h := h) (hP := hP)⟩
theorem sq_retWP {m : Mo γ} {V : γ → D} {F : γ → Fm} (h : XN K e q m V F) (hP : ∀ a, P a (.ret (.new (V a)) (F a))) : SQ K (.cons (.ret e) r) ks q m P := ⟨sr_retWP (h := h) (hP := hP)⟩
theorem sq_expr {m : Mo α} {V : α → D} {F : α → Fm} {k : α → Mo γ} (h : XV K e q m V F) (hr : ∀ a, SQ K r ks (F a) (k a) P) : SQ K (.cons (.expr e) r) ks q (m >>= k) P := ⟨sr_expr (h := h) (hr := fun a => (hr a).r)⟩
theorem sq_app {i : Nat} {bo : α → Bool} {x : α → D} {m : Mo α} {V : α → D} {F : α → Fm} {F' : α → D → Fm} {k : α → D → Mo γ} (h : XV K e q m V F) (hi : ∀ a, (F a)[i]? = some (.ow (bo a) (x a))) (hr : ∀ a y, SQ K r ks (F' a y) (k a y) P) (hF : ∀ a y, (F a).set i (.ow (bo a) y) = F' a y := by intros; rfl) (h0 : isOwn q[i]? = true := by rfl) :
    SQ K (.cons (.expr (.app i e)) r) ks q (m >>= fun a => appM (x a) (V a) >>= fun y => k a y) P := ⟨sr_app (h := h) (hi := hi) (hr := fun a y => (hr a y).r) (hF := hF) (h0 := h0)⟩
theorem sq_if {t : T} {m : Mo α} {V : α → Bool} {F : α → Fm} {ka kb : α → Mo γ} (h : XT K t q m V F) (ha : ∀ x, SQ K sa (r :: ks) (F x) (ka x) P) (hb : ∀ x, SQ K sb (r :: ks) (F x) (kb x) P) : SQ K (.cons (.ift t sa sb) r) ks q (m >>= fun x => if V x then ka x else kb x) P := ⟨sr_if (h := h) (ha := fun x => (ha x).r) (hb := fun x => (hb x).r)⟩
theorem sq_for {it : I} {l : LV} {mi : Mo α} {Vi : α → List D} {Fi : α → Fm} {F : β → Fm} {pt : β → D → Mo τ} {Ft : β → τ → Fm} {st : β → τ → Mo (Fl β ρ)} {R : ρ → SRes → Prop} {k : β → Mo γ} (b0 : α → β) (rt : ρ → γ)
    (hi : XI K it q mi Vi Fi) (ht : ∀ s d, XTg K l d (F s) (pt s d) (Ft s)) (hb : ∀ s t, SQ K sa [] (Ft s t) (st s t) (PB F R)) (hr : ∀ s, SQ K r ks (F s) (k s) P) (hP : ∀ x y, R x y → IsRet y → P (rt x) y) (hF : ∀ a, Fi a = F (b0 a) := by intros; rfl) :
    SQ K (.cons (.for l it sa) r) ks q (mi >>= fun a => foldB (fun s d => pt s d >>= fun t => st s t) (b0 a) (Vi a) >>= fun x => Fl.on x k fun x => .ok (rt x)) P := ⟨sr_for (b0 := b0) (rt := rt) (hi := hi) (ht := ht) (hb := fun s t => (hb s t).r) (hr := fun s => (hr s).r) (hP := hP) (hF := hF)⟩
theorem sq_forN {it : I} {l : LV} {mi : Mo α} {Vi : α → List D} {Fi : α → Fm} {F : β → Fm} {pt : β → D → Mo τ} {Ft : β → τ → Fm} {st : β → τ → Mo β} {k : β → Mo γ} (b0 : α → β)
    (hi : XI K it q mi Vi Fi) (ht : ∀ s d, XTg K l d (F s) (pt s d) (Ft s)) (hb : ∀ s t, SQ K sa [] (Ft s t) (st s t) (PNc F)) (hr : ∀ s, SQ K r ks (F s) (k s) P) (hF : ∀ a, Fi a = F (b0 a) := by intros; rfl) :
    SQ K (.cons (.for l it sa) r) ks q (mi >>= fun a => foldN (fun s d => pt s d >>= fun t => st s t) (b0 a) (Vi a) >>= k) P := ⟨sr_forN (b0 := b0) (hi := hi) (ht := ht) (hb := fun s t => (hb s t).r) (hr := fun s => (hr s).r) (hF := hF)⟩
theorem mq_nil {m : Mo D} {F : D → Fm} (h : XV K e q m I1 F) : MQ K e .nil q (m >>= fun d => .ok [d]) := ⟨mr_nil (h := h)⟩
theorem mq_cons {x : S} {m : Mo α} {F : α → Fm} {k : α → Mo (List D)} (h : SQ K (.cons x .nil) [] q m (PN F)) (hr : ∀ a, MQ K e r (F a) (k a)) (hp : ∀ a, isPin (F a)[0]? = true := by intros; rfl) : MQ K e (.cons x r) q (m >>= k) := ⟨mr_cons (h := h.r) (hr := fun a => (hr a).r) (hp := hp)⟩
end
end M

set_option Elab.async false
set_option linter.all false
set_option maxRecDepth 100000
set_option maxHeartbeats 1000000
/-! C9: calls with names, f-strings. -/
namespace M
open PySem
section
variable {K : Calls} {q : Fm} {e a b c d : E} {p : P} {m ma mb mc : Mo D} {f k : Nat} {pm : List Nat}
theorem mk1_b {g : D → Mo (List D)} (h1 : EV K a q ma) (hf : ∀ x, CV K f [.sh false x] (g x)) : EB K (.makeP f [0] (.v a .nil)) q (ma >>= fun x => g x >>= fun fs => .ok (.ins f fs)) := fun pk => by
  have z := m1_b h1 hf pk
  have e : ev K (.makeP f [0] (.v a .nil)) pk q = ev K (.make f (.v a .nil)) pk q := by
    rw [ev, ev]
    have : ∀ r : Res (List Ga), (∀ l q', r = .ok l q' → ∃ x, l = [x]) → (bindR r fun l q1 => makeR K f (pick [0] l) q1) = bindR r fun l q1 => makeR K f l q1 := fun r hr => by
      cases r with
      | ok l q' => obtain ⟨x, rfl⟩ := hr l q' rfl; rfl
      | _ => rfl
    refine this _ fun l q' e => ?_
    rw [evG] at e
    cases h : ev K a false q with
    | ok x q1 =>
      rw [h] at e
      have e : (match x.vd with | some d => bindR (evG K .nil q1) fun l q2 => Res.ok (Ga.v d :: l) q2 | none => .bad) = Res.ok l q' := e
      cases hx : x.vd with
      | none => rw [hx] at e; cases e
      | some d => rw [hx, evG] at e; cases e; exact ⟨_, rfl⟩
    | exc _ _ _ => rw [h] at e; cases e
    | bad => rw [h] at e; cases e
  rw [e]
  exact z
end
end M

set_option Elab.async false
set_option linter.all false
set_option maxRecDepth 100000
set_option maxHeartbeats 1000000
/-! C10: sorted(list, key=a def), as a plain function. -/
namespace M
open PySem
section
variable {K : Calls} {q : Fm} {e : E} {m : Mo D} {f : Nat}
end
end M

set_option Elab.async false
set_option linter.all false
set_option maxRecDepth 100000
set_option maxHeartbeats 1000000
/-! C11: xs[k] op= e; near_zeros' cuts. -/
namespace M
open PySem
section
variable {α β γ δ τ ρ : Type} {K : Calls} {q q1 : Fm} {e k : E} {p : P} {r s sa sb : Ss} {ks : List Ss} {P : γ → SRes → Prop}
end
end M

set_option Elab.async false
set_option linter.all false
set_option maxRecDepth 100000
set_option maxHeartbeats 4000000
/-! G14: sorted(ints), sorted(set(ints)). -/
namespace M
open PySem L2 PyProof.Rows PySem.Spec
/-! ### sorted lists of ints -/
/-! ### set(a list of ints) -/
section
variable {Z : Zc} {H : Hp} {R : Pr} {x : V} {Q : VK}
end
section
variable {W : Wo} {X : Cx} {ex : XK} {n : Nat} {pos p1 p2 p3 : Pos} {a : Expr} {A : E}
end
end M

set_option Elab.async false
set_option linter.all false
set_option maxRecDepth 100000
set_option maxHeartbeats 4000000
/-! G15: xs[k] op= e. -/
namespace M
open PySem L2 PyProof.Rows PySem.Spec
section
variable {Z : Zc} {K : Calls} {ex : XK} {σ : Sg} {H : Hp} {D : Ends}
end
section
variable {W : Wo} {X : Cx} {ex : XK} {n : Nat} {pos p1 p2 : Pos} {a b : Expr} {A B : E} {x : Str}
end
end M

set_option Elab.async false
set_option linter.all false
set_option maxRecDepth 100000
set_option maxHeartbeats 4000000
/-! G16: near_zeros' cuts: a dict whose keys are put in order. -/
namespace M
open PySem L2 PyProof.Rows PySem.Spec
/-- the keys of a dict, ints, each once -/
structure KeyI (kv : List (Key × V)) (ks : List Int) : Prop where
  ky : kv.map (·.1) = ks.map Sum.inl
  nd : ks.Nodup
theorem KeyI.len {kv : List (Key × V)} {ks : List Int} (h : KeyI kv ks) : kv.length = ks.length := by
  have := congrArg List.length h.ky
  simpa using this
def putI (ks : List Int) (z : Int) : List Int := if z ∈ ks then ks else ks ++ [z]
theorem putI_mem {ks : List Int} {z x : Int} : x ∈ putI ks z ↔ x ∈ ks ∨ x = z := by
  unfold putI; split
  · rename_i h
    constructor
    · exact .inl
    · rintro (k | rfl)
      · exact k
      · exact h
  · simp
theorem putI_len (ks : List Int) (z : Int) : (putI ks z).length ≤ ks.length + 1 := by unfold putI; split <;> simp
theorem KeyI.put {kv : List (Key × V)} {ks : List Int} (h : KeyI kv ks) (z : Int) (v : V) : KeyI (putK kv (Sum.inl z) v) (putI ks z) := by
  have e : (kv.any fun p => decide (p.1 = Sum.inl z)) = decide (z ∈ ks) := by
    rw [Bool.eq_iff_iff, List.any_eq_true, decide_eq_true_eq]
    constructor
    · rintro ⟨p, hp, hz⟩
      have h1 : p.1 ∈ kv.map (·.1) := List.mem_map.mpr ⟨p, hp, rfl⟩
      rw [h.ky, of_decide_eq_true hz] at h1
      simpa using h1
    · intro hz
      have h1 : (Sum.inl z : Key) ∈ kv.map (·.1) := by rw [h.ky]; exact List.mem_map.mpr ⟨z, hz, rfl⟩
      obtain ⟨p, hp, he⟩ := List.mem_map.mp h1
      exact ⟨p, hp, decide_eq_true he⟩
  unfold putK putI
  rw [e]
  by_cases hz : z ∈ ks
  · rw [if_pos (by simpa using hz), if_pos hz]
    refine ⟨?_, h.nd⟩
    rw [← h.ky, List.map_map]
    refine List.map_congr_left fun p _ => ?_
    simp only [Function.comp]
    split <;> rfl
  · rw [if_neg (by simpa using hz), if_neg hz]
    refine ⟨by simp [h.ky], ?_⟩
    exact List.nodup_append.2 ⟨h.nd, by simp, fun a ha b hb => by
      simp only [List.mem_singleton] at hb
      subst hb
      intro e; subst e; exact hz ha⟩
section
variable {Z : Zc} {K : Calls} {ex : XK} {R0 R1 : Pr} {σ : Sg} {q : Fm} {H : Hp} {D : Ends}
end
/-- the loop's state -/
def nzJ (Hc : Hp) (p : Addr) (b : Int) (l : List Int) (i : Nat) (H : Hp) : Prop := ∃ kv ks, KeyI kv ks ∧ H = upd Hc p (.dK kv) ∧ ks.length ≤ 2 + 2 * i ∧ ∀ x, x ∈ ks ↔ x = -b ∨ x = b ∨ x ∈ (l.take i).flatMap fun a => [a, a + 1]
theorem nzJ.next {Hc H : Hp} {p : Addr} {b : Int} {l : List Int} {i : Nat} {z : Int} (h : nzJ Hc p b l i H) (hz : l[i]? = some z) (hi : i < 1000) : ∃ H1 H2, DPut H p (V.int z) (V.bl true) H1 ∧ DPut H1 p (V.int (z + 1)) (V.bl true) H2 ∧ nzJ Hc p b l (i + 1) H2 := by
  obtain ⟨kv, ks, hk, rfl, hl, hm⟩ := h
  have k1 := hk.put z (V.bl true)
  have k2 := k1.put (z + 1) (V.bl true)
  have l1 := putI_len ks z
  have l2 := putI_len (putI ks z) (z + 1)
  have s1 : kv.length < sizeLine := by rw [hk.len, sizeLine_eq]; omega
  have s2 : (putK kv (Sum.inl z) (V.bl true)).length < sizeLine := by rw [k1.len, sizeLine_eq]; omega
  refine ⟨_, _, DPut.k (k := Sum.inl z) upd_same s1, DPut.k (k := Sum.inl (z + 1)) upd_same s2, _, _, k2, ?_, by omega, fun x => ?_⟩
  · rw [upd_upd, upd_upd]
  · rw [putI_mem, putI_mem, hm x, List.take_add_one, hz]
    simp only [Option.toList_some, List.flatMap_append, List.flatMap_cons, List.flatMap_nil, List.append_nil, List.mem_append, List.mem_cons, List.not_mem_nil, or_false]
    generalize (x ∈ List.flatMap (fun a => [a, a + 1]) (List.take i l)) = P0
    constructor
    · rintro (((h | h | h) | h) | h)
      · exact .inl h
      · exact .inr (.inl h)
      · exact .inr (.inr (.inl h))
      · exact .inr (.inr (.inr (.inl h)))
      · exact .inr (.inr (.inr (.inr h)))
    · rintro (h | h | h | h | h)
      · exact .inl (.inl (.inl h))
      · exact .inl (.inl (.inr (.inl h)))
      · exact .inl (.inl (.inr (.inr h)))
      · exact .inl (.inr h)
      · exact .inr h
section
variable {Z : Zc} {K : Calls} {ex : XK} {σ : Sg} {H : Hp} {D : Ends}
end
end M

set_option Elab.async false
set_option linter.all false
set_option maxRecDepth 100000
set_option maxHeartbeats 4000000
/-! G17: near_zeros' cuts: the tree's reading. -/
namespace M
open PySem L2 PyProof.Rows PySem.Spec
section
variable {Z : Zc} {K : Calls} {ex : XK} {σ : Sg} {H : Hp} {Dn : Ends}
end
section
variable {W : Wo} {X : Cx} {ex : XK} {n : Nat} {q1 q2 q3 q4 q5 q6 : Pos} {a : Expr} {A : E} {st1 st2 st3 : Stmt} {sb : List Stmt} {tb : Ss}
end
end M

set_option Elab.async false
set_option linter.all false
set_option maxRecDepth 100000
set_option maxHeartbeats 4000000
/-! G18: near_zeros' three statements. -/
namespace M
open PySem L2 PyProof.Rows PySem.Spec
section
variable {W : Wo} {X : Cx} {ex : XK} {n : Nat} {pos u1 u2 u3 u4 u5 u6 u7 u8 u9 u10 u11 u12 u13 u14 : Pos} {a : Expr} {A : E} {cuts found at_ bound : Str} {j1 j2 j3 k1 k2 : Nat}
end
end M

set_option Elab.async false
set_option linter.all false
set_option maxRecDepth 100000
set_option maxHeartbeats 4000000
/-! S1: data of numbers and tables, in plain Lean. -/
namespace M
open PySem
section
variable {i j f c k n : Nat} {d d1 d2 d3 : D} {p : P}
def dR (r : List Int) : D := .tup (r.map D.int)
abbrev Tb := List (List Int)
def dT (A : Tb) : D := .tup (A.map dR)
theorem py_ints : ∀ r : List Int, D.pys (r.map D.int) = some (r.map PyData.int)
  | [] => rfl
  | x :: r => by rw [List.map_cons, D.pys, py_ints r]; rfl
theorem py_dR (r : List Int) : D.py (dR r) = some (.tuple (r.map PyData.int)) := by rw [dR, D.py, py_ints]
theorem pys_dR : ∀ A : Tb, D.pys (A.map dR) = some (A.map fun r => .tuple (r.map PyData.int))
  | [] => rfl
  | x :: r => by rw [List.map_cons, D.pys, py_dR, pys_dR r]; rfl
theorem py_dT (A : Tb) : D.py (dT A) = some (.tuple (A.map fun r => .tuple (r.map PyData.int))) := by rw [dT, D.py, pys_dR]
theorem eqv_ints : ∀ r s : List Int, PyData.eqvAll (r.map PyData.int) (s.map PyData.int) = decide (r = s)
  | [], [] => rfl
  | [], _ :: _ => by simp [PyData.eqvAll]
  | _ :: _, [] => by simp [PyData.eqvAll]
  | x :: r, y :: s => by
    rw [List.map_cons, List.map_cons, PyData.eqvAll, eqv_ints r s, PyData.eqv]
    by_cases h : x = y <;> simp [h]
theorem eqv_tb : ∀ A B : Tb, PyData.eqvAll (A.map fun r => .tuple (r.map PyData.int)) (B.map fun r => .tuple (r.map PyData.int)) = decide (A = B)
  | [], [] => rfl
  | [], _ :: _ => by simp [PyData.eqvAll]
  | _ :: _, [] => by simp [PyData.eqvAll]
  | x :: r, y :: s => by
    rw [List.map_cons, List.map_cons, PyData.eqvAll, eqv_tb r s, PyData.eqv, eqv_ints]
    by_cases h : x = y <;> simp [h]
theorem cl_ints : ∀ r : List Int, PyData.canLayAll0 (r.map PyData.int) = true
  | [] => rfl
  | x :: r => by rw [List.map_cons, PyData.canLayAll0, cl_ints r]; rfl
theorem cl_tb : ∀ A : Tb, PyData.canLayAll0 (A.map fun r => .tuple (r.map PyData.int)) = true
  | [] => rfl
  | x :: r => by rw [List.map_cons, PyData.canLayAll0, cl_tb r, PyData.canLay0, cl_ints]; rfl
theorem eq_int {a b : Int} : dEq (.int a) (.int b) = some (decide (a = b)) := by
  show some (a == b) = _
  by_cases h : a = b <;> simp [h]
theorem ev_eq : evP .eq [d1, d2] = (dEq d1 d2).map fun c => (false, .bl c) := rfl
theorem ev_ne : evP .ne [d1, d2] = (dEq d1 d2).map fun c => (false, .bl (!c)) := rfl
theorem bls_true {α : Type} : ∀ l : List α, blsOf (l.map fun _ => D.bl true) = some (l.map fun _ => true)
  | [] => rfl
  | x :: l => by rw [List.map_cons, blsOf, bls_true l]; rfl
theorem all_true {α : Type} (l : List α) : evP .all [.lst (l.map fun _ => D.bl true)] = some (false, .bl true) := by
  show (blsOf _).bind allL = _
  rw [bls_true]
  show some (false, D.bl ((l.map fun _ => true).all id)) = _
  simp
structure TbOk (m : Nat) (A : Tb) : Prop where
  lo : 1 ≤ m
  hi : m ≤ 4
  len : A.length = m
  row : ∀ r ∈ A, r.length = m
  sm : ∀ r ∈ A, ∀ x ∈ r, -1000000 ≤ x ∧ x ≤ 1000000
theorem sl4 {m : Nat} (h : m ≤ 100000) : m ≤ sizeLine := Nat.le_trans h (by decide)
theorem atI_nat {α : Type} (xs : List α) (i : Nat) : L2.atI xs (i : Int) = xs[i]? := by
  unfold L2.atI L2.ixN
  rw [if_pos (Int.natCast_nonneg i)]
  by_cases h : i < xs.length
  · rw [if_pos (by exact_mod_cast h)]; simp
  · rw [if_neg (by exact_mod_cast h)]
    simp [List.getElem?_eq_none (Nat.le_of_not_lt h)]
theorem idx_tup {xs : List D} {i : Nat} (h : xs[i]? = some d) : evP .idx [.tup xs, .int (i : Nat)] = some (false, d) := by
  show (match L2.atI xs (i : Int) with | some d => some (false, d) | none => none) = _
  rw [atI_nat, h]
theorem idx_lst {xs : List D} {i : Nat} (h : xs[i]? = some d) : evP .idx [.lst xs, .int (i : Nat)] = some (false, d) := by
  show (match L2.atI xs (i : Int) with | some d => some (false, d) | none => none) = _
  rw [atI_nat, h]
def dL (ts : List Tb) : D := .tup (ts.map dT)
structure LotOk (m : Nat) (ts : List Tb) : Prop where
  ne : ts ≠ []
  few : ts.length ≤ 3
  tb : ∀ A ∈ ts, TbOk m A
def dO (ts : List Tb) : D := .ins 0 [dL ts]
structure WordOk (ts : List Tb) (w : List Int) : Prop where
  few : w.length ≤ 40
  ix : ∀ x ∈ w, 0 ≤ x ∧ x < ts.length
theorem e62 : (2 : Int) ^ 62 = 4611686018427387904 := by decide
theorem inR_nat {m : Nat} (hm : m ≤ 1000000) : inR (m : Int) = true := by
  unfold inR
  rw [e62, Bool.and_eq_true]
  exact ⟨decide_eq_true (by omega), decide_eq_true (by omega)⟩
theorem rng1F_i (z : Int) : rng1F [.int z] = if inR z then some (rngL 0 z.toNat) else none := rfl
theorem rng1F_nat {m : Nat} (hm : m ≤ 1000000) : rng1F [.int (m : Nat)] = some (rngL 0 m) := by
  rw [rng1F_i, if_pos (inR_nat hm), Int.toNat_natCast]
def unitT (m : Nat) : Tb := (List.range m).map fun i => (List.range m).map fun j => if i = j then 1 else 0
def colsT (m : Nat) (B : Tb) : Tb := (List.range m).map fun j => B.map fun r => r.getD j 0
def dot (r c : List Int) : Int := ((List.zip r c).map fun p => p.1 * p.2).sum
def mulT (m : Nat) (A B : Tb) : Tb := A.map fun r => (colsT m B).map fun c => dot r c
def Bd (p : Nat) (A : Tb) : Prop := ∀ r ∈ A, ∀ x ∈ r, x.natAbs < 2 ^ p
theorem log_lt {a p : Nat} (h : a < 2 ^ p) : a.log2 ≤ p := by
  by_cases ha : a = 0
  · subst ha; simp
  · exact Nat.le_of_lt ((Nat.log2_lt ha).2 h)
theorem mul_ok {x y : Int} {p r : Nat} (hp : p + r < 134000000) (hx : x.natAbs < 2 ^ p) (hy : y.natAbs < 2 ^ r) : evP .mul [.int x, .int y] = some (false, .int (x * y)) := by
  have h : mulOk x y = true := by
    unfold mulOk
    have h1 := log_lt hx
    have h2 := log_lt hy
    exact decide_eq_true (by omega)
  show (if mulOk x y then some (false, D.int (x * y)) else none) = _
  rw [if_pos h]
theorem ints_map (l : List Int) : intsOf (l.map D.int) = some l := by
  induction l with
  | nil => rfl
  | cons x l ih => rw [List.map_cons, intsOf, ih]
theorem sum_ok (l : List Int) : evP .sum [.lst (l.map D.int)] = some (false, .int l.sum) := by
  show (intsOf _).bind sumL = _
  rw [ints_map]
  rfl
theorem rowsOf_T : ∀ B : Tb, rowsOf (B.map dR) = some (B.map fun r => r.map D.int)
  | [] => rfl
  | r :: B => by rw [List.map_cons, rowsOf, rowsOf_T B]; rfl
theorem getD_int {r : List Int} {j : Nat} (h : j < r.length) : (r.map D.int).getD j .non = .int (r.getD j 0) := by
  rw [List.getD_eq_getElem?_getD, List.getD_eq_getElem?_getD, List.getElem?_map, List.getElem?_eq_getElem h]
  rfl
theorem cols_of {m : Nat} {B : Tb} (h : ∀ r ∈ B, r.length = m) : zipCols (B.map fun r => r.map D.int) m = (colsT m B).map dR := by
  unfold zipCols colsT
  rw [List.map_map]
  apply List.map_congr_left
  intro j hj
  have hj' := List.mem_range.1 hj
  show D.tup _ = D.tup _
  congr 1
  rw [List.map_map, List.map_map]
  apply List.map_congr_left
  intro r hr
  exact getD_int (by rw [h r hr]; exact hj')
theorem zip_sr {m : Nat} {B : Tb} (hn : B ≠ []) (h4 : B.length ≤ 4) (hm : m ≤ 1000000) (h : ∀ r ∈ B, r.length = m) : zipSR (B.map dR) = some ((colsT m B).map dR) := by
  obtain ⟨r0, B', rfl⟩ : ∃ a l, B = a :: l := by
    cases B with
    | nil => exact absurd rfl hn
    | cons a l => exact ⟨a, l, rfl⟩
  have h0 := h r0 (List.mem_cons_self ..)
  rw [← cols_of h]
  unfold zipSR
  rw [rowsOf_T, List.map_cons]
  show (if _ then some (zipCols _ (r0.map D.int).length) else none) = _
  have hall : (B'.map fun r => r.map D.int).all (fun x => x.length == (r0.map D.int).length) = true := by
    rw [List.all_eq_true]
    intro x hx
    obtain ⟨r, hr, rfl⟩ := List.mem_map.1 hx
    rw [beq_iff_eq, List.length_map, List.length_map, h r (List.mem_cons_of_mem _ hr), h0]
  rw [if_pos ⟨by rw [List.length_map]; simp at h4; omega, by rw [List.length_map, h0]; exact hm, hall⟩, List.length_map, h0]
theorem bd_cols {m p : Nat} {B : Tb} (h : Bd p B) : Bd p (colsT m B) := by
  intro r hr x hx
  obtain ⟨j, _, rfl⟩ := List.mem_map.1 hr
  obtain ⟨b, hb, rfl⟩ := List.mem_map.1 hx
  rw [List.getD_eq_getElem?_getD]
  cases hj : b[j]? with
  | none => exact Nat.two_pow_pos p
  | some y => exact h b hb y (List.mem_of_getElem? hj)
theorem dot_cons (x y : Int) (r c : List Int) : dot (x :: r) (y :: c) = x * y + dot r c := by simp [dot]
theorem dot_nilL (c : List Int) : dot [] c = 0 := by simp [dot]
theorem dot_nilR (r : List Int) : dot r [] = 0 := by simp [dot]
theorem dot_bd {p s : Nat} : ∀ r c : List Int, (∀ x ∈ r, x.natAbs < 2 ^ p) → (∀ x ∈ c, x.natAbs < 2 ^ s) → (dot r c).natAbs ≤ r.length * 2 ^ (p + s)
  | [], c, _, _ => by rw [dot_nilL]; simp
  | _ :: _, [], _, _ => by rw [dot_nilR]; simp
  | x :: r, y :: c, h, h' => by
    rw [dot_cons]
    have h1 := dot_bd r c (fun x hx => h x (List.mem_cons_of_mem _ hx)) (fun x hx => h' x (List.mem_cons_of_mem _ hx))
    have h2 : (x * y).natAbs ≤ 2 ^ (p + s) := by
      rw [Int.natAbs_mul, Nat.pow_add]
      exact Nat.mul_le_mul (Nat.le_of_lt (h x (List.mem_cons_self ..))) (Nat.le_of_lt (h' y (List.mem_cons_self ..)))
    have h3 := Int.natAbs_add_le (x * y) (dot r c)
    rw [List.length_cons, Nat.succ_mul]
    omega
theorem bd_mul {m p s : Nat} {A B : Tb} (hA : ∀ r ∈ A, r.length ≤ 4) (bA : Bd p A) (bB : Bd s B) : Bd (p + s + 3) (mulT m A B) := by
  intro r hr x hx
  obtain ⟨row, hrow, rfl⟩ := List.mem_map.1 hr
  obtain ⟨c, hc, rfl⟩ := List.mem_map.1 hx
  have h1 := dot_bd row c (bA row hrow) (bd_cols bB c hc)
  have h2 : row.length * 2 ^ (p + s) ≤ 4 * 2 ^ (p + s) := Nat.mul_le_mul_right _ (hA row hrow)
  have h3 : 2 ^ (p + s + 3) = 8 * 2 ^ (p + s) := by rw [Nat.pow_add]; omega
  have h4 := Nat.two_pow_pos (p + s)
  omega
theorem bd_unit (m : Nat) : Bd 1 (unitT m) := by
  intro r hr x hx
  obtain ⟨i, _, rfl⟩ := List.mem_map.1 hr
  obtain ⟨j, _, rfl⟩ := List.mem_map.1 hx
  by_cases hij : i = j <;> simp [hij]
theorem bd_tb {m : Nat} {A : Tb} (h : TbOk m A) : Bd 20 A := by
  intro r hr x hx
  have := h.sm r hr x hx
  have e : (2 : Nat) ^ 20 = 1048576 := by decide
  rw [e]
  omega
structure Sq (m : Nat) (A : Tb) : Prop where
  len : A.length = m
  row : ∀ r ∈ A, r.length = m
theorem sq_unit (m : Nat) : Sq m (unitT m) := ⟨by simp [unitT], by
  intro r hr
  obtain ⟨i, _, rfl⟩ := List.mem_map.1 hr
  simp⟩
theorem sq_mul {m : Nat} {A B : Tb} (h : Sq m A) : Sq m (mulT m A B) := ⟨by simp [mulT, h.len], by
  intro r hr
  obtain ⟨i, _, rfl⟩ := List.mem_map.1 hr
  simp [colsT]⟩
def prodT (m : Nat) (ts : List Tb) (w : List Int) : Tb := w.foldl (fun acc i => mulT m acc (ts.getD i.toNat [])) (unitT m)
theorem prodT_snoc (m : Nat) (ts : List Tb) (w : List Int) (i : Int) : prodT m ts (w ++ [i]) = mulT m (prodT m ts w) (ts.getD i.toNat []) := by simp [prodT]
def diag : Nat → Tb → List Int
  | _, [] => []
  | k, r :: A => r.getD k 0 :: diag (k + 1) A
def traceT (A : Tb) : Int := (diag 0 A).sum
theorem sq_prod {m : Nat} {ts : List Tb} (w : List Int) : Sq m (prodT m ts w) := by
  unfold prodT
  have : ∀ (w : List Int) (A : Tb), Sq m A → Sq m (w.foldl (fun acc i => mulT m acc (ts.getD i.toNat [])) A) := by
    intro w
    induction w with
    | nil => intro A h; exact h
    | cons x w ih => intro A h; exact ih _ (sq_mul h)
  exact this w _ (sq_unit m)
def pail (a s c : Int) : D := .lst [.int a, .int s, .int c]
theorem mod_ok {x y : Int} (h : 0 < y) : evP .mod [.int x, .int y] = some (false, .int (x % y)) := by
  show (match (if y ≠ 0 then some (x.fmod y) else none) with | some c => some (false, D.int c) | none => none) = _
  rw [if_pos (by omega), Int.fmod_eq_emod_of_nonneg x (by omega)]
theorem fdiv_ok {x y : Int} (h : 0 < y) (hy : y.natAbs < 2 ^ 64) : evP .fdiv [.int x, .int y] = some (false, .int (x / y)) := by
  show (match (if y ≠ 0 ∧ (y.natAbs.log2 < 9000 ∨ x.natAbs.log2 < y.natAbs.log2 + 4400) then some (x.fdiv y) else none) with | some c => some (false, D.int c) | none => none) = _
  rw [if_pos ⟨by omega, .inl (Nat.lt_of_le_of_lt (log_lt hy) (by decide))⟩, Int.fdiv_eq_ediv_of_nonneg x (by omega)]
theorem divmod_ok {x y : Int} (h : 0 < y) (h' : y < 1073741824) : evP .divmod [.int x, .int y] = some (false, .tup [.int (x / y), .int (x % y)]) := by
  show (if 0 < y ∧ y < 1073741824 then some (false, D.tup [.int (x / y), .int (x % y)]) else none) = _
  rw [if_pos ⟨h, h'⟩]
theorem lt_pow32 {x : Int} (h : 0 ≤ x) (h' : x < 4294967296) : x.natAbs < 2 ^ 32 := by
  have e : (2 : Nat) ^ 32 = 4294967296 := by decide
  rw [e]; omega
theorem pow18 : evP .pow [.int 10, .int 18] = some (false, .int 1000000000000000000) := rfl
theorem dp_ints : ∀ r : List Int, PyData.depthAll (r.map PyData.int) = 0
  | [] => rfl
  | x :: r => by rw [List.map_cons, PyData.depthAll, dp_ints r]; rfl
theorem dp_tb : ∀ A : Tb, PyData.depthAll (A.map fun r => .tuple (r.map PyData.int)) ≤ 1
  | [] => by rw [List.map_nil, PyData.depthAll]; omega
  | x :: r => by
    rw [List.map_cons, PyData.depthAll, PyData.depth, dp_ints]
    have := dp_tb r
    omega
theorem shaped_tb (A : Tb) : SeqAt.shaped (.tuple (A.map fun r => .tuple (r.map PyData.int))) = true := by
  unfold SeqAt.shaped
  rw [Bool.and_eq_true]
  refine ⟨?_, decide_eq_true ?_⟩
  · rw [PyData.canLay0]; exact cl_tb A
  · rw [PyData.depth]
    have := dp_tb A
    omega
theorem eq_dT (A B : Tb) : dEq (dT A) (dT B) = some (decide (A = B)) := by
  unfold dEq
  rw [py_dT, py_dT]
  show (if SeqAt.shaped _ && SeqAt.shaped _ then some (PyData.eqv _ _) else none) = _
  rw [shaped_tb, shaped_tb, Bool.and_self, if_pos rfl, PyData.eqv, eqv_tb]
end
end M

set_option Elab.async false
set_option linter.all false
set_option maxRecDepth 100000
set_option maxHeartbeats 4000000
/-! Pk1: plain functions (printed by gen2.py). -/
namespace M
open PySem
def m_is_integer (x_0 : D) : Mo D :=
  (((.ok x_0) >>= fun v0 => (prmV (.isi "int") [v0])) >>= fun v1 => ((isB v1) >>= fun v2 => (if v2 then (((.ok x_0) >>= fun v3 => (prm (.isi "bool") [v3])) >>= fun v4 => ((tru v4) >>= fun v5 => (.ok (D.bl (!v5))))) else .ok (D.bl false))))
def m_are_integers (x_0 x_1 : D) : Mo D :=
  (((.ok x_0) >>= fun v0 => (prmV (.isi "tuple") [v0])) >>= fun v1 => ((isB v1) >>= fun v2 => (if v2 then ((((.ok x_0) >>= fun v3 => (prm .len [v3])) >>= fun v4 => ((.ok x_1) >>= fun v5 => (prmV .eq [v4, v5]))) >>= fun v6 => ((isB v6) >>= fun v7 => (if v7 then ((((.ok x_0) >>= fun v8 => (itemsM v8)) >>= fun v9 => (mapL (fun v10 => (.ok v10) >>= fun v11 => ((.ok v11) >>= fun v12 => (m_is_integer v12))) v9 >>= fun l => .ok (D.lst l))) >>= fun v13 => (prmV .all [v13])) else .ok (D.bl false)))) else .ok (D.bl false))))
def m_is_table (x_0 : D) : Mo D :=
  ((((((.ok x_0) >>= fun v0 => (prm (.isi "tuple") [v0])) >>= fun v1 => (tru v1)) >>= fun v2 => .ok (!v2)) >>= fun v3 => if v3 then .ok true else ((((.ok (D.int 1)) >>= fun v4 => (((.ok x_0) >>= fun v5 => (prm .len [v5])) >>= fun v6 => ((prm .le [v4, v6]) >>= fun v7 => ((isB v7) >>= fun v8 => (if v8 then ((.ok (D.int 4)) >>= fun v9 => (prmV .le [v6, v9])) else .ok (D.bl false)))))) >>= fun v10 => (tru v10)) >>= fun v11 => .ok (!v11))) >>= fun v12 => if v12 then (.ok (D.bl false)) else (((((((.ok x_0) >>= fun v13 => (itemsM v13)) >>= fun v14 => (mapL (fun v15 => (.ok v15) >>= fun v16 => ((.ok v16) >>= fun v17 => (((.ok x_0) >>= fun v18 => (prm .len [v18])) >>= fun v19 => (m_are_integers v17 v19)))) v14 >>= fun l => .ok (D.lst l))) >>= fun v20 => (prm .all [v20])) >>= fun v21 => (tru v21)) >>= fun v22 => .ok (!v22)) >>= fun v23 => if v23 then (.ok (D.bl false)) else ((((.ok x_0) >>= fun v24 => (itemsM v24)) >>= fun v25 => (catL (fun v26 => (.ok v26) >>= fun v27 => (((.ok v27) >>= fun v28 => (itemsM v28)) >>= fun v29 => (filA (fun v30 => (.ok v30) >>= fun v31 => ((((.ok v31) >>= fun v32 => (prm .abs [v32])) >>= fun v33 => ((.ok (D.int 1000000)) >>= fun v34 => (prm .le [v33, v34]))) >>= fun v35 => (.ok (some v35)))) v29))) v25 >>= fun l => .ok (D.lst l))) >>= fun v36 => (prm .all [v36]))))
def m_wrong_table (x_0 : D) : Mo D :=
  ((((((.ok x_0) >>= fun v0 => (prm (.isi "tuple") [v0])) >>= fun v1 => (tru v1)) >>= fun v2 => .ok (!v2)) >>= fun v3 => if v3 then .ok true else ((((.ok x_0) >>= fun v4 => (prm .len [v4])) >>= fun v5 => ((.ok (D.int 0)) >>= fun v6 => (prm .eq [v5, v6]))) >>= fun v7 => (tru v7))) >>= fun v8 => if v8 then ((.ok (D.int 1)) >>= fun v9 => (prm .neg [v9])) else (((.ok x_0) >>= fun v10 => (optM (enmF [v10]))) >>= fun v11 => foldB (ρ := D) (fun (v12 : Unit) v13 => (un2 v13) >>= fun v14 => (((((.ok v14.1) >>= fun v15 => ((.ok (D.int 3)) >>= fun v16 => (prm .eq [v15, v16]))) >>= fun v17 => (tru v17)) >>= fun v18 => if v18 then .ok true else (((((.ok v14.2) >>= fun v19 => (m_is_table v19)) >>= fun v20 => (tru v20)) >>= fun v21 => .ok (!v21)) >>= fun v22 => if v22 then .ok true else ((((.ok v14.2) >>= fun v23 => (prm .len [v23])) >>= fun v24 => ((((.ok x_0) >>= fun v25 => ((.ok (D.int 0)) >>= fun v26 => (prm .idx [v25, v26]))) >>= fun v27 => (prm .len [v27])) >>= fun v28 => (prm .ne [v24, v28]))) >>= fun v29 => (tru v29)))) >>= fun v30 => if v30 then ((.ok v14.1) >>= fun v31 => .ok (.ret v31)) else (.ok (.nx ())))) () v11 >>= fun v32 => Fl.on v32 (fun _ => (.ok D.non)) (fun v32 => .ok ( v32))))
def m_Lot_init (x_1 : D) : Mo (List D) :=
  ((((.ok x_1) >>= fun v0 => (m_wrong_table v0)) >>= fun v1 => (.ok v1)) >>= fun v2 => (((((.ok v2) >>= fun v3 => (prm .notN [v3])) >>= fun v4 => (tru v4)) >>= fun v5 => if v5 then .bad else (.ok ())) >>= fun _ => ((.ok x_1) >>= fun v6 => (.ok [v6]))))
def m_check_lot (x_0 : D) : Mo D :=
  (((((.ok x_0) >>= fun v0 => (prm (.isiC 0) [v0])) >>= fun v1 => (tru v1)) >>= fun v2 => .ok (!v2)) >>= fun v3 => if v3 then .bad else (.ok D.non))
def m_wrong_letter (x_0 x_1 : D) : Mo D :=
  (((((.ok x_1) >>= fun v0 => (prm (.isi "tuple") [v0])) >>= fun v1 => (tru v1)) >>= fun v2 => .ok (!v2)) >>= fun v3 => if v3 then ((.ok (D.int 1)) >>= fun v4 => (prm .neg [v4])) else (((.ok x_1) >>= fun v5 => (optM (enmF [v5]))) >>= fun v6 => foldB (ρ := D) (fun (v7 : Unit) v8 => (un2 v8) >>= fun v9 => (((((.ok v9.1) >>= fun v10 => ((.ok (D.int 40)) >>= fun v11 => (prm .eq [v10, v11]))) >>= fun v12 => (tru v12)) >>= fun v13 => if v13 then .ok true else (((((.ok v9.2) >>= fun v14 => (m_is_integer v14)) >>= fun v15 => (tru v15)) >>= fun v16 => .ok (!v16)) >>= fun v17 => if v17 then .ok true else ((((.ok (D.int 0)) >>= fun v18 => ((.ok v9.2) >>= fun v19 => ((prm .le [v18, v19]) >>= fun v20 => ((isB v20) >>= fun v21 => (if v21 then ((((.ok x_0) >>= fun v22 => (fldM 0 0 v22)) >>= fun v23 => (prm .len [v23])) >>= fun v24 => (prmV .lt [v19, v24])) else .ok (D.bl false)))))) >>= fun v25 => (tru v25)) >>= fun v26 => .ok (!v26)))) >>= fun v27 => if v27 then ((.ok v9.1) >>= fun v28 => .ok (.ret v28)) else (.ok (.nx ())))) () v6 >>= fun v29 => Fl.on v29 (fun _ => (.ok D.non)) (fun v29 => .ok ( v29))))
def m_check_word (x_0 x_1 : D) : Mo D :=
  (((.ok x_0) >>= fun v0 => ((.ok x_1) >>= fun v1 => (m_wrong_letter v0 v1))) >>= fun v2 => ((((.ok v2) >>= fun v3 => (prm .notN [v3])) >>= fun v4 => (tru v4)) >>= fun v5 => if v5 then .bad else (.ok D.non)))
def m_unit (x_0 : D) : Mo D :=
  ((((.ok x_0) >>= fun v0 => (optM (rng1F [v0]))) >>= fun v1 => (mapL (fun v2 => (.ok v2) >>= fun v3 => ((((.ok x_0) >>= fun v4 => (optM (rng1F [v4]))) >>= fun v5 => (mapL (fun v6 => (.ok v6) >>= fun v7 => ((((.ok v3) >>= fun v8 => ((.ok v7) >>= fun v9 => (prm .eq [v8, v9]))) >>= fun v10 => (tru v10)) >>= fun v11 => (if v11 then (.ok (D.int 1)) else (.ok (D.int 0))))) v5 >>= fun l => .ok (D.lst l))) >>= fun v12 => (prm .tuple [v12]))) v1 >>= fun l => .ok (D.lst l))) >>= fun v13 => (prm .tuple [v13]))
def m_times (x_0 x_1 : D) : Mo D :=
  (((.ok x_1) >>= fun v0 => (seqM v0 >>= fun l => optM (zipSR l) >>= fun l => .ok (D.lst l))) >>= fun v1 => ((((.ok x_0) >>= fun v2 => (itemsM v2)) >>= fun v3 => (mapL (fun v4 => (.ok v4) >>= fun v5 => ((((.ok v1) >>= fun v6 => (itemsM v6)) >>= fun v7 => (mapL (fun v8 => (.ok v8) >>= fun v9 => ((((.ok v5) >>= fun v10 => ((.ok v9) >>= fun v11 => (optM (zipF [v10, v11])))) >>= fun v12 => (mapL (fun v13 => (un2 v13) >>= fun v14 => ((.ok v14.1) >>= fun v15 => ((.ok v14.2) >>= fun v16 => (prm .mul [v15, v16])))) v12 >>= fun l => .ok (D.lst l))) >>= fun v17 => (prm .sum [v17]))) v7 >>= fun l => .ok (D.lst l))) >>= fun v18 => (prm .tuple [v18]))) v3 >>= fun l => .ok (D.lst l))) >>= fun v19 => (prm .tuple [v19])))
def m_product_of (x_0 x_1 : D) : Mo D :=
  (((((.ok x_0) >>= fun v0 => ((.ok (D.int 0)) >>= fun v1 => (prm .idx [v0, v1]))) >>= fun v2 => (prm .len [v2])) >>= fun v3 => (m_unit v3)) >>= fun v4 => (((.ok x_1) >>= fun v5 => (itemsM v5)) >>= fun v6 => foldN (fun v7 v8 => (.ok v8) >>= fun v9 => (((.ok v7) >>= fun v10 => (((.ok x_0) >>= fun v11 => ((.ok v9) >>= fun v12 => (prm .idx [v11, v12]))) >>= fun v13 => (m_times v10 v13))) >>= fun v14 => (.ok v14))) v4 v6 >>= fun v15 => (.ok v15)))
def m_Lot_tables (x_0 : D) : Mo D :=
  ((.ok x_0) >>= fun v0 => (fldM 0 0 v0))
def m_product (x_0 x_1 : D) : Mo D :=
  (((.ok x_0) >>= fun v0 => (m_check_lot v0)) >>= fun v1 => (((.ok x_0) >>= fun v2 => ((.ok x_1) >>= fun v3 => (m_check_word v2 v3))) >>= fun v4 => (((.ok x_0) >>= fun v5 => (isI 0 v5 >>= fun _ => noExc (m_Lot_tables v5))) >>= fun v6 => ((.ok x_1) >>= fun v7 => (m_product_of v6 v7)))))
def m_trace_of (x_0 : D) : Mo D :=
  ((((.ok x_0) >>= fun v0 => (optM (enmF [v0]))) >>= fun v1 => (mapL (fun v2 => (un2 v2) >>= fun v3 => ((.ok v3.2) >>= fun v4 => ((.ok v3.1) >>= fun v5 => (prm .idx [v4, v5])))) v1 >>= fun l => .ok (D.lst l))) >>= fun v6 => (prm .sum [v6]))
def m_trace (x_0 x_1 : D) : Mo D :=
  (((.ok x_0) >>= fun v0 => (m_check_lot v0)) >>= fun v1 => (((.ok x_0) >>= fun v2 => ((.ok x_1) >>= fun v3 => (m_check_word v2 v3))) >>= fun v4 => ((((.ok x_0) >>= fun v5 => (isI 0 v5 >>= fun _ => noExc (m_Lot_tables v5))) >>= fun v6 => ((.ok x_1) >>= fun v7 => (m_product_of v6 v7))) >>= fun v8 => (m_trace_of v8))))
def m__law_cast (x_0 x_1 : D) : Mo (D × D) :=
  (((((.ok x_0) >>= fun v0 => ((.ok (D.int 0)) >>= fun v1 => (prm .idx [v0, v1]))) >>= fun v2 => ((.ok (D.int 0)) >>= fun v3 => (prm .gt [v2, v3]))) >>= fun v4 => (tru v4)) >>= fun v5 => if v5 then ((((.ok x_0) >>= fun v6 => ((.ok (D.int 0)) >>= fun v7 => (prm .idx [v6, v7]))) >>= fun v8 => ((.ok x_1) >>= fun v9 => (prm .divmod [v8, v9]))) >>= fun v10 => (un2 v10 >>= fun v11 => (((noExc (.ok (D.int 0))) >>= fun v12 => (putM x_0 v12 v11.1)) >>= fun v13 => (.ok v11.2) >>= fun v14 => .ok (v13, v14))) >>= fun v15 => ((.ok v15.2) >>= fun v16 => (.ok (v16, v15.1)))) else ((((.ok x_0) >>= fun v17 => ((.ok (D.int 2)) >>= fun v18 => (prm .idx [v17, v18]))) >>= fun v19 => ((.ok (D.int 1)) >>= fun v20 => (prm .add [v19, v20]))) >>= fun v21 => ((noExc (.ok (D.int 2))) >>= fun v22 => (putM x_0 v22 v21)) >>= fun v23 => ((((((((.ok v23) >>= fun v24 => ((.ok (D.int 1)) >>= fun v25 => (prm .idx [v24, v25]))) >>= fun v26 => (((.ok (D.int 36809)) >>= fun v27 => (((.ok (D.int 2)) >>= fun v28 => (((.ok v23) >>= fun v29 => ((.ok (D.int 2)) >>= fun v30 => (prm .idx [v29, v30]))) >>= fun v31 => (prm .mul [v28, v31]))) >>= fun v32 => (prm .add [v27, v32]))) >>= fun v33 => (prm .mul [v26, v33]))) >>= fun v34 => (((.ok (D.int 5303)) >>= fun v35 => (((.ok v23) >>= fun v36 => ((.ok (D.int 2)) >>= fun v37 => (prm .idx [v36, v37]))) >>= fun v38 => (prm .mul [v35, v38]))) >>= fun v39 => (prm .add [v34, v39]))) >>= fun v40 => ((.ok (D.int 7)) >>= fun v41 => (prm .add [v40, v41]))) >>= fun v42 => (prm .int [v42])) >>= fun v43 => ((.ok (D.int 2147483629)) >>= fun v44 => (prm .mod [v43, v44]))) >>= fun v45 => (((((((.ok v45) >>= fun v46 => ((.ok (D.int 45413)) >>= fun v47 => (prm .mul [v46, v47]))) >>= fun v48 => (((.ok (D.int 3)) >>= fun v49 => (((.ok v23) >>= fun v50 => ((.ok (D.int 2)) >>= fun v51 => (prm .idx [v50, v51]))) >>= fun v52 => (prm .mul [v49, v52]))) >>= fun v53 => (prm .add [v48, v53]))) >>= fun v54 => ((.ok (D.int 1)) >>= fun v55 => (prm .add [v54, v55]))) >>= fun v56 => (prm .int [v56])) >>= fun v57 => ((.ok (D.int 2147483587)) >>= fun v58 => (prm .mod [v57, v58]))) >>= fun v59 => ((noExc (.ok (D.int 1))) >>= fun v60 => (putM v23 v60 v59)) >>= fun v61 => ((((((.ok v61) >>= fun v62 => ((.ok (D.int 1)) >>= fun v63 => (prm .idx [v62, v63]))) >>= fun v64 => ((.ok (D.int 256)) >>= fun v65 => (prm .fdiv [v64, v65]))) >>= fun v66 => (prm .int [v66])) >>= fun v67 => ((.ok x_1) >>= fun v68 => (prm .mod [v67, v68]))) >>= fun v69 => (.ok (v69, v61)))))))
def m__law_begun (x_0 x_1 : D) : Mo D :=
  (((((.ok x_1) >>= fun v0 => (((.ok x_0) >>= fun v1 => (prm .len [v1])) >>= fun v2 => (prm .lt [v0, v2]))) >>= fun v3 => (tru v3)) >>= fun v4 => (if v4 then ((.ok x_0) >>= fun v5 => ((.ok x_1) >>= fun v6 => (prm .idx [v5, v6]))) else (.ok (D.int 0)))) >>= fun v7 => (((.ok (D.int 60013)) >>= fun v8 => (((.ok (D.int 7727)) >>= fun v9 => ((.ok x_1) >>= fun v10 => (prm .mul [v9, v10]))) >>= fun v11 => (prm .add [v8, v11]))) >>= fun v12 => ((((.ok x_0) >>= fun v13 => ((.ok (D.int 6)) >>= fun v14 => (prm (.slo false true) [v13, v14]))) >>= fun v15 => (itemsM v15)) >>= fun v16 => foldN (fun v17 v18 => (.ok v18) >>= fun v19 => (((((((.ok v17) >>= fun v20 => ((.ok (D.int 30269)) >>= fun v21 => (prm .mul [v20, v21]))) >>= fun v22 => (((.ok v19) >>= fun v23 => ((.ok (D.int 7)) >>= fun v24 => (prm .mul [v23, v24]))) >>= fun v25 => (prm .add [v22, v25]))) >>= fun v26 => ((.ok (D.int 13)) >>= fun v27 => (prm .add [v26, v27]))) >>= fun v28 => (prm .int [v28])) >>= fun v29 => ((.ok (D.int 2147483629)) >>= fun v30 => (prm .mod [v29, v30]))) >>= fun v31 => (.ok v31))) v12 v16 >>= fun v32 => (((((((.ok v7) >>= fun v33 => ((.ok (D.int 0)) >>= fun v34 => (prm .lt [v33, v34]))) >>= fun v35 => (tru v35)) >>= fun v36 => if v36 then .ok true else (((.ok v7) >>= fun v37 => (((.ok (D.int 10)) >>= fun v38 => ((.ok (D.int 18)) >>= fun v39 => (prm .pow [v38, v39]))) >>= fun v40 => (prm .ge [v37, v40]))) >>= fun v41 => (tru v41))) >>= fun v42 => (if v42 then ((.ok v7) >>= fun v43 => (prm .abs [v43])) else (.ok (D.int 0)))) >>= fun v44 => (((((((.ok v32) >>= fun v45 => ((.ok (D.int 53)) >>= fun v46 => (prm .mul [v45, v46]))) >>= fun v47 => (((.ok v7) >>= fun v48 => ((.ok v7) >>= fun v49 => (prm .mul [v48, v49]))) >>= fun v50 => (prm .add [v47, v50]))) >>= fun v51 => (((.ok (D.int 17)) >>= fun v52 => ((.ok x_1) >>= fun v53 => (prm .mul [v52, v53]))) >>= fun v54 => (prm .add [v51, v54]))) >>= fun v55 => (prm .int [v55])) >>= fun v56 => ((.ok (D.int 2147483629)) >>= fun v57 => (prm .mod [v56, v57]))) >>= fun v58 => ((.ok (D.int 0)) >>= fun v59 => (.ok []) >>= fun v60 => .ok (v59 :: v60)) >>= fun v61 => .ok (v58 :: v61)) >>= fun v62 => .ok (v44 :: v62)) >>= lstM))))
end M

set_option Elab.async false
set_option linter.all false
set_option maxRecDepth 100000
set_option maxHeartbeats 4000000
/-! S2: plain functions: primitives, walks; the package's functions up to products and traces. -/
namespace M
open PySem
section
variable {α β γ : Type} {a b : Int} {c : Bool} {l l' : List D} {d : D}
theorem prm_of {p : P} {ds : List D} {fl : Bool} {d : D} (h : evP p ds = some (fl, d)) : prm p ds = .ok d := by unfold prm; rw [h]
theorem prmV_of {p : P} {ds : List D} {d : D} (h : evP p ds = some (false, d)) : prmV p ds = .ok d := by unfold prmV; rw [h]
@[simp] theorem noExc_ok (a : α) : noExc (.ok a) = .ok a := nr rfl
@[simp] theorem tru_bl : tru (.bl c) = .ok c := nr rfl
@[simp] theorem tru_int : tru (.int a) = .ok (a != 0) := nr rfl
@[simp] theorem isB_bl : isB (.bl c) = .ok c := nr rfl
@[simp] theorem seqM_lst : seqM (.lst l) = .ok l := nr rfl
@[simp] theorem seqM_tup : seqM (.tup l) = .ok l := nr rfl
@[simp] theorem itemsM_lst : itemsM (.lst l) = .ok l := nr rfl
@[simp] theorem itemsM_tup : itemsM (.tup l) = .ok l := nr rfl
@[simp] theorem optM_some : optM (some l) = .ok l := nr rfl
@[simp] theorem un2_tup {x y : D} : un2 (.tup [x, y]) = .ok (x, y) := nr rfl
@[simp] theorem un3_tup {x y z : D} : un3 (.tup [x, y, z]) = .ok (x, y, z) := nr rfl
@[simp] theorem p_add : prm .add [.int a, .int b] = .ok (.int (a + b)) := nr rfl
@[simp] theorem p_sub : prm .sub [.int a, .int b] = .ok (.int (a - b)) := nr rfl
@[simp] theorem pV_sub : prmV .sub [.int a, .int b] = .ok (.int (a - b)) := nr rfl
@[simp] theorem pV_add : prmV .add [.int a, .int b] = .ok (.int (a + b)) := nr rfl
@[simp] theorem p_neg : prm .neg [.int a] = .ok (.int (-a)) := nr rfl
@[simp] theorem p_lt : prm .lt [.int a, .int b] = .ok (.bl (decide (a < b))) := nr rfl
@[simp] theorem p_le : prm .le [.int a, .int b] = .ok (.bl (decide (a ≤ b))) := nr rfl
@[simp] theorem p_gt : prm .gt [.int a, .int b] = .ok (.bl (decide (b < a))) := nr rfl
@[simp] theorem p_ge : prm .ge [.int a, .int b] = .ok (.bl (decide (b ≤ a))) := nr rfl
@[simp] theorem pV_lt : prmV .lt [.int a, .int b] = .ok (.bl (decide (a < b))) := nr rfl
@[simp] theorem pV_le : prmV .le [.int a, .int b] = .ok (.bl (decide (a ≤ b))) := nr rfl
@[simp] theorem pV_gt : prmV .gt [.int a, .int b] = .ok (.bl (decide (b < a))) := nr rfl
@[simp] theorem pV_ge : prmV .ge [.int a, .int b] = .ok (.bl (decide (b ≤ a))) := nr rfl
@[simp] theorem p_eq : prm .eq [.int a, .int b] = .ok (.bl (decide (a = b))) := prm_of (by rw [ev_eq, eq_int]; rfl)
@[simp] theorem p_ne : prm .ne [.int a, .int b] = .ok (.bl (!decide (a = b))) := prm_of (by rw [ev_ne, eq_int]; rfl)
@[simp] theorem pV_eq : prmV .eq [.int a, .int b] = .ok (.bl (decide (a = b))) := prmV_of (by rw [ev_eq, eq_int]; rfl)
@[simp] theorem pV_ne : prmV .ne [.int a, .int b] = .ok (.bl (!decide (a = b))) := prmV_of (by rw [ev_ne, eq_int]; rfl)
@[simp] theorem p_eqT {A B : Tb} : prm .eq [dT A, dT B] = .ok (.bl (decide (A = B))) := prm_of (by rw [ev_eq, eq_dT]; rfl)
@[simp] theorem p_neT {A B : Tb} : prm .ne [dT A, dT B] = .ok (.bl (!decide (A = B))) := prm_of (by rw [ev_ne, eq_dT]; rfl)
@[simp] theorem pV_eqT {A B : Tb} : prmV .eq [dT A, dT B] = .ok (.bl (decide (A = B))) := prmV_of (by rw [ev_eq, eq_dT]; rfl)
@[simp] theorem p_lenL : prm .len [.lst l] = .ok (.int l.length) := nr rfl
@[simp] theorem p_lenT : prm .len [.tup l] = .ok (.int l.length) := nr rfl
@[simp] theorem p_int : prm .int [.int a] = .ok (.int a) := nr rfl
@[simp] theorem p_intB : prm .int [.bl c] = .ok (.int (if c then 1 else 0)) := nr rfl
@[simp] theorem p_abs : prm .abs [.int a] = .ok (.int (if a < 0 then -a else a)) := nr rfl
@[simp] theorem p_tupleL : prm .tuple [.lst l] = .ok (.tup l) := nr rfl
@[simp] theorem p_tupleT : prm .tuple [.tup l] = .ok (.tup l) := nr rfl
@[simp] theorem p_max2 : prm .max2 [.int a, .int b] = .ok (.int (if b > a then b else a)) := nr rfl
@[simp] theorem p_min2 : prm .min2 [.int a, .int b] = .ok (.int (if b < a then b else a)) := nr rfl
@[simp] theorem p_notN : prm .notN [d] = .ok (.bl (!isNon d)) := nr rfl
@[simp] theorem p_isN : prm .isN [d] = .ok (.bl (isNon d)) := nr rfl
@[simp] theorem isNon_non : isNon .non = true := nr rfl
@[simp] theorem isNon_int : isNon (.int a) = false := nr rfl
@[simp] theorem isNon_tup : isNon (.tup l) = false := nr rfl
@[simp] theorem p_isiT : prm (.isi "tuple") [.tup l] = .ok (.bl true) := nr rfl
@[simp] theorem pV_isiT : prmV (.isi "tuple") [.tup l] = .ok (.bl true) := nr rfl
@[simp] theorem p_isiI : prm (.isi "int") [.int a] = .ok (.bl true) := nr rfl
@[simp] theorem pV_isiI : prmV (.isi "int") [.int a] = .ok (.bl true) := nr rfl
@[simp] theorem p_isiB : prm (.isi "bool") [.int a] = .ok (.bl false) := nr rfl
@[simp] theorem p_isiC {k k' : Nat} : prm (.isiC k) [.ins k' l] = .ok (.bl (k' == k)) := nr rfl
@[simp] theorem fldM_0 {k : Nat} : fldM k 0 (.ins k (d :: l)) = .ok d := by simp [fldM]
@[simp] theorem isI_ok {k : Nat} : isI k (.ins k l) = .ok () := by simp [isI]
theorem p_mul {p r : Nat} (hp : p + r < 134000000) (hx : a.natAbs < 2 ^ p) (hy : b.natAbs < 2 ^ r) : prm .mul [.int a, .int b] = .ok (.int (a * b)) := prm_of (mul_ok hp hx hy)
theorem p_mod (h : 0 < b) : prm .mod [.int a, .int b] = .ok (.int (a % b)) := prm_of (mod_ok h)
theorem p_fdiv (h : 0 < b) (hy : b.natAbs < 2 ^ 64) : prm .fdiv [.int a, .int b] = .ok (.int (a / b)) := prm_of (fdiv_ok h hy)
theorem p_divmod (h : 0 < b) (h' : b < 1073741824) : prm .divmod [.int a, .int b] = .ok (.tup [.int (a / b), .int (a % b)]) := prm_of (divmod_ok h h')
theorem p_idxT {i : Nat} (h : l[i]? = some d) : prm .idx [.tup l, .int (i : Nat)] = .ok d := prm_of (idx_tup h)
theorem p_idxL {i : Nat} (h : l[i]? = some d) : prm .idx [.lst l, .int (i : Nat)] = .ok d := prm_of (idx_lst h)
@[simp] theorem p_idx0T : prm .idx [.tup (d :: l), .int 0] = .ok d := p_idxT (i := 0) rfl
@[simp] theorem p_idx0L : prm .idx [.lst (d :: l), .int 0] = .ok d := p_idxL (i := 0) rfl
@[simp] theorem p_idx1T {x : D} : prm .idx [.tup (x :: d :: l), .int 1] = .ok d := p_idxT (i := 1) rfl
@[simp] theorem p_idx1L {x : D} : prm .idx [.lst (x :: d :: l), .int 1] = .ok d := p_idxL (i := 1) rfl
@[simp] theorem p_idx2T {x y : D} : prm .idx [.tup (x :: y :: d :: l), .int 2] = .ok d := p_idxT (i := 2) rfl
@[simp] theorem p_idx2L {x y : D} : prm .idx [.lst (x :: y :: d :: l), .int 2] = .ok d := p_idxL (i := 2) rfl
theorem put3_0 {x y z v : D} : putM (.lst [x, y, z]) (.int 0) v = .ok (.lst [v, y, z]) := nr rfl
theorem put3_1 {x y z v : D} : putM (.lst [x, y, z]) (.int 1) v = .ok (.lst [x, v, z]) := nr rfl
theorem put3_2 {x y z v : D} : putM (.lst [x, y, z]) (.int 2) v = .ok (.lst [x, y, v]) := nr rfl
theorem p_sum {r : List Int} : prm .sum [.lst (r.map D.int)] = .ok (.int r.sum) := prm_of (sum_ok r)
theorem p_all {τ : Type} {r : List τ} : prm .all [.lst (r.map fun _ => D.bl true)] = .ok (.bl true) := prm_of (all_true r)
theorem pV_all {τ : Type} {r : List τ} : prmV .all [.lst (r.map fun _ => D.bl true)] = .ok (.bl true) := prmV_of (all_true r)
theorem tup_ok (h : l.length ≤ sizeLine) : tupM l = .ok (.tup l) := if_pos h
theorem lst_ok (h : l.length ≤ sizeLine) : lstM l = .ok (.lst l) := if_pos h
theorem sz {n : Nat} (h : n ≤ 100000) : n ≤ sizeLine := sl4 h
@[simp] theorem tup0 : tupM [] = .ok (.tup []) := tup_ok (sz (by simp))
@[simp] theorem tup1 {x : D} : tupM [x] = .ok (.tup [x]) := tup_ok (sz (by simp))
@[simp] theorem tup2 {x y : D} : tupM [x, y] = .ok (.tup [x, y]) := tup_ok (sz (by simp))
@[simp] theorem tup3 {x y z : D} : tupM [x, y, z] = .ok (.tup [x, y, z]) := tup_ok (sz (by simp))
@[simp] theorem tup4 {x y z w : D} : tupM [x, y, z, w] = .ok (.tup [x, y, z, w]) := tup_ok (sz (by simp))
@[simp] theorem lst0 : lstM [] = .ok (.lst []) := lst_ok (sz (by simp))
@[simp] theorem lst1 {x : D} : lstM [x] = .ok (.lst [x]) := lst_ok (sz (by simp))
@[simp] theorem lst2 {x y : D} : lstM [x, y] = .ok (.lst [x, y]) := lst_ok (sz (by simp))
@[simp] theorem lst3 {x y z : D} : lstM [x, y, z] = .ok (.lst [x, y, z]) := lst_ok (sz (by simp))
@[simp] theorem lst4 {x y z w : D} : lstM [x, y, z, w] = .ok (.lst [x, y, z, w]) := lst_ok (sz (by simp))
/-! walks -/
theorem mapA_ok {τ : Type} {f : D → Mo D} {h g : τ → D} : ∀ {xs : List τ}, (∀ x ∈ xs, f (h x) = .ok (g x)) → mapA f (xs.map h) = .ok (xs.map g)
  | [], _ => rfl
  | x :: xs, e => by
    rw [List.map_cons, mapA, e x (List.mem_cons_self ..), mapA_ok fun y hy => e y (List.mem_cons_of_mem _ hy)]
    rfl
theorem mapL_ok {τ : Type} {f : D → Mo D} {h g : τ → D} {xs : List τ} (hl : xs.length ≤ sizeLine) (e : ∀ x ∈ xs, f (h x) = .ok (g x)) : mapL f (xs.map h) = .ok (xs.map g) := by
  unfold mapL
  rw [if_pos (by simpa using hl), mapA_ok e]
  rfl
theorem foldN_inv {σ τ : Type} {f : σ → D → Mo σ} {h : τ → D} (J : List τ → σ → Prop) (full : List τ) : ∀ (xs acc : List τ) (s : σ), acc ++ xs = full → J acc s → (∀ x acc s rest, acc ++ x :: rest = full → J acc s → ∃ s', f s (h x) = .ok s' ∧ J (acc ++ [x]) s') → ∃ s', foldN f s (xs.map h) = .ok s' ∧ J full s'
  | [], acc, s, hf, j, _ => ⟨s, rfl, by rw [← hf]; simpa using j⟩
  | x :: xs, acc, s, hf, j, st => by
    obtain ⟨s1, e1, j1⟩ := st x acc s xs hf j
    obtain ⟨s2, e2, j2⟩ := foldN_inv J full xs (acc ++ [x]) s1 (by simpa using hf) j1 st
    exact ⟨s2, by rw [List.map_cons, foldN, e1, ok_bind, e2], j2⟩
theorem foldN_fun {σ τ υ : Type} {f : σ → D → Mo σ} {h : τ → D} {F : υ → σ} {g : υ → τ → υ} (J : List τ → υ → Prop) {xs : List τ} {u : υ} (j : J [] u) (st : ∀ x acc u rest, acc ++ x :: rest = xs → J acc u → f (F u) (h x) = .ok (F (g u x)) ∧ J (acc ++ [x]) (g u x)) : foldN f (F u) (xs.map h) = .ok (F (xs.foldl g u)) ∧ J xs (xs.foldl g u) := by
  have key : ∀ (ys acc : List τ) (u : υ), acc ++ ys = xs → J acc u → foldN f (F u) (ys.map h) = .ok (F (ys.foldl g u)) ∧ J xs (ys.foldl g u) := by
    intro ys
    induction ys with
    | nil => intro acc u hf j; exact ⟨rfl, by rw [← hf]; simpa using j⟩
    | cons y ys ih =>
      intro acc u hf j
      obtain ⟨e, j1⟩ := st y acc u ys hf j
      obtain ⟨e2, j2⟩ := ih (acc ++ [y]) (g u y) (by simpa using hf) j1
      exact ⟨by rw [List.map_cons, foldN, e, ok_bind]; exact e2, j2⟩
  exact key xs [] u rfl j
theorem foldB_all {σ τ ρ : Type} {f : σ → D → Mo (Fl σ ρ)} {h : τ → D} {s : σ} : ∀ {xs : List τ}, (∀ x ∈ xs, f s (h x) = .ok (.nx s)) → foldB f s (xs.map h) = .ok (.nx s)
  | [], _ => rfl
  | x :: xs, e => by
    rw [List.map_cons, foldB, e x (List.mem_cons_self ..), ok_bind]
    exact foldB_all fun y hy => e y (List.mem_cons_of_mem _ hy)
theorem enm_map {τ : Type} (h : τ → D) : ∀ (xs : List τ) (k : Nat), enmL k (xs.map h) = (xs.zipIdx k).map fun p => .tup [.int (p.2 : Nat), h p.1]
  | [], k => rfl
  | x :: xs, k => by rw [List.map_cons, enmL, enm_map h xs (k + 1)]; rfl
theorem o_enmT {τ : Type} {h : τ → D} {xs : List τ} : optM (enmF [.tup (xs.map h)]) = .ok ((xs.zipIdx 0).map fun p => .tup [.int (p.2 : Nat), h p.1]) := by
  show optM (some (enmL 0 _)) = _
  rw [enm_map]; rfl
theorem o_rng {m : Nat} (hm : m ≤ 1000000) : optM (rng1F [.int (m : Nat)]) = .ok ((List.range m).map fun (i : Nat) => D.int i) := by
  rw [rng1F_nat hm]
  show Mo.ok (rngL 0 m) = _
  unfold rngL
  simp
theorem o_zip {τ υ : Type} {h : τ → D} {g : υ → D} : ∀ {xs : List τ} {ys : List υ}, zipL (xs.map h) (ys.map g) = (List.zip xs ys).map fun p => .tup [h p.1, g p.2]
  | [], _ => by simp [zipL]
  | _ :: _, [] => by simp [zipL]
  | x :: xs, y :: ys => by rw [List.map_cons, List.map_cons, zipL, o_zip]; rfl
end
/-! ### the package -/
theorem m_int {i : Int} : m_is_integer (.int i) = .ok (.bl true) := by
  unfold m_is_integer
  simp
theorem m_ints {r : List Int} (h : r.length ≤ 100000) : m_are_integers (dR r) (.int r.length) = .ok (.bl true) := by
  unfold m_are_integers dR
  simp only [ok_bind, pV_isiT, isB_bl, if_true, p_lenT, List.length_map, pV_eq, decide_true, itemsM_tup]
  rw [mapL_ok (g := fun _ => .bl true) (sz h) (fun x _ => m_int)]
  simp only [ok_bind]
  exact pV_all
theorem o_zipR {A B : List Int} : optM (zipF [dR A, dR B]) = .ok ((List.zip A B).map fun p => .tup [.int p.1, .int p.2]) := by
  show Mo.ok (zipL (A.map D.int) (B.map D.int)) = _
  rw [o_zip]
theorem len_dT (r : Tb) : prm .len [dT r] = .ok (.int r.length) := by unfold dT; simp
theorem len_dL (r : List Tb) : prm .len [dL r] = .ok (.int r.length) := by unfold dL; simp
theorem catA_ok {τ υ : Type} {f : D → Mo (List D)} {h : τ → D} {g : τ → List υ} {k : υ → D} : ∀ {xs : List τ}, (∀ x ∈ xs, f (h x) = .ok ((g x).map k)) → catA f (xs.map h) = .ok ((xs.flatMap g).map k)
  | [], _ => rfl
  | x :: xs, e => by
    rw [List.map_cons, catA, e x (List.mem_cons_self ..), ok_bind, catA_ok fun y hy => e y (List.mem_cons_of_mem _ hy), List.flatMap_cons, List.map_append]
    rfl
theorem filA_map {τ : Type} {f : D → Mo (Option D)} {h g : τ → D} : ∀ {xs : List τ}, (∀ x ∈ xs, f (h x) = .ok (some (g x))) → filA f (xs.map h) = .ok (xs.map g)
  | [], _ => rfl
  | x :: xs, e => by
    rw [List.map_cons, filA, e x (List.mem_cons_self ..), ok_bind, filA_map fun y hy => e y (List.mem_cons_of_mem _ hy)]
    rfl
theorem catL_ok {f : D → Mo (List D)} {l r : List D} (h : catA f l = .ok r) (hr : r.length ≤ sizeLine) : catL f l = .ok r := by
  unfold catL
  rw [h]
  show fitL r = _
  unfold fitL
  rw [if_pos hr]
theorem flat_le {τ υ : Type} (n : Nat) (g : τ → List υ) : ∀ xs : List τ, (∀ x ∈ xs, (g x).length ≤ n) → (xs.flatMap g).length ≤ xs.length * n
  | [], _ => by simp
  | x :: xs, h => by
    rw [List.flatMap_cons, List.length_append, List.length_cons, Nat.succ_mul]
    have h1 := h x (List.mem_cons_self ..)
    have h2 := flat_le n g xs fun y hy => h y (List.mem_cons_of_mem _ hy)
    omega
theorem m_table {m : Nat} {A : Tb} (h : TbOk m A) : m_is_table (dT A) = .ok (.bl true) := by
  have hlo := h.lo
  have hhi := h.hi
  have hlen := h.len
  unfold m_is_table dT
  simp only [ok_bind, p_isiT, tru_bl, Bool.not_true, Bool.false_eq_true, if_false, p_lenT, List.length_map, hlen, p_le, isB_bl, show decide ((1 : Int) ≤ (m : Int)) = true from decide_eq_true (by omega), if_true, pV_le, show decide ((m : Int) ≤ 4) = true from decide_eq_true (by omega), itemsM_tup]
  rw [mapL_ok (g := fun _ => .bl true) (sz (by omega)) (fun r hr => by rw [← h.row r hr]; exact m_ints (by rw [h.row r hr]; omega))]
  simp only [ok_bind, p_all, tru_bl, Bool.not_true, Bool.false_eq_true, if_false]
  have e := catA_ok (f := fun v14 => (Mo.ok v14) >>= fun v15 => ((Mo.ok v15) >>= fun v16 => (itemsM v16)) >>= fun v17 => (filA (fun v18 => (Mo.ok v18) >>= fun v19 => ((((Mo.ok v19) >>= fun v20 => (prm .abs [v20])) >>= fun v21 => ((Mo.ok (D.int 1000000)) >>= fun v22 => (prm .le [v21, v22]))) >>= fun v23 => (.ok (some v23)))) v17)) (h := dR) (g := fun r => r.map fun _ => ()) (k := fun _ => D.bl true) (xs := A) (fun r hr => by
    unfold dR
    simp only [ok_bind, itemsM_tup]
    rw [filA_map (g := fun _ => D.bl true) (fun x hx => by
      have hb := h.sm r hr x hx
      have hd : (if x < 0 then -x else x) ≤ 1000000 := by split <;> omega
      simp only [ok_bind, p_abs, p_le, decide_eq_true hd])]
    rw [List.map_map]; rfl)
  simp only [ok_bind] at e
  rw [catL_ok e (by
    rw [List.length_map]
    refine sz (Nat.le_trans (flat_le 4 _ A fun r hr => ?_) (by rw [hlen]; omega))
    rw [List.length_map, h.row r hr]; omega)]
  simp only [ok_bind]
  exact p_all
theorem m_wrongT {m : Nat} {ts : List Tb} (h : LotOk m ts) : m_wrong_table (dL ts) = .ok .non := by
  obtain ⟨A0, ts', hts⟩ : ∃ a l, ts = a :: l := by
    cases ts with
    | nil => exact absurd rfl h.ne
    | cons a l => exact ⟨a, l, rfl⟩
  have hl : ts.length ≤ 3 := h.few
  have hne : ¬ ((ts.length : Int) = 0) := by rw [hts]; simp; omega
  have h0 : prm .idx [dL ts, .int 0] = .ok (dT A0) := by rw [hts]; unfold dL; simp
  have e0 : prm (.isi "tuple") [dL ts] = .ok (.bl true) := rfl
  have e1 : optM (enmF [dL ts]) = _ := o_enmT
  unfold m_wrong_table
  simp only [ok_bind, e0, tru_bl, Bool.not_true, Bool.false_eq_true, if_false, len_dL, p_eq, decide_eq_false hne, e1, h0]
  rw [foldB_all (fun p hp => by
    obtain ⟨A, i⟩ := p
    have hi := List.mem_zipIdx hp
    have hA : A ∈ ts := by rw [hi.2.2]; exact List.getElem_mem _
    have h3 : ¬ ((i : Int) = 3) := by omega
    have l1 := (h.tb A hA).len
    have l2 := (h.tb A0 (by rw [hts]; exact List.mem_cons_self ..)).len
    simp only [ok_bind, un2_tup, p_eq, tru_bl, decide_eq_false h3, Bool.false_eq_true, if_false, m_table (h.tb A hA), Bool.not_true, len_dT, p_ne, l1, l2, decide_true])]
  rfl
theorem m_Lot {m : Nat} {ts : List Tb} (h : LotOk m ts) : m_Lot_init (dL ts) = .ok [dL ts] := by
  unfold m_Lot_init
  simp [m_wrongT h]
theorem m_checkL {ts : List Tb} : m_check_lot (dO ts) = .ok .non := by
  unfold m_check_lot dO
  simp
theorem m_letter {ts : List Tb} {w : List Int} (h : WordOk ts w) : m_wrong_letter (dO ts) (dR w) = .ok .non := by
  have e1 : optM (enmF [dR w]) = _ := o_enmT
  have e0 : prm (.isi "tuple") [dR w] = .ok (.bl true) := rfl
  unfold m_wrong_letter
  simp only [ok_bind, e0, tru_bl, Bool.not_true, Bool.false_eq_true, if_false, e1]
  rw [foldB_all (fun p hp => by
    obtain ⟨x, i⟩ := p
    have hi := List.mem_zipIdx hp
    have hx : x ∈ w := by rw [hi.2.2]; exact List.getElem_mem _
    have hw := h.few
    have h40 : ¬ ((i : Int) = 40) := by omega
    have hb := h.ix x hx
    unfold dO
    simp only [ok_bind, un2_tup, p_eq, tru_bl, decide_eq_false h40, Bool.false_eq_true, if_false, m_int, Bool.not_true, p_le, isB_bl, decide_eq_true hb.1, if_true, fldM_0, len_dL, pV_lt, decide_eq_true hb.2])]
  rfl
theorem m_checkW {ts : List Tb} {w : List Int} (h : WordOk ts w) : m_check_word (dO ts) (dR w) = .ok .non := by
  unfold m_check_word
  simp [m_letter h]
theorem m_unitT {m : Nat} (h : m ≤ 100000) : m_unit (.int m) = .ok (dT (unitT m)) := by
  unfold m_unit
  simp only [ok_bind, o_rng (show m ≤ 1000000 by omega)]
  rw [mapL_ok (g := fun (i : Nat) => dR ((List.range m).map fun j => if i = j then 1 else 0)) (sz (by simpa using h)) (fun i _ => by
    try simp only [ok_bind, o_rng (show m ≤ 1000000 by omega)]
    rw [mapL_ok (g := fun (j : Nat) => D.int (if i = j then 1 else 0)) (sz (by simpa using h)) (fun j _ => by
      simp only [ok_bind, p_eq, tru_bl]
      by_cases hij : i = j
      · subst hij; simp
      · have : ¬ ((i : Int) = (j : Int)) := by omega
        simp [hij, this])]
    simp only [ok_bind, p_tupleL]
    unfold dR
    rw [List.map_map]; rfl)]
  simp only [ok_bind, p_tupleL]
  unfold dT unitT
  rw [List.map_map]; rfl
theorem m_timesT {m p r : Nat} {A B : Tb} (hn : B ≠ []) (h4 : B.length ≤ 4) (hm : m ≤ 100000) (hB : ∀ r ∈ B, r.length = m) (hA : A.length ≤ 100000) (hA' : ∀ r ∈ A, r.length ≤ 100000) (hp : p + r < 134000000) (bA : Bd p A) (bB : Bd r B) : m_times (dT A) (dT B) = .ok (dT (mulT m A B)) := by
  have e0 : seqM (dT B) = .ok (B.map dR) := rfl
  have e1 : itemsM (dT A) = .ok (A.map dR) := rfl
  unfold m_times
  simp only [ok_bind, e0, zip_sr hn h4 (show m ≤ 1000000 by omega) hB, optM_some, e1]
  rw [mapL_ok (g := fun row => dR ((colsT m B).map fun c => dot row c)) (sz hA) (fun row hrow => by
    simp only [ok_bind, itemsM_lst]
    rw [mapL_ok (g := fun col => D.int (dot row col)) (sz (by unfold colsT; simpa using hm)) (fun col hcol => by
      simp only [ok_bind, o_zipR]
      rw [mapL_ok (g := fun p => D.int (p.1 * p.2)) (sz (by rw [List.length_zip]; have := hA' row hrow; omega)) (fun q hq => by
        obtain ⟨x, y⟩ := q
        have hx := bA row hrow x (List.of_mem_zip hq).1
        have hy := bd_cols (m := m) bB col hcol y (List.of_mem_zip hq).2
        simp only [ok_bind, un2_tup]
        exact p_mul hp hx hy)]
      simp only [ok_bind]
      have : ((List.zip row col).map fun p => D.int (p.1 * p.2)) = (((List.zip row col).map fun p => p.1 * p.2).map D.int) := by rw [List.map_map]; rfl
      rw [this, p_sum]; rfl)]
    simp only [ok_bind, p_tupleL]
    unfold dR
    rw [List.map_map]; rfl)]
  simp only [ok_bind, p_tupleL]
  unfold dT mulT
  rw [List.map_map]; rfl
theorem m_times_sq {m p r : Nat} {A B : Tb} (hm : 1 ≤ m) (h4 : m ≤ 4) (hA : Sq m A) (hB : Sq m B) (hp : p + r < 134000000) (bA : Bd p A) (bB : Bd r B) : m_times (dT A) (dT B) = .ok (dT (mulT m A B)) :=
  m_timesT (fun z => by have := hB.len; rw [z] at this; simp at this; omega) (by rw [hB.len]; exact h4) (by omega) hB.row (by rw [hA.len]; omega) (fun r hr => by rw [hA.row r hr]; omega) hp bA bB
theorem tb_sq {m : Nat} {A : Tb} (h : TbOk m A) : Sq m A := ⟨h.len, h.row⟩
theorem dL_idx {ts : List Tb} {i : Nat} (h : i < ts.length) : prm .idx [dL ts, .int (i : Nat)] = .ok (dT (ts.getD i [])) := p_idxT (by
  rw [List.getElem?_map, List.getElem?_eq_getElem h, List.getD_eq_getElem?_getD, List.getElem?_eq_getElem h]; rfl)
theorem bd_prod {m : Nat} {ts : List Tb} (h : LotOk m ts) : ∀ w : List Int, (∀ x ∈ w, 0 ≤ x ∧ x < ts.length) → Bd (1 + 23 * w.length) (prodT m ts w) := by
  suffices H : ∀ (n : Nat) (w : List Int), w.length = n → (∀ x ∈ w, 0 ≤ x ∧ x < ts.length) → Bd (1 + 23 * w.length) (prodT m ts w) from fun w => H _ w rfl
  intro n
  induction n with
  | zero =>
    intro w h0 _
    rw [List.length_eq_zero_iff.1 h0]
    exact bd_unit m
  | succ n ih =>
    intro w0 h0 hw
    obtain ⟨w, x, rfl⟩ : ∃ w x, w0 = w ++ [x] := ⟨w0.dropLast, w0.getLast (by intro z; rw [z] at h0; simp at h0), (List.dropLast_concat_getLast _).symm⟩
    have ih := ih w (by simpa using h0)
    have hx := hw x (by simp)
    rw [prodT_snoc]
    have hlt : x.toNat < ts.length := by omega
    have hA : TbOk m (ts.getD x.toNat []) := by
      rw [List.getD_eq_getElem?_getD, List.getElem?_eq_getElem hlt]
      exact h.tb _ (List.getElem_mem hlt)
    have hm4 := hA.hi
    have b := bd_mul (m := m) (p := 1 + 23 * w.length) (s := 20) (A := prodT m ts w) (fun r hr => by rw [(sq_prod w).row r hr]; exact hm4) (ih fun y hy => hw y (by simp [hy])) (bd_tb hA)
    have e : 1 + 23 * w.length + 20 + 3 = 1 + 23 * (w ++ [x]).length := by simp; omega
    rw [e] at b
    exact b
theorem m_prodOf {m : Nat} {ts : List Tb} {w : List Int} (h : LotOk m ts) (hw : ∀ x ∈ w, 0 ≤ x ∧ x < ts.length) (hl : w.length ≤ 1000000) : m_product_of (dL ts) (dR w) = .ok (dT (prodT m ts w)) := by
  obtain ⟨A0, ts', hts⟩ : ∃ a l, ts = a :: l := by
    cases ts with
    | nil => exact absurd rfl h.ne
    | cons a l => exact ⟨a, l, rfl⟩
  have hA0 := h.tb A0 (by rw [hts]; exact List.mem_cons_self ..)
  have hm4 := hA0.hi
  have hlo := hA0.lo
  have h0 : prm .idx [dL ts, .int 0] = .ok (dT A0) := by rw [hts]; unfold dL; simp
  have e1 : itemsM (dR w) = .ok (w.map D.int) := rfl
  unfold m_product_of
  simp only [ok_bind, h0, len_dT, hA0.len, m_unitT (show m ≤ 100000 by omega), e1]
  obtain ⟨e2, _⟩ := foldN_fun (f := fun v4 v5 => prm .idx [dL ts, v5] >>= fun v => m_times v4 v) (h := D.int) (F := dT) (g := fun acc i => mulT m acc (ts.getD i.toNat [])) (xs := w) (u := unitT m) (fun acc u => u = prodT m ts acc) rfl (fun x acc u rest hf hu => by
    subst hu
    have hx := hw x (by rw [← hf]; simp)
    have hlt : x.toNat < ts.length := by omega
    have hxe : ((x.toNat : Nat) : Int) = x := by omega
    have hA : TbOk m (ts.getD x.toNat []) := by
      rw [List.getD_eq_getElem?_getD, List.getElem?_eq_getElem hlt]
      exact h.tb _ (List.getElem_mem hlt)
    have hi := dL_idx hlt
    rw [hxe] at hi
    refine ⟨?_, (prodT_snoc ..).symm⟩
    show (prm .idx [dL ts, .int x] >>= fun v => m_times (dT (prodT m ts acc)) v) = _
    rw [hi, ok_bind]
    have hlen : acc.length ≤ w.length := by rw [← hf]; simp
    exact m_times_sq hlo hm4 (sq_prod acc) (tb_sq hA) (p := 1 + 23 * acc.length) (r := 20) (by omega) (bd_prod h acc fun y hy => hw y (by rw [← hf]; simp [hy])) (bd_tb hA))
  simp only [bind_ok]
  exact e2
theorem m_tables {ts : List Tb} : m_Lot_tables (dO ts) = .ok (dL ts) := by
  unfold m_Lot_tables dO
  simp
theorem isI_O {ts : List Tb} : isI 0 (dO ts) = .ok () := isI_ok
theorem m_prod {m : Nat} {ts : List Tb} {w : List Int} (h : LotOk m ts) (hw : WordOk ts w) : m_product (dO ts) (dR w) = .ok (dT (prodT m ts w)) := by
  have hf := hw.few
  unfold m_product
  simp [m_checkL, m_checkW hw, isI_O, m_tables, m_prodOf h hw.ix (by omega)]
end M

set_option Elab.async false
set_option linter.all false
set_option maxRecDepth 100000
set_option maxHeartbeats 4000000
/-! S3: traces; draws. -/
namespace M
open PySem
theorem diag_zip : ∀ (A : Tb) (k : Nat), ((A.zipIdx k).map fun p => p.1.getD p.2 0) = diag k A
  | [], k => rfl
  | r :: A, k => by
    rw [List.zipIdx_cons, List.map_cons, diag_zip A (k + 1)]
    rfl
theorem dR_idx {r : List Int} {i : Nat} (h : i < r.length) : prm .idx [dR r, .int (i : Nat)] = .ok (.int (r.getD i 0)) := p_idxT (by
  rw [List.getElem?_map, List.getElem?_eq_getElem h, List.getD_eq_getElem?_getD, List.getElem?_eq_getElem h]; rfl)
theorem m_traceOf {m : Nat} {A : Tb} (hm : m ≤ 100000) (h : Sq m A) : m_trace_of (dT A) = .ok (.int (traceT A)) := by
  have e1 : optM (enmF [dT A]) = _ := o_enmT
  unfold m_trace_of
  simp only [ok_bind, e1]
  rw [mapL_ok (g := fun p => D.int (p.1.getD p.2 0)) (sz (by rw [List.length_zipIdx, h.len]; exact hm)) (fun p hp => by
    obtain ⟨r, i⟩ := p
    have hi := List.mem_zipIdx hp
    have hr : r ∈ A := by rw [hi.2.2]; exact List.getElem_mem _
    have hl := h.row r hr
    have := h.len
    simp only [ok_bind, un2_tup]
    exact dR_idx (by omega))]
  simp only [ok_bind]
  have : ((A.zipIdx 0).map fun p => D.int (p.1.getD p.2 0)) = ((A.zipIdx 0).map fun p => p.1.getD p.2 0).map D.int := by rw [List.map_map]; rfl
  rw [this, p_sum, diag_zip]; rfl
theorem m_tr {m : Nat} {ts : List Tb} {w : List Int} (h : LotOk m ts) (hm : m ≤ 100000) (hw : WordOk ts w) : m_trace (dO ts) (dR w) = .ok (.int (traceT (prodT m ts w))) := by
  have hf := hw.few
  unfold m_trace
  simp [m_checkL, m_checkW hw, isI_O, m_tables, m_prodOf h hw.ix (by omega), m_traceOf hm (sq_prod w)]
/-! ### draws -/
/-- a pail after at most k mixings -/
def Pl (k : Nat) (p : D) : Prop := ∃ A s c : Int, p = pail A s c ∧ 0 ≤ A ∧ (0 ≤ s ∧ s < 4294967296) ∧ 0 ≤ c ∧ c ≤ k
theorem Pl.mono {k k' : Nat} {p : D} (h : Pl k p) (l : k ≤ k') : Pl k' p := by
  obtain ⟨A, s, c, e, h1, h2, h3, h4⟩ := h
  exact ⟨A, s, c, e, h1, h2, h3, by omega⟩
theorem n32 {x : Int} (h : 0 ≤ x) (h' : x < 4294967296) : x.natAbs < 2 ^ 32 := lt_pow32 h h'
theorem m_cast {k : Nat} {p : D} {m : Int} (h : Pl k p) (hk : k ≤ 1000000) (hm : 0 < m ∧ m < 1073741824) : ∃ v p', m__law_cast p (.int m) = .ok (.int v, p') ∧ (0 ≤ v ∧ v < m) ∧ Pl (k + 1) p' := by
  obtain ⟨A, s, c, rfl, hA, hs, hc, hck⟩ := h
  by_cases hpos : 0 < A
  · refine ⟨A % m, pail (A / m) s c, ?_, ⟨Int.emod_nonneg _ (by omega), Int.emod_lt_of_pos _ hm.1⟩, A / m, s, c, rfl, Int.ediv_nonneg hA (by omega), hs, hc, by omega⟩
    unfold m__law_cast pail
    simp only [ok_bind, p_idx0L, p_gt, tru_bl, decide_eq_true hpos, if_true, p_divmod hm.1 hm.2, un2_tup, noExc_ok, put3_0]
  · have c32 : ∀ z : Int, 0 ≤ z → z ≤ 1000001 → z.natAbs < 2 ^ 32 := fun z h1 h2 => n32 h1 (by omega)
    have hc1 := c32 (c + 1) (by omega) (by omega)
    have s1 := Int.emod_nonneg (s * (36809 + 2 * (c + 1)) + 5303 * (c + 1) + 7) (show (2147483629 : Int) ≠ 0 by omega)
    have s2 := Int.emod_lt_of_pos (s * (36809 + 2 * (c + 1)) + 5303 * (c + 1) + 7) (show (0 : Int) < 2147483629 by omega)
    have t1 := Int.emod_nonneg (((s * (36809 + 2 * (c + 1)) + 5303 * (c + 1) + 7) % 2147483629) * 45413 + 3 * (c + 1) + 1) (show (2147483587 : Int) ≠ 0 by omega)
    have t2 := Int.emod_lt_of_pos (((s * (36809 + 2 * (c + 1)) + 5303 * (c + 1) + 7) % 2147483629) * 45413 + 3 * (c + 1) + 1) (show (0 : Int) < 2147483587 by omega)
    refine ⟨(((((s * (36809 + 2 * (c + 1)) + 5303 * (c + 1) + 7) % 2147483629) * 45413 + 3 * (c + 1) + 1) % 2147483587) / 256) % m, pail A ((((s * (36809 + 2 * (c + 1)) + 5303 * (c + 1) + 7) % 2147483629) * 45413 + 3 * (c + 1) + 1) % 2147483587) (c + 1), ?_, ⟨Int.emod_nonneg _ (by omega), Int.emod_lt_of_pos _ hm.1⟩, _, _, _, rfl, hA, ⟨t1, by omega⟩, by omega, by omega⟩
    unfold m__law_cast pail
    simp only [ok_bind, p_idx0L, p_gt, tru_bl, decide_eq_false hpos, if_false, p_idx2L, p_add, noExc_ok, put3_2, p_idx1L, p_mul (a := 2) (p := 32) (r := 32) (by decide) (n32 (by decide) (by decide)) hc1, p_mul (a := s) (p := 32) (r := 32) (by decide) (n32 hs.1 hs.2) (n32 (x := 36809 + 2 * (c + 1)) (by omega) (by omega)), p_mul (a := 5303) (p := 32) (r := 32) (by decide) (n32 (by decide) (by decide)) hc1, p_int, p_mod (show (0 : Int) < 2147483629 by decide), Bool.false_eq_true]
    generalize (s * (36809 + 2 * (c + 1)) + 5303 * (c + 1) + 7) % 2147483629 = st at s1 s2 t1 t2 ⊢
    simp only [ok_bind, p_mul (a := st) (p := 32) (r := 32) (by decide) (n32 s1 (by omega)) (n32 (x := 45413) (by decide) (by decide)), p_mul (a := 3) (p := 32) (r := 32) (by decide) (n32 (by decide) (by decide)) hc1, p_add, p_int, p_mod (show (0 : Int) < 2147483587 by decide), noExc_ok, put3_1, p_idx1L, p_fdiv (show (0 : Int) < 256 by decide) (show (256 : Int).natAbs < 2 ^ 64 by decide), p_mod hm.1]
theorem slo_cut {l : List D} : prm (.slo false true) [.lst l, .int 6] = .ok (.lst (cutL l none (some 6))) := rfl
theorem map_cut (ns : List Int) : ∃ ms : List Int, cutL (ns.map D.int) none (some 6) = ms.map D.int ∧ ∀ z ∈ ms, z ∈ ns := by
  unfold cutL
  rw [← List.map_drop, ← List.map_take]
  exact ⟨_, rfl, fun z hz => List.mem_of_mem_drop (List.mem_of_mem_take hz)⟩
theorem p_pow18 : prm .pow [.int 10, .int 18] = .ok (.int 1000000000000000000) := prm_of pow18
theorem m_begun {ns : List Int} {k : Nat} (hn : ns.length ≤ 63) (hb : ∀ z ∈ ns, Builtin.Int.intBits z ≤ 1048576) (hk : k < 1000) : ∃ p, m__law_begun ((.lst (ns.map D.int))) (.int k) = .ok p ∧ Pl 0 p := by
  obtain ⟨P0, hP0, hbit⟩ : ∃ P0 : Nat, P0 ≤ 1048576 ∧ ∀ z ∈ ns, z.natAbs < 2 ^ P0 := ⟨_, Nat.le_refl _, fun z hz => PySem.intBits_le_iff.1 (hb z hz)⟩
  have k32 := n32 (x := (k : Int)) (by omega) (by omega)
  obtain ⟨own, hown, e1⟩ : ∃ own : Int, own.natAbs < 2 ^ P0 ∧ (if decide ((k : Int) < (ns.length : Int)) then prm .idx [.lst (ns.map D.int), .int k] else .ok (.int 0)) = .ok (.int own) := by
    by_cases hl : (k : Int) < (ns.length : Int)
    · have hl' : k < ns.length := by omega
      refine ⟨ns[k], hbit _ (List.getElem_mem hl'), ?_⟩
      rw [decide_eq_true hl, if_pos rfl]
      exact p_idxL (by rw [List.getElem?_map, List.getElem?_eq_getElem hl']; rfl)
    · rw [decide_eq_false hl]
      exact ⟨0, Nat.two_pow_pos _, rfl⟩
  obtain ⟨ms, e2, hms⟩ := map_cut ns
  have u1 : (0 : Int) ≤ 60013 + 7727 * (k : Int) ∧ (60013 + 7727 * (k : Int)) < 4294967296 := by omega
  obtain ⟨s', e3, st, hst, hs'⟩ := foldN_inv (f := fun v17 v18 => ((((((prm .mul [v17, D.int 30269]) >>= fun v22 => (prm .mul [v18, D.int 7] >>= fun v25 => prm .add [v22, v25])) >>= fun v26 => prm .add [v26, D.int 13]) >>= fun v28 => prm .int [v28]) >>= fun v29 => prm .mod [v29, D.int 2147483629]))) (h := D.int)
    (fun _ s => ∃ st : Int, (0 ≤ st ∧ st < 4294967296) ∧ s = .int st) ms ms [] (.int (60013 + 7727 * (k : Int))) rfl ⟨_, u1, rfl⟩ (by
      rintro x acc s rest hf ⟨st, hst, rfl⟩
      have hx := hbit x (hms x (by rw [← hf]; simp))
      refine ⟨.int ((st * 30269 + x * 7 + 13) % 2147483629), ?_, _, ⟨Int.emod_nonneg _ (by omega), Int.lt_trans (Int.emod_lt_of_pos _ (by omega)) (by omega)⟩, rfl⟩
      simp only [ok_bind, p_mul (p := 32) (r := 32) (by decide) (n32 hst.1 hst.2) (n32 (x := 30269) (by decide) (by decide)), p_mul (p := P0) (r := 32) (by omega) hx (n32 (x := 7) (by decide) (by decide)), p_add, p_int, p_mod (show (0 : Int) < 2147483629 by decide)])
  subst hs'
  obtain ⟨A, hA, e4⟩ : ∃ A : Int, 0 ≤ A ∧ ((if decide (own < 0) then Mo.ok true else .ok (decide (1000000000000000000 ≤ own))) >>= fun v => if v then Mo.ok (D.int (if own < 0 then -own else own)) else .ok (.int 0)) = .ok (.int A) := by
    by_cases c1 : own < 0
    · exact ⟨-own, by omega, by simp [c1]⟩
    · by_cases c2 : 1000000000000000000 ≤ own
      · exact ⟨own, by omega, by simp [c1, c2]⟩
      · exact ⟨0, Int.le_refl _, by simp [c1, c2]⟩
  refine ⟨pail A ((st * 53 + own * own + 17 * (k : Int)) % 2147483629) 0, ?_, A, _, 0, rfl, hA, ⟨Int.emod_nonneg _ (by omega), Int.lt_trans (Int.emod_lt_of_pos _ (by omega)) (by omega)⟩, by omega, by omega⟩
  unfold m__law_begun pail
  simp only [ok_bind, p_lenL, List.length_map, p_lt, tru_bl, e1, p_mul (a := 7727) (p := 32) (r := 32) (by decide) (n32 (by decide) (by decide)) k32, p_add, slo_cut, itemsM_lst, e2]
  simp only [bind_ok] at e3 ⊢
  simp only [e3, ok_bind, p_lt, tru_bl, p_pow18, p_ge, p_abs, e4, p_mul (a := st) (p := 32) (r := 32) (by decide) (n32 hst.1 hst.2) (n32 (x := 53) (by decide) (by decide)), p_mul (a := own) (p := P0) (r := P0) (by omega) hown hown, p_mul (a := 17) (p := 32) (r := 32) (by decide) (n32 (by decide) (by decide)) k32, p_add, p_int, p_mod (show (0 : Int) < 2147483629 by decide), lst3]
end M

set_option Elab.async false
set_option linter.all false
set_option maxRecDepth 100000
set_option maxHeartbeats 4000000
/-! Pk2: plain functions (printed by gen2.py). -/
namespace M
open PySem
def m__law_any_of (x_0 x_1 : D) : Mo (D × D) :=
  (((.ok x_1) >>= fun v0 => ((((.ok x_1) >>= fun v1 => (prm .len [v1])) >>= fun v2 => (m__law_cast x_0 v2)) >>= fun v3 => (.ok []) >>= fun v4 => .ok ((v3.1 :: v4), v3.2)) >>= fun v5 => .ok ((v0 :: v5.1), v5.2)) >>= fun v6 => prm .idx v6.1 >>= fun v7 => .ok (v7, v6.2))
def m__law_number (x_0 : D) : Mo (D × D) :=
  (((.ok (D.int 8)) >>= fun v0 => (m__law_cast x_0 v0)) >>= fun v1 => ((((.ok v1.1) >>= fun v2 => ((.ok (D.int 5)) >>= fun v3 => (prm .lt [v2, v3]))) >>= fun v4 => (tru v4)) >>= fun v5 => if v5 then ((((.ok (D.int 7)) >>= fun v6 => (m__law_cast v1.2 v6)) >>= fun v7 => ((.ok (D.int 3)) >>= fun v8 => (.ok []) >>= fun v9 => .ok (v8 :: v9)) >>= fun v10 => .ok ((v7.1 :: v10), v7.2)) >>= fun v11 => prm .sub v11.1 >>= fun v12 => .ok (v12, v11.2)) else ((((.ok v1.1) >>= fun v13 => ((.ok (D.int 5)) >>= fun v14 => (prm .eq [v13, v14]))) >>= fun v15 => (tru v15)) >>= fun v16 => if v16 then (((((.ok (D.int 10)) >>= fun v17 => ((.ok (D.int 6)) >>= fun v18 => (prm .pow [v17, v18]))) >>= fun v19 => ((((.ok (D.int 10)) >>= fun v20 => ((.ok (D.int 6)) >>= fun v21 => (prm .pow [v20, v21]))) >>= fun v22 => (prm .neg [v22])) >>= fun v23 => ((.ok (D.int 999999)) >>= fun v24 => ((.ok (D.int 10)) >>= fun v25 => (.ok []) >>= fun v26 => .ok (v25 :: v26)) >>= fun v27 => .ok (v24 :: v27)) >>= fun v28 => .ok (v23 :: v28)) >>= fun v29 => .ok (v19 :: v29)) >>= lstM) >>= fun v30 => (m__law_any_of v1.2 v30)) else ((((.ok v1.1) >>= fun v31 => ((.ok (D.int 6)) >>= fun v32 => (prm .eq [v31, v32]))) >>= fun v33 => (tru v33)) >>= fun v34 => if v34 then ((((.ok (D.int 41)) >>= fun v35 => (m__law_cast v1.2 v35)) >>= fun v36 => ((.ok (D.int 20)) >>= fun v37 => (.ok []) >>= fun v38 => .ok (v37 :: v38)) >>= fun v39 => .ok ((v36.1 :: v39), v36.2)) >>= fun v40 => prm .sub v40.1 >>= fun v41 => .ok (v41, v40.2)) else ((((((.ok (D.int 2)) >>= fun v42 => (((.ok (D.int 10)) >>= fun v43 => ((.ok (D.int 6)) >>= fun v44 => (prm .pow [v43, v44]))) >>= fun v45 => (prm .mul [v42, v45]))) >>= fun v46 => ((.ok (D.int 1)) >>= fun v47 => (prm .add [v46, v47]))) >>= fun v48 => (m__law_cast v1.2 v48)) >>= fun v49 => (((.ok (D.int 10)) >>= fun v50 => ((.ok (D.int 6)) >>= fun v51 => (prm .pow [v50, v51]))) >>= fun v52 => (.ok []) >>= fun v53 => .ok (v52 :: v53)) >>= fun v54 => .ok ((v49.1 :: v54), v49.2)) >>= fun v55 => prm .sub v55.1 >>= fun v56 => .ok (v56, v55.2))))))
def m_written_integer (x_0 : D) : Mo D :=
  ((((((.ok x_0) >>= fun v0 => ((.ok (D.int 1)) >>= fun v1 => (prm (.slo false true) [v0, v1]))) >>= fun v2 => ((.ok (D.str "-")) >>= fun v3 => (prm .eq [v2, v3]))) >>= fun v4 => (tru v4)) >>= fun v5 => (if v5 then ((.ok x_0) >>= fun v6 => ((.ok (D.int 1)) >>= fun v7 => (prm (.slo true false) [v6, v7]))) else (.ok x_0))) >>= fun v8 => (((((.ok v8) >>= fun v9 => ((.ok (D.str "")) >>= fun v10 => (prm .eq [v9, v10]))) >>= fun v11 => (tru v11)) >>= fun v12 => if v12 then .ok true else (((((.ok v8) >>= fun v13 => (prm .len [v13])) >>= fun v14 => ((.ok (D.int 4000)) >>= fun v15 => (prm .gt [v14, v15]))) >>= fun v16 => (tru v16)) >>= fun v17 => if v17 then .ok true else ((((((.ok v8) >>= fun v18 => (itemsM v18)) >>= fun v19 => (mapL (fun v20 => (.ok v20) >>= fun v21 => ((.ok v21) >>= fun v22 => ((.ok (D.str "0123456789")) >>= fun v23 => (prm .isIn [v22, v23])))) v19 >>= fun l => .ok (D.lst l))) >>= fun v24 => (prm .all [v24])) >>= fun v25 => (tru v25)) >>= fun v26 => .ok (!v26)))) >>= fun v27 => if v27 then (.ok D.non) else ((((((.ok x_0) >>= fun v28 => (prm .int [v28])) >>= fun v29 => (prm .strI [v29])) >>= fun v30 => ((.ok x_0) >>= fun v31 => (prm .eq [v30, v31]))) >>= fun v32 => (tru v32)) >>= fun v33 => (if v33 then ((.ok x_0) >>= fun v34 => (prm .int [v34])) else (.ok D.non)))))
def m_text_row (x_0 : D) : Mo D :=
  (((((.ok x_0) >>= fun v0 => (isS v0 >>= fun _ => ((.ok (D.str " ")) >>= fun v1 => (prm .split [v0, v1])))) >>= fun v2 => (itemsM v2)) >>= fun v3 => (mapL (fun v4 => (.ok v4) >>= fun v5 => ((.ok v5) >>= fun v6 => (m_written_integer v6))) v3 >>= fun l => .ok (D.lst l))) >>= fun v7 => (prm .tuple [v7]))
def m_text_lot (x_0 : D) : Mo D :=
  (((((.ok x_0) >>= fun v0 => (prm (.isi "str") [v0])) >>= fun v1 => (tru v1)) >>= fun v2 => .ok (!v2)) >>= fun v3 => if v3 then (.ok D.non) else (((.ok x_0) >>= fun v4 => (isS v4 >>= fun _ => ((.ok (D.str "\n")) >>= fun v5 => (prm .split [v4, v5])))) >>= fun v6 => (((((((.ok v6) >>= fun v7 => ((.ok (D.int 0)) >>= fun v8 => (prm .idx [v7, v8]))) >>= fun v9 => ((.ok (D.int 4)) >>= fun v10 => (prm (.slo false true) [v9, v10]))) >>= fun v11 => ((.ok (D.str "lot ")) >>= fun v12 => (prm .eq [v11, v12]))) >>= fun v13 => (tru v13)) >>= fun v14 => (if v14 then ((((.ok v6) >>= fun v15 => ((.ok (D.int 0)) >>= fun v16 => (prm .idx [v15, v16]))) >>= fun v17 => ((.ok (D.int 4)) >>= fun v18 => (prm (.slo true false) [v17, v18]))) >>= fun v19 => (m_written_integer v19)) else (.ok D.non))) >>= fun v20 => (((((.ok v20) >>= fun v21 => (prm .isN [v21])) >>= fun v22 => (tru v22)) >>= fun v23 => if v23 then .ok true else (((((.ok (D.int 1)) >>= fun v24 => ((.ok v20) >>= fun v25 => ((prm .le [v24, v25]) >>= fun v26 => ((isB v26) >>= fun v27 => (if v27 then ((.ok (D.int 4)) >>= fun v28 => (prmV .le [v25, v28])) else .ok (D.bl false)))))) >>= fun v29 => (tru v29)) >>= fun v30 => .ok (!v30)) >>= fun v31 => if v31 then .ok true else (((((.ok v6) >>= fun v32 => (prm .len [v32])) >>= fun v33 => (((.ok v20) >>= fun v34 => ((.ok (D.int 1)) >>= fun v35 => (prm .add [v34, v35]))) >>= fun v36 => (prm .mod [v33, v36]))) >>= fun v37 => ((.ok (D.int 1)) >>= fun v38 => (prm .ne [v37, v38]))) >>= fun v39 => (tru v39)))) >>= fun v40 => if v40 then (.ok D.non) else (((.ok []) >>= lstM) >>= fun v41 => (((.ok (D.int 1)) >>= fun v42 => (((.ok v6) >>= fun v43 => (prm .len [v43])) >>= fun v44 => (((.ok v20) >>= fun v45 => ((.ok (D.int 1)) >>= fun v46 => (prm .add [v45, v46]))) >>= fun v47 => (optM (rng3F [v42, v44, v47]))))) >>= fun v48 => foldB (ρ := D) (fun v49 v50 => (.ok v50) >>= fun v51 => (((((.ok v6) >>= fun v52 => ((.ok v51) >>= fun v53 => (prm .idx [v52, v53]))) >>= fun v54 => ((.ok (D.str "table")) >>= fun v55 => (prm .ne [v54, v55]))) >>= fun v56 => (tru v56)) >>= fun v57 => if v57 then ((.ok D.non) >>= fun v58 => .ok (.ret v58)) else ((((((.ok v6) >>= fun v59 => (((.ok v51) >>= fun v60 => ((.ok (D.int 1)) >>= fun v61 => (prm .add [v60, v61]))) >>= fun v62 => ((((.ok v51) >>= fun v63 => ((.ok (D.int 1)) >>= fun v64 => (prm .add [v63, v64]))) >>= fun v65 => ((.ok v20) >>= fun v66 => (prm .add [v65, v66]))) >>= fun v67 => (prm (.slo true true) [v59, v62, v67])))) >>= fun v68 => (itemsM v68)) >>= fun v69 => (mapL (fun v70 => (.ok v70) >>= fun v71 => ((.ok v71) >>= fun v72 => (m_text_row v72))) v69 >>= fun l => .ok (D.lst l))) >>= fun v73 => (prm .tuple [v73])) >>= fun v74 => appM v49 v74 >>= fun v75 => (.ok (.nx v75))))) v41 v48 >>= fun v76 => Fl.on v76 (fun v77 => (((((((.ok v77) >>= fun v78 => (prm .tuple [v78])) >>= fun v79 => (m_wrong_table v79)) >>= fun v80 => (prm .notN [v80])) >>= fun v81 => (tru v81)) >>= fun v82 => if v82 then .ok true else (((((.ok v77) >>= fun v83 => ((.ok (D.int 0)) >>= fun v84 => (prm .idx [v83, v84]))) >>= fun v85 => (prm .len [v85])) >>= fun v86 => ((.ok v20) >>= fun v87 => (prm .ne [v86, v87]))) >>= fun v88 => (tru v88))) >>= fun v89 => if v89 then (.ok D.non) else (((.ok v77) >>= fun v90 => (prm .tuple [v90])) >>= fun v91 => (m_Lot_init v91 >>= fun fs => .ok (D.ins 0 fs))))) (fun v76 => .ok ( v76))))))))
def m_Lot_read (x_0 x_1 : D) : Mo D :=
  (((.ok x_1) >>= fun v0 => (m_text_lot v0)) >>= fun v1 => ((((.ok v1) >>= fun v2 => (prm .isN [v2])) >>= fun v3 => (tru v3)) >>= fun v4 => if v4 then .bad else (.ok v1)))
def m__law_lines (x_0 : D) : Mo D :=
  (((((.ok (D.str "lot ")) >>= fun v0 => (((((.ok x_0) >>= fun v1 => ((.ok (D.int 0)) >>= fun v2 => (prm .idx [v1, v2]))) >>= fun v3 => (prm .len [v3])) >>= fun v4 => (prm .strI [v4])) >>= fun v5 => (prm .add [v0, v5]))) >>= fun v6 => (.ok []) >>= fun v7 => .ok (v6 :: v7)) >>= lstM) >>= fun v8 => (((.ok x_0) >>= fun v9 => (itemsM v9)) >>= fun v10 => foldN (fun v11 v12 => (.ok v12) >>= fun v13 => ((((.ok v11) >>= fun v14 => ((((.ok (D.str "table")) >>= fun v15 => (.ok []) >>= fun v16 => .ok (v15 :: v16)) >>= lstM) >>= fun v17 => (prm .add [v14, v17]))) >>= fun v18 => ((((.ok v13) >>= fun v19 => (itemsM v19)) >>= fun v20 => (mapL (fun v21 => (.ok v21) >>= fun v22 => ((.ok (D.str " ")) >>= fun v23 => (isS v23 >>= fun _ => ((((.ok v22) >>= fun v24 => (itemsM v24)) >>= fun v25 => (mapL (fun v26 => (.ok v26) >>= fun v27 => ((.ok v27) >>= fun v28 => (prm .strI [v28]))) v25 >>= fun l => .ok (D.lst l))) >>= fun v29 => (prm .join [v23, v29]))))) v20 >>= fun l => .ok (D.lst l))) >>= fun v30 => (prm .add [v18, v30]))) >>= fun v31 => (.ok v31))) v8 v10 >>= fun v32 => (.ok v32)))
def m__law_sheet (x_0 : D) : Mo D :=
  ((.ok (D.str "\n")) >>= fun v0 => (isS v0 >>= fun _ => (((.ok x_0) >>= fun v1 => (m__law_lines v1)) >>= fun v2 => (prm .join [v0, v2]))))
def m__law_built (x_0 x_1 : D) : Mo (D × D) :=
  (((.ok (D.int 3)) >>= fun v0 => (m__law_cast x_0 v0)) >>= fun v1 => ((((.ok v1.1) >>= fun v2 => ((.ok (D.int 0)) >>= fun v3 => (prm .eq [v2, v3]))) >>= fun v4 => (tru v4)) >>= fun v5 => if v5 then (((.ok x_1) >>= fun v6 => (m_Lot_init v6 >>= fun fs => .ok (D.ins 0 fs))) >>= fun v7 => (.ok (v7, v1.2))) else (((((.ok v1.1) >>= fun v8 => ((.ok (D.int 1)) >>= fun v9 => (prm .eq [v8, v9]))) >>= fun v10 => (tru v10)) >>= fun v11 => (if v11 then ((.ok x_1) >>= fun v12 => (m_Lot_init v12 >>= fun fs => .ok (D.ins 0 fs))) else ((.ok (D.cls 0)) >>= fun v13 => (((.ok x_1) >>= fun v14 => (m__law_sheet v14)) >>= fun v15 => (m_Lot_read v13 v15))))) >>= fun v16 => (.ok (v16, v1.2)))))
def m__law_one (x_0 : D) : Mo D :=
  ((((.ok x_0) >>= fun v0 => (optM (rng1F [v0]))) >>= fun v1 => (mapL (fun v2 => (.ok v2) >>= fun v3 => ((((.ok x_0) >>= fun v4 => (optM (rng1F [v4]))) >>= fun v5 => (mapL (fun v6 => (.ok v6) >>= fun v7 => (((.ok v3) >>= fun v8 => ((.ok v7) >>= fun v9 => (prm .eq [v8, v9]))) >>= fun v10 => (prm .int [v10]))) v5 >>= fun l => .ok (D.lst l))) >>= fun v11 => (prm .tuple [v11]))) v1 >>= fun l => .ok (D.lst l))) >>= fun v12 => (prm .tuple [v12]))
end M

set_option Elab.async false
set_option linter.all false
set_option maxRecDepth 100000
set_option maxHeartbeats 4000000
/-! S4: texts in plain Lean: numbers written, joined, split, read. -/
namespace M
open PySem
abbrev tx (a : List Nat) : D := .str (SX.S a)
def numI (i : Int) : List Nat := if i < 0 then 45 :: TL.numL i.natAbs else TL.numL i.natAbs
theorem str_num (i : Int) : Str.ofString (toString i) = SX.S (numI i) := by
  unfold numI
  by_cases h : i < 0
  · rw [if_pos h]
    obtain ⟨m, rfl⟩ := Int.eq_negSucc_of_lt_zero h
    refine TL.ext_tl ?_
    show (Str.ofString (toString (Int.negSucc m))).cps.toList = 45 :: TL.numL (m + 1)
    rw [← TL.tl_num (m + 1)]
    show _ = 45 :: (Str.ofString (toString ((m + 1 : Nat) : Int))).cps.toList
    rw [PyProof.Rows.signs_ofString, PyProof.Rows.signs_ofString]
    have e : (toString (Int.negSucc m)) = "-" ++ toString ((m + 1 : Nat) : Int) := rfl
    rw [e, String.toList_append, List.map_append]
    rfl
  · rw [if_neg h]
    obtain ⟨m, rfl⟩ := Int.eq_ofNat_of_zero_le (by omega : 0 ≤ i)
    exact SX.num_S m
theorem numI_mem {i : Int} {c : Nat} (h : c ∈ numI i) : c = 45 ∨ (48 ≤ c ∧ c ≤ 57) := by
  unfold numI at h
  split at h
  · rcases List.mem_cons.1 h with h | h
    · exact .inl h
    · exact .inr (TL.numL_digits _ c h)
  · exact .inr (TL.numL_digits _ c h)
theorem numI_len {i : Int} {k : Nat} (hk : 0 < k) (h : i.natAbs < 10 ^ k) : (numI i).length ≤ k + 1 := by
  have z := TL.numL_len hk h
  unfold numI
  split
  · rw [List.length_cons]; omega
  · omega
theorem numI_int {i : Int} (h : (numI i).length ≤ 4300) : intText? (SX.S (numI i)) = some i := by
  unfold numI at h ⊢
  by_cases hi : i < 0
  · rw [if_pos hi] at h ⊢
    rw [intText_neg (x := SX.S (45 :: TL.numL i.natAbs)) rfl (TL.numL_digits _) (TL.numL_ne _) (by rw [SX.S_len]; exact h), TL.numL_val]
    congr 1; omega
  · rw [if_neg hi] at h ⊢
    have e := TL.int_num (n := i.natAbs) h
    rw [SX.num_S] at e
    rw [e]
    congr 1; omega
section
variable {a b : List Nat} {i : Int}
theorem n20' {i : Int} (h : i.natAbs < 2 ^ 1920) : i.natAbs.log2 < 1920 := by
  by_cases ha : i.natAbs = 0
  · rw [ha]; decide
  · exact (Nat.log2_lt ha).2 h
theorem p_strI (h : i.natAbs < 2 ^ 1920) : prm .strI [.int i] = .ok (tx (numI i)) := prm_of (fl := false) (by
  show (if i.natAbs.log2 < 1920 then some (false, D.str (Str.ofString (toString i))) else none) = _
  rw [if_pos (n20' h), str_num])
theorem p_addS (h : a.length + b.length ≤ 100000) : prm .add [tx a, tx b] = .ok (tx (a ++ b)) := prm_of (fl := false) (by
  show (if (SX.S a).length + (SX.S b).length ≤ sizeLine then some (false, D.str (SX.S a ++ SX.S b)) else none) = _
  rw [SX.S_len, SX.S_len, if_pos (sl4 h), SX.S_cat])
def Cps (a : List Nat) : Prop := ∀ c ∈ a, c < 1114112
theorem cps_num (i : Int) : Cps (numI i) := fun c hc => by have := numI_mem hc; omega
theorem cps_nat (i : Nat) : Cps (TL.numL i) := fun c hc => by have := TL.numL_digits _ c hc; omega
theorem Cps.take (h : Cps a) (k : Nat) : Cps (a.take k) := fun c hc => h c (List.mem_of_mem_take hc)
theorem Cps.drop (h : Cps a) (k : Nat) : Cps (a.drop k) := fun c hc => h c (List.mem_of_mem_drop hc)
theorem Cps.app (h : Cps a) (h' : Cps b) : Cps (a ++ b) := fun c hc => (List.mem_append.1 hc).elim (h c) (h' c)
theorem ok_S (h : Cps a) : PyData.strOk (SX.S a) = true := by
  unfold PyData.strOk
  rw [← Array.all_toList, List.all_eq_true]
  intro c hc
  exact decide_eq_true (h c hc)
theorem ev_eqS (ha : Cps a) (hb : Cps b) : dEq (tx a) (tx b) = some (decide (a = b)) := by
  rw [← SX.S_beq_eq]
  have x1 : SeqAt.shaped (.str (SX.S a)) = true := by
    show ((PyData.strOk (SX.S a)) && decide ((PyData.str (SX.S a)).depth ≤ 64)) = true
    rw [ok_S ha]; rfl
  have x2 : SeqAt.shaped (.str (SX.S b)) = true := by
    show ((PyData.strOk (SX.S b)) && decide ((PyData.str (SX.S b)).depth ≤ 64)) = true
    rw [ok_S hb]; rfl
  show (if SeqAt.shaped (.str (SX.S a)) && SeqAt.shaped (.str (SX.S b)) then some (PyData.eqv (.str (SX.S a)) (.str (SX.S b))) else none) = _
  rw [x1, x2]; rfl
theorem p_eqS (ha : Cps a) (hb : Cps b) : prm .eq [tx a, tx b] = .ok (.bl (decide (a = b))) := prm_of (by rw [ev_eq, ev_eqS ha hb]; rfl)
theorem p_neS (ha : Cps a) (hb : Cps b) : prm .ne [tx a, tx b] = .ok (.bl (!decide (a = b))) := prm_of (by rw [ev_ne, ev_eqS ha hb]; rfl)
theorem strs_map (l : List (List Nat)) : strsOf (l.map tx) = some (l.map SX.S) := by
  induction l with
  | nil => rfl
  | cons x l ih => rw [List.map_cons, strsOf, ih]; rfl
theorem p_joinS {l : List (List Nat)} (h : (l.map (·.length)).sum + l.length * a.length ≤ 100000) : prm .join [tx a, .lst (l.map tx)] = .ok (tx (TL.joinL a l)) := prm_of (fl := false) (by
  show joinD (SX.S a) (l.map tx) = _
  unfold joinD
  rw [strs_map]
  show (if ((l.map SX.S).map (·.length)).sum + (l.map SX.S).length * (SX.S a).length ≤ 16777216 then some (false, D.str (Txt.join (SX.S a) (l.map SX.S))) else none) = _
  rw [SX.lens, List.length_map, SX.S_len, if_pos (by omega), SX.join_S])
theorem p_splitS {c : Nat} (hc : c < 256) (hl : a.length ≤ 100000) : prm .split [tx a, tx [c]] = .ok (.lst ((TL.spl [c] 0 [] a).map tx)) := prm_of (fl := true) (by
  show (if ((SX.S [c]).length == 0) = false ∧ (SX.S a).length + 2 ≤ sizeLine then some (true, D.lst ((Txt.split (SX.S a) (SX.S [c])).map D.str)) else none) = _
  rw [SX.S_len, SX.S_len, if_pos ⟨rfl, Nat.le_trans (Nat.add_le_add_right hl 2) (by decide)⟩, SX.split_S (by simp) (by simp [hc]), List.map_map]
  rfl)
theorem p_toS {k : Nat} (hl : a.length ≤ 100000) : prm (.slo false true) [tx a, .int (k : Nat)] = .ok (tx (a.take k)) := prm_of (fl := false) (by
  show (if (SX.S a).length ≤ sizeLine then some (false, D.str (L2.cutS (SX.S a) none (some (k : Int)))) else none) = _
  rw [SX.S_len, if_pos (sl4 hl), C8.cutS_slice, SX.slice_to (by omega), Int.toNat_natCast])
theorem p_fromS {k : Nat} (hl : a.length ≤ 100000) : prm (.slo true false) [tx a, .int (k : Nat)] = .ok (tx (a.drop k)) := prm_of (fl := false) (by
  show (if (SX.S a).length ≤ sizeLine then some (false, D.str (L2.cutS (SX.S a) (some (k : Int)) none)) else none) = _
  rw [SX.S_len, if_pos (sl4 hl), C8.cutS_slice, SX.slice_from (by omega), Int.toNat_natCast])
theorem p_lenS (hl : a.length ≤ 100000) : prm .len [tx a] = .ok (.int a.length) := prm_of (fl := false) (by
  show (if (SX.S a).length ≤ sizeLine then some (false, D.int (SX.S a).length) else none) = _
  rw [SX.S_len, if_pos (sl4 hl)])
theorem p_intS (h : a.length ≤ 640) (e : intText? (SX.S a) = some i) : prm .int [tx a] = .ok (.int i) := prm_of (fl := false) (by
  show (match intText? (SX.S a) with | some n => if (SX.S a).length ≤ 640 then some (false, D.int n) else none | none => none) = _
  rw [e]
  show (if (SX.S a).length ≤ 640 then some (false, D.int i) else none) = _
  rw [SX.S_len, if_pos h])
theorem p_inS {c : Nat} : prm .isIn [tx [c], tx a] = .ok (.bl (decide (c ∈ a))) := prm_of (fl := false) (by
  have e : inD (tx [c]) (tx a) = some (!(Builtin.Str.occurrences (SX.S a) (SX.S [c]) 0 (SX.S a).length 1).isEmpty) := by
    unfold inD; rfl
  show (inD (tx [c]) (tx a)).map (fun c => (false, D.bl c)) = _
  rw [e, SX.in_one]; rfl)
@[simp] theorem isS_tx : isS (tx a) = .ok () := nr rfl
theorem items_S : itemsM (tx a) = .ok (a.map fun c => tx [c]) := rfl
end
end M

set_option Elab.async false
set_option linter.all false
set_option maxRecDepth 100000
set_option maxHeartbeats 4000000
/-! S5: the lot's text written and read, in plain Lean. -/
namespace M
open PySem
def bigL : Nat := 10 ^ 30
theorem num31 {i : Int} (h : i.natAbs < bigL) : (numI i).length ≤ 31 := numI_len (k := 30) (by decide) h
theorem lt1920 {i : Int} (h : i.natAbs < bigL) : i.natAbs < 2 ^ 1920 := Nat.lt_trans h (by decide)
theorem m_wi {i : Int} (h : i.natAbs < bigL) : m_written_integer (tx (numI i)) = .ok (.int i) := by
  have hl := num31 h
  have e1 : prm (.slo false true) [tx (numI i), .int 1] = .ok (tx ((numI i).take 1)) := p_toS (k := 1) (by omega)
  have e2 : prm (.slo true false) [tx (numI i), .int 1] = .ok (tx ((numI i).drop 1)) := p_fromS (k := 1) (by omega)
  have e3 : (if decide ((numI i).take 1 = [45]) then (Mo.ok (tx ((numI i).drop 1))) else Mo.ok (tx (numI i))) = .ok (tx (TL.numL i.natAbs)) := by
    unfold numI
    by_cases hi : i < 0
    · simp [hi]
    · have hn : ¬ ((TL.numL i.natAbs).take 1 = [45]) := by
        intro z
        have hm : 45 ∈ TL.numL i.natAbs := List.mem_of_mem_take (by rw [z]; simp)
        exact TL.numL_free (by omega) hm
      simp [hi, hn]
  have hr : (TL.numL i.natAbs).length ≤ 31 := by
    have z := TL.numL_len (k := 30) (by decide) h; omega
  have c45 : Cps [45] := by intro c hc; simp at hc; omega
  have c0 : Cps [] := by intro c hc; simp at hc
  have e4 : ¬ (TL.numL i.natAbs = []) := TL.numL_ne _
  have e5 : ¬ ((4000 : Int) < ((TL.numL i.natAbs).length : Nat)) := by omega
  have e6 : (D.str "-") = tx [45] := rfl
  have e7 : (D.str "") = tx [] := rfl
  have e8 : (D.str "0123456789") = tx [48, 49, 50, 51, 52, 53, 54, 55, 56, 57] := rfl
  have e9 : prm .int [tx (numI i)] = .ok (.int i) := p_intS (by omega) (numI_int (by omega))
  unfold m_written_integer
  simp only [ok_bind, e1, e2, e6, e7, e8, p_eqS ((cps_num i).take 1) c45, p_eqS (cps_nat i.natAbs) c0, tru_bl, e3, decide_eq_false e4, Bool.false_eq_true, if_false, p_lenS (show (TL.numL i.natAbs).length ≤ 100000 by omega), p_gt, decide_eq_false e5, items_S]
  rw [mapL_ok (g := fun _ => .bl true) (sz (by omega)) (fun c hc => by
    have hd := TL.numL_digits _ c hc
    have : c ∈ [48, 49, 50, 51, 52, 53, 54, 55, 56, 57] := by
      have : c = 48 ∨ c = 49 ∨ c = 50 ∨ c = 51 ∨ c = 52 ∨ c = 53 ∨ c = 54 ∨ c = 55 ∨ c = 56 ∨ c = 57 := by omega
      simp; omega
    simp only [ok_bind, p_inS, decide_eq_true this])]
  simp only [ok_bind, p_all, tru_bl, Bool.not_true, Bool.false_eq_true, if_false, e9, p_strI (lt1920 h), p_eqS (cps_num i) (cps_num i), decide_true, if_true]
/-! rows -/
def rowT (r : List Int) : List Nat := TL.joinL [32] (r.map numI)
theorem sum_le {k : Nat} : ∀ {l : List (List Nat)}, (∀ x ∈ l, x.length ≤ k) → (l.map (·.length)).sum ≤ l.length * k
  | [], _ => by simp
  | x :: l, h => by
    have h1 := h x (List.mem_cons_self ..)
    have h2 := sum_le fun y hy => h y (List.mem_cons_of_mem _ hy)
    rw [List.map_cons, List.sum_cons, List.length_cons, Nat.succ_mul]; omega
theorem joinL_len (a : List Nat) : ∀ l : List (List Nat), (TL.joinL a l).length ≤ (l.map (·.length)).sum + l.length * a.length
  | [] => by simp [TL.joinL]
  | [p] => by simp [TL.joinL]
  | p :: q :: r => by
    have h := joinL_len a (q :: r)
    rw [TL.joinL, List.length_append, List.length_append, List.map_cons, List.sum_cons, List.length_cons, Nat.succ_mul]; omega
theorem joinL_mem {a : List Nat} {c : Nat} : ∀ {l : List (List Nat)}, c ∈ TL.joinL a l → c ∈ a ∨ ∃ p ∈ l, c ∈ p
  | [], h => by simp [TL.joinL] at h
  | [p], h => .inr ⟨p, by simp, h⟩
  | p :: q :: r, h => by
    rw [TL.joinL, List.mem_append, List.mem_append] at h
    rcases h with h | h | h
    · exact .inr ⟨p, by simp, h⟩
    · exact .inl h
    · rcases joinL_mem h with h | ⟨z, hz, h⟩
      · exact .inl h
      · exact .inr ⟨z, List.mem_cons_of_mem _ hz, h⟩
/-- rows of numbers that are not too long -/
structure RowOk (r : List Int) : Prop where
  ne : r ≠ []
  few : r.length ≤ 100
  sm : ∀ x ∈ r, x.natAbs < bigL
theorem rowT_len {r : List Int} (h : RowOk r) : (rowT r).length ≤ 3200 := by
  have h1 := joinL_len [32] (r.map numI)
  have h2 := sum_le (k := 31) (l := r.map numI) (fun x hx => by
    obtain ⟨i, hi, rfl⟩ := List.mem_map.1 hx
    exact num31 (h.sm i hi))
  have h3 := h.few
  rw [List.length_map] at h1 h2
  show (TL.joinL [32] (r.map numI)).length ≤ _
  simp only [List.length_cons, List.length_nil] at h1
  omega
theorem rowT_free {r : List Int} {c : Nat} (hc : c ≠ 32 ∧ c ≠ 45 ∧ (c < 48 ∨ 57 < c)) : c ∉ rowT r := by
  intro h
  rcases joinL_mem h with h | ⟨p, hp, h⟩
  · simp at h; omega
  · obtain ⟨i, hi, rfl⟩ := List.mem_map.1 hp
    have := numI_mem h
    omega
theorem row_sum {r : List Int} (h : RowOk r) : ((r.map numI).map (·.length)).sum + (r.map numI).length * [32].length ≤ 100000 := by
  have h2 := sum_le (k := 31) (l := r.map numI) (fun x hx => by
    obtain ⟨i, hi, rfl⟩ := List.mem_map.1 hx
    exact num31 (h.sm i hi))
  have h3 := h.few
  rw [List.length_map] at h2 ⊢
  simp only [List.length_cons, List.length_nil]
  omega
theorem spl_row {r : List Int} (h : RowOk r) : TL.spl [32] 0 [] (rowT r) = r.map numI := by
  refine SX.spl_join (fun z => h.ne (List.map_eq_nil_iff.1 z)) (fun p hp => ?_)
  obtain ⟨i, hi, rfl⟩ := List.mem_map.1 hp
  intro hm
  have := numI_mem hm
  omega
theorem m_trow {r : List Int} (h : RowOk r) : m_text_row (tx (rowT r)) = .ok (dR r) := by
  have e1 : (D.str " ") = tx [32] := rfl
  have hf := h.few
  have e2 : prm .split [tx (rowT r), tx [32]] = .ok (.lst ((r.map numI).map tx)) := by
    rw [p_splitS (by decide) (by have := rowT_len h; omega), spl_row h]
  unfold m_text_row
  simp only [ok_bind, isS_tx, e1, e2, itemsM_lst, List.map_map]
  rw [mapL_ok (h := tx ∘ numI) (g := D.int) (sz (by omega)) (fun i hi => m_wi (h.sm i hi))]
  simp only [ok_bind, p_tupleL]; rfl
/-! lines -/
def wordTable : List Nat := [116, 97, 98, 108, 101]
def wordLot : List Nat := [108, 111, 116, 32]
def blockT (A : Tb) : List (List Nat) := wordTable :: A.map rowT
def linesT (m : Nat) (ts : List Tb) : List (List Nat) := (wordLot ++ numI (m : Nat)) :: ts.flatMap blockT
def sheetT (m : Nat) (ts : List Tb) : List Nat := TL.joinL [10] (linesT m ts)
theorem lotRow {m : Nat} {ts : List Tb} (h : LotOk m ts) {A : Tb} (hA : A ∈ ts) {r : List Int} (hr : r ∈ A) : RowOk r := by
  have t := h.tb A hA
  have hl := t.row r hr
  have h1 := t.lo
  have h2 := t.hi
  refine ⟨fun z => by rw [z] at hl; simp at hl; omega, by omega, fun x hx => ?_⟩
  have := t.sm r hr x hx
  have e : bigL = 1000000000000000000000000000000 := by decide
  rw [e]; omega
theorem m_lines {m : Nat} {ts : List Tb} (h : LotOk m ts) : m__law_lines (dL ts) = .ok (.lst ((linesT m ts).map tx)) := by
  obtain ⟨A0, ts', hts⟩ : ∃ a l, ts = a :: l := by
    cases ts with
    | nil => exact absurd rfl h.ne
    | cons a l => exact ⟨a, l, rfl⟩
  have hA0 := h.tb A0 (by rw [hts]; exact List.mem_cons_self ..)
  have hm := hA0.hi
  have hf := h.few
  have h0 : prm .idx [dL ts, .int 0] = .ok (dT A0) := by rw [hts]; unfold dL; simp
  have e1 : (D.str "lot ") = tx wordLot := rfl
  have e2 : (D.str "table") = tx wordTable := rfl
  have e3 : (D.str " ") = tx [32] := rfl
  have hmb : ((m : Nat) : Int).natAbs < bigL := by
    have e : bigL = 1000000000000000000000000000000 := by decide
    rw [e]; omega
  have e4 : prm .add [tx wordLot, tx (numI (m : Nat))] = .ok (tx (wordLot ++ numI (m : Nat))) := p_addS (by have := num31 hmb; unfold wordLot; simp; omega)
  have e5 : itemsM (dL ts) = .ok (ts.map dT) := rfl
  unfold m__law_lines
  simp only [ok_bind, e1, h0, len_dT, hA0.len, p_strI (lt1920 hmb), e4, lst1, e5, e2, e3]
  obtain ⟨e6, _⟩ := foldN_fun (f := fun v11 v12 => (Mo.ok v12) >>= fun v13 => ((((.ok v11) >>= fun v14 => ((((.ok (tx wordTable)) >>= fun v15 => (.ok []) >>= fun v16 => .ok (v15 :: v16)) >>= lstM) >>= fun v17 => (prm .add [v14, v17]))) >>= fun v18 => ((((.ok v13) >>= fun v19 => (itemsM v19)) >>= fun v20 => (mapL (fun v21 => (.ok v21) >>= fun v22 => ((.ok (tx [32])) >>= fun v23 => (isS v23 >>= fun _ => ((((.ok v22) >>= fun v24 => (itemsM v24)) >>= fun v25 => (mapL (fun v26 => (.ok v26) >>= fun v27 => ((.ok v27) >>= fun v28 => (prm .strI [v28]))) v25 >>= fun l => .ok (D.lst l))) >>= fun v29 => (prm .join [v23, v29]))))) v20 >>= fun l => .ok (D.lst l))) >>= fun v30 => (prm .add [v18, v30]))) >>= fun v31 => (.ok v31))) (h := dT) (F := fun l => D.lst (l.map tx)) (g := fun l A => l ++ blockT A) (xs := ts) (u := [wordLot ++ numI (m : Nat)]) (fun acc l => l.length = 1 + acc.length * (m + 1)) (by simp) (fun A acc l rest hf2 hu => by
    have hA : A ∈ ts := by rw [← hf2]; simp
    have hT := h.tb A hA
    have hacc : acc.length ≤ 2 := by
      have : acc.length + 1 ≤ ts.length := by rw [← hf2]; simp
      omega
    have hl : l.length ≤ 100 := by
      have h5 : acc.length * (m + 1) ≤ 2 * 5 := Nat.mul_le_mul hacc (by omega)
      omega
    have hAl := hT.len
    constructor
    · have x1 : prm .add [.lst (l.map tx), .lst [tx wordTable]] = .ok (.lst ((l ++ [wordTable]).map tx)) := prm_of (fl := true) (by
        show (if (l.map tx).length + [tx wordTable].length ≤ sizeLine then some (true, D.lst (l.map tx ++ [tx wordTable])) else none) = _
        rw [if_pos (sz (by simp; omega)), List.map_append]; rfl)
      have x2 : prm .add [.lst ((l ++ [wordTable]).map tx), .lst ((A.map rowT).map tx)] = .ok (.lst ((l ++ blockT A).map tx)) := prm_of (fl := true) (by
        show (if ((l ++ [wordTable]).map tx).length + ((A.map rowT).map tx).length ≤ sizeLine then some (true, D.lst ((l ++ [wordTable]).map tx ++ (A.map rowT).map tx)) else none) = _
        rw [if_pos (sz (by simp; omega)), ← List.map_append, List.append_assoc]; rfl)
      have x3 : itemsM (dT A) = .ok (A.map dR) := rfl
      simp only [ok_bind, lst1, x1, x3]
      rw [mapL_ok (g := fun r => tx (rowT r)) (sz (by omega)) (fun r hr => by
        have hR := lotRow h hA hr
        have x4 : itemsM (dR r) = .ok (r.map D.int) := rfl
        simp only [ok_bind, isS_tx, x4]
        rw [mapL_ok (g := fun i => tx (numI i)) (sz (by have := hR.few; omega)) (fun i hi => p_strI (lt1920 (hR.sm i hi)))]
        have x5 : (r.map fun i => tx (numI i)) = (r.map numI).map tx := by rw [List.map_map]; rfl
        simp only [ok_bind, x5]
        exact p_joinS (row_sum hR))]
      have x6 : (A.map fun r => tx (rowT r)) = (A.map rowT).map tx := by rw [List.map_map]; rfl
      simp only [ok_bind, x6, x2]
    · rw [List.length_append, hu, List.length_append, blockT, List.length_cons, List.length_map, hAl, List.length_singleton, Nat.add_mul]; omega)
  have e7 : ∀ (xs : List Tb) (u : List (List Nat)), xs.foldl (fun l A => l ++ blockT A) u = u ++ xs.flatMap blockT := by
    intro xs
    induction xs with
    | nil => intro u; simp
    | cons x xs ih => intro u; rw [List.foldl_cons, ih, List.flatMap_cons, List.append_assoc]
  rw [e7] at e6
  simp only [ok_bind, bind_ok, List.map_cons, List.map_nil] at e6 ⊢
  exact e6
end M

set_option Elab.async false
set_option linter.all false
set_option maxRecDepth 100000
set_option maxHeartbeats 4000000
/-! S6: a lot of its text; lots built; draws of tables and words; the laws' own products. -/
namespace M
open PySem
theorem foldB_rngA {σ ρ : Type} {f : σ → D → Mo (Fl σ ρ)} {S : Nat → σ} {h : Nat → D} : ∀ (n s : Nat), (∀ k, s ≤ k → k < s + n → f (S k) (h k) = .ok (.nx (S (k + 1)))) → foldB f (S s) ((List.range' s n).map h) = .ok (.nx (S (s + n)))
  | 0, s, _ => rfl
  | n + 1, s, e => by
    rw [List.range'_succ, List.map_cons, foldB, e s (Nat.le_refl _) (by omega), ok_bind]
    have z := foldB_rngA n (s + 1) fun k h1 h2 => e k (by omega) (by omega)
    rw [show s + 1 + n = s + (n + 1) by omega] at z
    exact z
theorem foldB_rng {σ ρ : Type} {f : σ → D → Mo (Fl σ ρ)} {h : Nat → D} (S : Nat → σ) {n : Nat} (e : ∀ k, k < n → f (S k) (h k) = .ok (.nx (S (k + 1)))) : foldB f (S 0) ((List.range n).map h) = .ok (.nx (S n)) := by
  have z := foldB_rngA (f := f) (S := S) (h := h) n 0 fun k _ h2 => e k (by omega)
  rw [Nat.zero_add, ← List.range_eq_range'] at z
  exact z
theorem app_ok {l : List D} {d : D} (h : l.length ≤ 10000) : appM (.lst l) d = .ok (.lst (l ++ [d])) := if_pos (Nat.lt_of_le_of_lt h (by decide))
theorem take_succ' {α : Type} (f : α → D) (l : List α) (k : Nat) (a : α) (h : l[k]? = some a) : (l.take k).map f ++ [f a] = (l.take (k + 1)).map f := by
  rw [List.take_succ, h, List.map_append]; rfl
section
variable {m : Nat} {ts : List Tb}
theorem blk_len (h : LotOk m ts) {A : Tb} (hA : A ∈ ts) : (blockT A).length = m + 1 := by
  rw [blockT, List.length_cons, List.length_map, (h.tb A hA).len]
theorem flat_len {m : Nat} : ∀ {ts : List Tb}, (∀ A ∈ ts, (blockT A).length = m + 1) → (ts.flatMap blockT).length = ts.length * (m + 1)
  | [], _ => by simp
  | A :: ts, h => by
    rw [List.flatMap_cons, List.length_append, h A (List.mem_cons_self ..), flat_len fun B hB => h B (List.mem_cons_of_mem _ hB), List.length_cons, Nat.succ_mul]; omega
theorem flat_drop {m : Nat} : ∀ (k : Nat) {ts : List Tb}, (∀ A ∈ ts, (blockT A).length = m + 1) → (ts.flatMap blockT).drop (k * (m + 1)) = (ts.drop k).flatMap blockT
  | 0, ts, _ => by simp
  | k + 1, [], _ => by simp
  | k + 1, A :: ts, h => by
    rw [List.flatMap_cons, List.drop_succ_cons, ← flat_drop k fun B hB => h B (List.mem_cons_of_mem _ hB), Nat.succ_mul, Nat.add_comm, ← List.drop_drop]
    congr 1
    rw [← h A (List.mem_cons_self ..), List.drop_left]
theorem lines_len (h : LotOk m ts) : (linesT m ts).length = 1 + ts.length * (m + 1) := by
  rw [linesT, List.length_cons, flat_len fun A hA => blk_len h hA]; omega
theorem LotOk.sz (h : LotOk m ts) : 1 ≤ m ∧ m ≤ 4 := by
  obtain ⟨A0, ts', hts⟩ : ∃ a l, ts = a :: l := by
    cases ts with
    | nil => exact absurd rfl h.ne
    | cons a l => exact ⟨a, l, rfl⟩
  have hA0 := h.tb A0 (by rw [hts]; exact List.mem_cons_self ..)
  exact ⟨hA0.lo, hA0.hi⟩
theorem lines_few (h : LotOk m ts) : (linesT m ts).length ≤ 16 := by
  rw [lines_len h]
  have h1 := h.few
  have h2 := h.sz
  have h5 : ts.length * (m + 1) ≤ 3 * 5 := Nat.mul_le_mul h1 (by omega)
  omega
theorem msm {m : Nat} (h : m ≤ 100000) : ((m : Nat) : Int).natAbs < bigL := by
  have e : bigL = 1000000000000000000000000000000 := by decide
  rw [e]; omega
theorem line_mem (h : LotOk m ts) {p : List Nat} (hp : p ∈ linesT m ts) : p = wordLot ++ numI (m : Nat) ∨ p = wordTable ∨ ∃ r, RowOk r ∧ p = rowT r := by
  rw [linesT, List.mem_cons] at hp
  rcases hp with hp | hp
  · exact .inl hp
  · obtain ⟨A, hA, hp⟩ := List.mem_flatMap.1 hp
    rw [blockT, List.mem_cons] at hp
    rcases hp with hp | hp
    · exact .inr (.inl hp)
    · obtain ⟨r, hr, rfl⟩ := List.mem_map.1 hp
      exact .inr (.inr ⟨r, lotRow h hA hr, rfl⟩)
theorem line_free (h : LotOk m ts) : ∀ p ∈ linesT m ts, 10 ∉ p := by
  intro p hp
  rcases line_mem h hp with rfl | rfl | ⟨r, hr, rfl⟩
  · intro hm
    rcases List.mem_append.1 hm with hm | hm
    · simp [wordLot] at hm
    · have := numI_mem hm; omega
  · simp [wordTable]
  · exact rowT_free (by decide)
theorem line_len (h : LotOk m ts) : ∀ p ∈ linesT m ts, p.length ≤ 3200 := by
  intro p hp
  have h2 := h.sz
  rcases line_mem h hp with rfl | rfl | ⟨r, hr, rfl⟩
  · rw [List.length_append]
    have := num31 (msm (m := m) (by omega))
    have e : wordLot.length = 4 := rfl
    omega
  · decide
  · exact rowT_len hr
theorem line_sum (h : LotOk m ts) : ((linesT m ts).map (·.length)).sum + (linesT m ts).length * [10].length ≤ 100000 := by
  have h1 := sum_le (line_len h)
  have h2 := lines_few h
  have h3 : (linesT m ts).length * 3200 ≤ 16 * 3200 := Nat.mul_le_mul_right _ h2
  simp only [List.length_cons, List.length_nil]
  omega
theorem sheet_len (h : LotOk m ts) : (sheetT m ts).length ≤ 100000 := Nat.le_trans (joinL_len [10] (linesT m ts)) (line_sum h)
theorem m_sheet (h : LotOk m ts) : m__law_sheet (dL ts) = .ok (tx (sheetT m ts)) := by
  have e1 : (D.str "\n") = tx [10] := rfl
  unfold m__law_sheet
  simp only [ok_bind, e1, isS_tx, m_lines h]
  exact p_joinS (line_sum h)
theorem spl_sheet (h : LotOk m ts) : TL.spl [10] 0 [] (sheetT m ts) = linesT m ts := SX.spl_join (by simp [linesT]) (line_free h)
theorem at_k (h : LotOk m ts) {k : Nat} {A : Tb} (hk : ts[k]? = some A) : ∃ rest, (linesT m ts).drop (1 + k * (m + 1)) = wordTable :: (A.map rowT ++ rest) := by
  refine ⟨(ts.drop (k + 1)).flatMap blockT, ?_⟩
  have hlt : k < ts.length := (List.getElem?_eq_some_iff.1 hk).1
  have hA : ts[k] = A := (List.getElem?_eq_some_iff.1 hk).2
  rw [linesT, Nat.add_comm 1, List.drop_succ_cons, flat_drop k fun A hA => blk_len h hA, List.drop_eq_getElem_cons hlt, hA, List.flatMap_cons]
  rfl
theorem m_tlot (h : LotOk m ts) : m_text_lot (tx (sheetT m ts)) = .ok (dO ts) := by
  have hs := h.sz
  have hf := h.few
  have hn := lines_len h
  have hne : 1 ≤ ts.length := List.length_pos_iff.2 h.ne
  have e1 : (D.str "\n") = tx [10] := rfl
  have e2 : (D.str "lot ") = tx wordLot := rfl
  have e3 : (D.str "table") = tx wordTable := rfl
  have e0 : prm (.isi "str") [tx (sheetT m ts)] = .ok (.bl true) := rfl
  have e4 : prm .split [tx (sheetT m ts), tx [10]] = .ok (.lst ((linesT m ts).map tx)) := by
    rw [p_splitS (by decide) (sheet_len h), spl_sheet h]
  have e5 : prm .idx [.lst ((linesT m ts).map tx), .int 0] = .ok (tx (wordLot ++ numI (m : Nat))) := by rw [linesT, List.map_cons]; exact p_idx0L
  have hm := msm (m := m) (by omega)
  have hl4 : (wordLot ++ numI (m : Nat)).length ≤ 100000 := by
    rw [List.length_append]
    have := num31 hm
    have e : wordLot.length = 4 := rfl
    omega
  have e6 : prm (.slo false true) [tx (wordLot ++ numI (m : Nat)), .int 4] = .ok (tx wordLot) := p_toS (k := 4) hl4
  have e7 : prm (.slo true false) [tx (wordLot ++ numI (m : Nat)), .int 4] = .ok (tx (numI (m : Nat))) := p_fromS (k := 4) hl4
  have cw : Cps wordLot := by intro c hc; simp [wordLot] at hc; omega
  have ct : Cps wordTable := by intro c hc; simp [wordTable] at hc; omega
  have e8 : prm .eq [tx wordLot, tx wordLot] = .ok (.bl true) := by rw [p_eqS cw cw]; simp
  have c1 : (1 : Int) ≤ (m : Int) := by omega
  have c4 : (m : Int) ≤ 4 := by omega
  have e9 : prm .mod [.int ((linesT m ts).length : Nat), .int ((m : Int) + 1)] = .ok (.int 1) := by
    rw [p_mod (by omega), hn]
    congr 2
    have x : ((1 + ts.length * (m + 1) : Nat) : Int) = 1 + (ts.length : Int) * ((m : Int) + 1) := by simp
    rw [x, Int.add_mul_emod_self_right]
    exact Int.emod_eq_of_lt (by omega) (by omega)
  have e10 : optM (rng3F [.int 1, .int ((linesT m ts).length : Nat), .int ((m : Int) + 1)]) = .ok ((List.range ts.length).map fun (k : Nat) => D.int ((1 + k * (m + 1) : Nat) : Int)) := by
    have i1 : inR 1 = true := inR_nat (m := 1) (by decide)
    have i2 : inR ((linesT m ts).length : Nat) = true := inR_nat (by have := lines_few h; omega)
    show optM (if inR 1 && inR ((linesT m ts).length : Nat) && decide ((0 : Int) < (m : Int) + 1) && decide ((m : Int) + 1 < 1000000) then some (rngC 1 ((m : Int) + 1) (Builtin.Range.rangeSize 1 ((linesT m ts).length : Nat) ((m : Int) + 1)).toNat) else none) = _
    rw [i1, i2, decide_eq_true (show (0 : Int) < (m : Int) + 1 by omega), decide_eq_true (show (m : Int) + 1 < 1000000 by omega), if_pos (show (true && true && true && true) = true from rfl)]
    have x : (Builtin.Range.rangeSize 1 ((linesT m ts).length : Nat) ((m : Int) + 1)).toNat = ts.length := by
      unfold Builtin.Range.rangeSize
      have y : ((linesT m ts).length : Int) = 1 + (ts.length : Int) * ((m : Int) + 1) := by rw [hn]; simp
      have hp : (0 : Int) < (ts.length : Int) * ((m : Int) + 1) := Int.mul_pos (by omega) (by omega)
      rw [if_pos (by omega), if_pos (by omega), y]
      have z : (1 + (ts.length : Int) * ((m : Int) + 1) - 1 - 1) = ((m : Int)) + ((ts.length : Int) - 1) * ((m : Int) + 1) := by rw [Int.sub_mul]; omega
      rw [z, Int.add_mul_ediv_right _ _ (by omega), Int.ediv_eq_zero_of_lt (by omega) (by omega)]
      omega
    rw [x]
    show Mo.ok (rngC 1 _ _) = _
    unfold rngC
    refine congrArg Mo.ok (List.map_congr_left fun k _ => ?_)
    simp
  obtain ⟨A0, ts', hts⟩ : ∃ a l, ts = a :: l := by
    cases ts with
    | nil => exact absurd rfl h.ne
    | cons a l => exact ⟨a, l, rfl⟩
  have hA0 := h.tb A0 (by rw [hts]; exact List.mem_cons_self ..)
  have e11 : prm .idx [.lst (ts.map dT), .int 0] = .ok (dT A0) := by rw [hts, List.map_cons]; exact p_idx0L
  have e12 : m_wrong_table (.tup (ts.map dT)) = .ok .non := m_wrongT h
  have e13 : m_Lot_init (.tup (ts.map dT)) = .ok [dL ts] := m_Lot h
  have e14 : foldB (ρ := D) (fun v49 v50 => (.ok v50) >>= fun v51 => (((((Mo.ok (.lst ((linesT m ts).map tx))) >>= fun v52 => ((.ok v51) >>= fun v53 => (prm .idx [v52, v53]))) >>= fun v54 => ((.ok (tx wordTable)) >>= fun v55 => (prm .ne [v54, v55]))) >>= fun v56 => (tru v56)) >>= fun v57 => if v57 then ((.ok D.non) >>= fun v58 => .ok (.ret v58)) else ((((((.ok (.lst ((linesT m ts).map tx))) >>= fun v59 => (((.ok v51) >>= fun v60 => ((.ok (D.int 1)) >>= fun v61 => (prm .add [v60, v61]))) >>= fun v62 => ((((.ok v51) >>= fun v63 => ((.ok (D.int 1)) >>= fun v64 => (prm .add [v63, v64]))) >>= fun v65 => ((.ok (D.int (m : Nat))) >>= fun v66 => (prm .add [v65, v66]))) >>= fun v67 => (prm (.slo true true) [v59, v62, v67])))) >>= fun v68 => (itemsM v68)) >>= fun v69 => (mapL (fun v70 => (.ok v70) >>= fun v71 => ((.ok v71) >>= fun v72 => (m_text_row v72))) v69 >>= fun l => .ok (D.lst l))) >>= fun v73 => (prm .tuple [v73])) >>= fun v74 => appM v49 v74 >>= fun v75 => (.ok (.nx v75))))) (D.lst []) ((List.range ts.length).map fun (k : Nat) => D.int ((1 + k * (m + 1) : Nat) : Int)) = .ok (.nx (.lst (ts.map dT))) := by
    refine (foldB_rng (n := ts.length) (fun k => D.lst ((ts.take k).map dT)) fun k hk => ?_).trans (by simp only [List.take_length])
    obtain ⟨A, hA⟩ : ∃ A, ts[k]? = some A := ⟨ts[k], List.getElem?_eq_getElem hk⟩
    obtain ⟨rest, hr⟩ := at_k h hA
    have hmem := List.mem_of_getElem? hA
    have hT := h.tb A hmem
    have hAl := hT.len
    have hdl : (linesT m ts).length = 1 + k * (m + 1) + (1 + (m + rest.length)) := by
      have z := congrArg List.length hr
      rw [List.length_drop, List.length_cons, List.length_append, List.length_map, hAl] at z
      omega
    have y1 : prm .idx [.lst ((linesT m ts).map tx), .int ((1 + k * (m + 1) : Nat) : Int)] = .ok (tx wordTable) := by
      refine p_idxL ?_
      have z := congrArg (fun l => l[0]?) hr
      simp only [List.getElem?_drop, List.getElem?_cons_zero, Nat.add_zero] at z
      rw [List.getElem?_map, z]; rfl
    have y2 : prm .ne [tx wordTable, tx wordTable] = .ok (.bl false) := by rw [p_neS ct ct]; simp
    have y3 : prm (.slo true true) [.lst ((linesT m ts).map tx), .int (((1 + k * (m + 1) : Nat) : Int) + 1), .int (((1 + k * (m + 1) : Nat) : Int) + 1 + (m : Int))] = .ok (.lst ((A.map rowT).map tx)) := prm_of (fl := true) (by
      show some (true, D.lst (cutL ((linesT m ts).map tx) (some (((1 + k * (m + 1) : Nat) : Int) + 1)) (some (((1 + k * (m + 1) : Nat) : Int) + 1 + (m : Int))))) = _
      have c1 : ((1 + k * (m + 1) : Nat) : Int) + 1 = ((1 + k * (m + 1) + 1 : Nat) : Int) := by simp
      have c2 : ((1 + k * (m + 1) : Nat) : Int) + 1 + (m : Int) = ((1 + k * (m + 1) + 1 + m : Nat) : Int) := by simp
      rw [c2, c1]
      unfold cutL
      rw [HT.sIx_nat, HT.sIx_nat, List.length_map, Nat.min_eq_left (by omega), Nat.min_eq_left (by omega), ← List.map_drop, ← List.map_take, ← List.drop_drop, hr, show 1 + k * (m + 1) + 1 + m - (1 + k * (m + 1) + 1) = m by omega, List.drop_succ_cons, List.drop_zero]
      have z : (A.map rowT ++ rest).take m = A.map rowT := by
        have q : m = (A.map rowT).length := by rw [List.length_map, hAl]
        rw [q, List.take_left]
      rw [z])
    simp only [ok_bind, y1, y2, tru_bl, Bool.false_eq_true, if_false, p_add, y3, itemsM_lst]
    rw [List.map_map, mapL_ok (h := tx ∘ rowT) (g := dR) (sz (by omega)) (fun r hr => m_trow (lotRow h hmem hr))]
    simp only [ok_bind, p_tupleL]
    rw [app_ok (by rw [List.length_map, List.length_take]; omega), ok_bind]
    have z := take_succ' dT ts k A hA
    rw [← z]; rfl
  have c10 : ¬ ((1 : Int) ≠ 1) := by simp
  unfold m_text_lot
  simp only [ok_bind, e0, tru_bl, Bool.not_true, Bool.false_eq_true, if_false, isS_tx, e1, e4, e5, e6, e2, e8, if_true, e7, m_wi hm, p_isN, isNon_int, p_le, isB_bl, pV_le, decide_eq_true c1, decide_eq_true c4, p_lenL, List.length_map, p_add, e9, p_ne, decide_true, lst0, e10, e3]
  simp only [ok_bind] at e14
  simp only [e14, ok_bind, Fl.on, p_tupleL, e12, p_notN, isNon_non, Bool.not_true, tru_bl, Bool.false_eq_true, if_false, e11, len_dT, hA0.len, p_ne, decide_true, e13]
  rfl
theorem m_read (h : LotOk m ts) : m_Lot_read (.cls 0) (tx (sheetT m ts)) = .ok (dO ts) := by
  unfold m_Lot_read
  simp only [ok_bind, m_tlot h, p_isN]
  rfl
theorem m_built {p : D} {k : Nat} (h : LotOk m ts) (hp : Pl k p) (hk : k ≤ 1000000) : ∃ p', m__law_built p (dL ts) = .ok (dO ts, p') ∧ Pl (k + 1) p' := by
  obtain ⟨v, p1, e1, hv, h1⟩ := m_cast (m := 3) hp hk ⟨by decide, by decide⟩
  refine ⟨p1, ?_, h1⟩
  unfold m__law_built
  simp only [ok_bind, e1, p_eq, tru_bl, m_Lot h, m_sheet h, m_read h]
  by_cases c0 : v = 0
  · subst c0; rfl
  · by_cases c1 : v = 1
    · subst c1; rfl
    · simp only [c0, c1, decide_false, Bool.false_eq_true, if_false, ok_bind]
end
end M

set_option Elab.async false
set_option linter.all false
set_option maxRecDepth 100000
set_option maxHeartbeats 4000000
/-! S7: repr of data; draws of numbers, tables, words. -/
namespace M
open PySem
/-! ### repr -/
def Tq (n : Nat) (x : Str) : Prop := Cps (TL.tl x) ∧ (TL.tl x).length ≤ n
theorem Tq.mono {n k : Nat} {x : Str} (h : Tq n x) (l : n ≤ k) : Tq k x := ⟨h.1, Nat.le_trans h.2 l⟩
theorem Tq.app {n k : Nat} {x y : Str} (h : Tq n x) (h' : Tq k y) : Tq (n + k) (x ++ y) := by
  unfold Tq
  rw [TL.tl_append]
  exact ⟨h.1.app h'.1, by rw [List.length_append]; exact Nat.add_le_add h.2 h'.2⟩
theorem Tq.joins {n k : Nat} {y : Str} (hy : Tq k y) : ∀ {ts : List Str}, (∀ t ∈ ts, Tq n t) → Tq (ts.length * (n + k)) (Str.join y ts)
  | [], _ => ⟨fun c hc => absurd hc (by simp [Str.join, TL.tl, Str.empty]), by simp [Str.join, TL.tl, Str.empty]⟩
  | [x], h => (h x (by simp)).mono (by simp)
  | x :: z :: r, h => by
    have h1 := h x (by simp)
    have h2 := Tq.joins hy (ts := z :: r) fun t ht => h t (List.mem_cons_of_mem _ ht)
    refine ((h1.app hy).app h2).mono ?_
    rw [List.length_cons (a := x), Nat.succ_mul]; omega
theorem Tq.from {n : Nat} : ∀ {ts : List Str} {k a : Nat} {acc : Str}, Tq a acc → (∀ t ∈ ts, Tq n t) → Tq (a + ts.length * (n + 2)) (textFrom k acc ts)
  | [], k, a, acc, ha, _ => ha.mono (by omega)
  | t :: r, k, a, acc, ha, h => by
    have h1 := h t (by simp)
    have hs : Tq 2 (((if k > 0 then ", " else "" : String) : String) : Str) := by
      unfold Tq
      rw [TL.tl_ofString]
      by_cases hk : k > 0
      · rw [if_pos hk]; exact ⟨by intro c hc; simp at hc; omega, by decide⟩
      · rw [if_neg hk]; exact ⟨by intro c hc; simp at hc, by decide⟩
    refine (Tq.from (k := k + 1) ((ha.app hs).app h1) fun x hx => h x (List.mem_cons_of_mem _ hx)).mono ?_
    rw [List.length_cons, Nat.succ_mul]; omega
structure Rp (k n : Nat) (d : D) : Prop where
  go : ∃ p, d.py = some p ∧ p.showable = true ∧ p.depth ≤ k ∧ Tq n p.shown
theorem rp_int {i : Int} (h : i.natAbs < 2 ^ 1920) : Rp 0 601 (.int i) := ⟨.int i, rfl, by
  show decide (i.natAbs.log2 < 1920) = true
  exact decide_eq_true (n20' h), Nat.le_refl _, by
  show Tq 601 (Str.ofString (toString i))
  rw [str_num]
  exact ⟨cps_num i, numI_len (k := 600) (by decide) (Nat.lt_of_lt_of_le h (by decide))⟩⟩
theorem rp_all {k n : Nat} : ∀ {ds : List D}, (∀ d ∈ ds, Rp k n d) → ∃ ps, D.pys ds = some ps ∧ PyData.showableAll ps = true ∧ PyData.depthAll ps ≤ k ∧ (PyData.shownAll ps).length = ds.length ∧ ∀ t ∈ PyData.shownAll ps, Tq n t
  | [], _ => ⟨[], rfl, rfl, Nat.zero_le _, rfl, fun t ht => by simp [PyData.shownAll] at ht⟩
  | d :: ds, h => by
    obtain ⟨p, h1, h2, h3, h4⟩ := (h d (by simp)).go
    obtain ⟨ps, g1, g2, g3, g4, g5⟩ := rp_all (ds := ds) fun x hx => h x (List.mem_cons_of_mem _ hx)
    refine ⟨p :: ps, by rw [D.pys, h1, g1], by rw [PyData.showableAll, h2, g2]; rfl, by rw [PyData.depthAll]; exact Nat.max_le.2 ⟨h3, g3⟩, by rw [PyData.shownAll, List.length_cons, g4, List.length_cons], fun t ht => ?_⟩
    rw [PyData.shownAll, List.mem_cons] at ht
    rcases ht with rfl | ht
    · exact h4
    · exact g5 t ht
theorem rp_tup {k n : Nat} {ds : List D} (h : ∀ d ∈ ds, Rp k n d) : Rp (k + 1) (ds.length * (n + 2) + 3) (.tup ds) := by
  obtain ⟨ps, g1, g2, g3, g4, g5⟩ := rp_all h
  refine ⟨.tuple ps, by rw [D.py, g1], by rw [PyData.showable]; exact g2, by rw [PyData.depth]; omega, ?_⟩
  show Tq _ (tupleText (PyData.shownAll ps))
  have hc : Tq 2 ((", " : String) : Str) := by
    unfold Tq; rw [TL.tl_ofString]; exact ⟨by intro c hc; simp at hc; omega, by decide⟩
  have ho : Tq 1 (("(" : String) : Str) := by
    unfold Tq; rw [TL.tl_ofString]; exact ⟨by intro c hc; simp at hc; omega, by decide⟩
  have he : Tq 2 ((if (PyData.shownAll ps).length == 1 then ",)" else ")" : String) : Str) := by
    unfold Tq; rw [TL.tl_ofString]
    split
    · exact ⟨by intro c hc; simp at hc; omega, by decide⟩
    · exact ⟨by intro c hc; simp at hc; omega, by decide⟩
  refine ((ho.app (hc.joins g5)).app he).mono ?_
  rw [g4]; omega
theorem Rp.mono {k n k' n' : Nat} {d : D} (h : Rp k n d) (hk : k ≤ k') (hn : n ≤ n') : Rp k' n' d := by
  obtain ⟨p, h1, h2, h3, h4⟩ := h.go
  exact ⟨p, h1, h2, Nat.le_trans h3 hk, h4.mono hn⟩
/-- what repr tells -/
def rpr (d : D) : List Nat := match d.py with
  | some p => TL.tl p.shown
  | none => []
theorem rpr_cps {k n : Nat} {d : D} (h : Rp k n d) : Cps (rpr d) := by
  obtain ⟨p, h1, h2, h3, h4⟩ := h.go
  unfold rpr
  rw [h1]
  exact h4.1
/-- two reprs of one thing -/
theorem p_reprNe {k n : Nat} {d : D} (h : Rp k n d) : prm .ne [tx (rpr d), tx (rpr d)] = .ok (.bl false) := by
  rw [p_neS (rpr_cps h) (rpr_cps h)]; simp
theorem rp_dR {r : List Int} (hl : r.length ≤ 4) (h : ∀ x ∈ r, x.natAbs < 2 ^ 1920) : Rp 1 2500 (dR r) :=
  (rp_tup (k := 0) (n := 601) (ds := r.map D.int) fun d hd => by
    obtain ⟨x, hx, rfl⟩ := List.mem_map.1 hd
    exact rp_int (h x hx)).mono (Nat.le_refl _) (by rw [List.length_map]; have := Nat.mul_le_mul_right 603 hl; omega)
theorem rp_dT {A : Tb} (hl : A.length ≤ 4) (hr : ∀ r ∈ A, r.length ≤ 4) (h : Bd 1920 A) : Rp 2 10100 (dT A) :=
  (rp_tup (k := 1) (n := 2500) (ds := A.map dR) fun d hd => by
    obtain ⟨x, hx, rfl⟩ := List.mem_map.1 hd
    exact rp_dR (hr x hx) (h x hx)).mono (Nat.le_refl _) (by rw [List.length_map]; have := Nat.mul_le_mul_right 2502 hl; omega)
/-! ### draws -/
theorem m_any {k : Nat} {p : D} {l : List D} (h : Pl k p) (hk : k ≤ 1000000) (h0 : l ≠ []) (hl : l.length ≤ 100000) : ∃ d ∈ l, ∃ p', m__law_any_of p (.lst l) = .ok (d, p') ∧ Pl (k + 1) p' := by
  have hpos : 0 < l.length := List.length_pos_iff.2 h0
  obtain ⟨v, p1, e1, hv, h1⟩ := m_cast (m := (l.length : Int)) h hk ⟨by omega, by omega⟩
  obtain ⟨i, rfl⟩ : ∃ i : Nat, v = (i : Int) := ⟨v.toNat, by omega⟩
  have hi : i < l.length := by omega
  refine ⟨l[i], List.getElem_mem hi, p1, ?_, h1⟩
  unfold m__law_any_of
  simp only [ok_bind, p_lenL, e1, p_idxL (List.getElem?_eq_getElem hi)]
theorem p_pow6 : prm .pow [.int 10, .int 6] = .ok (.int 1000000) := prm_of rfl
theorem m_number {k : Nat} {p : D} (h : Pl k p) (hk : k ≤ 1000000 - 1) : ∃ z p', m__law_number p = .ok (D.int z, p') ∧ (-1000000 ≤ z ∧ z ≤ 1000000) ∧ Pl (k + 2) p' := by
  obtain ⟨v, p1, e1, hv, h1⟩ := m_cast (m := 8) h (by omega) ⟨by decide, by decide⟩
  have x1 : prm .mul [.int 2, .int 1000000] = .ok (.int 2000000) := p_mul (p := 32) (r := 32) (by decide) (n32 (by decide) (by decide)) (n32 (by decide) (by decide))
  have x2 : (2000000 : Int) + 1 = 2000001 := by decide
  unfold m__law_number
  simp only [ok_bind, e1, p_lt, tru_bl, p_eq]
  by_cases c5 : v < 5
  · obtain ⟨u, p2, e2, hu, h2⟩ := m_cast (m := 7) h1 (by omega) ⟨by decide, by decide⟩
    simp only [decide_eq_true c5, if_true, e2, ok_bind, p_sub]
    exact ⟨_, _, rfl, by omega, h2⟩
  · simp only [decide_eq_false c5, Bool.false_eq_true, if_false]
    by_cases d5 : v = 5
    · have xn : prm .neg [.int 1000000] = .ok (.int (-1000000)) := rfl
      simp only [decide_eq_true d5, if_true, p_pow6, xn, ok_bind, lst4]
      obtain ⟨d, hd, p2, e2, h2⟩ := m_any (l := [.int 1000000, .int (-1000000), .int 999999, .int 10]) h1 (by omega) (by simp) (by simp)
      rw [e2]
      simp at hd
      rcases hd with rfl | rfl | rfl | rfl
      · exact ⟨_, _, rfl, by omega, h2⟩
      · exact ⟨_, _, rfl, by omega, h2⟩
      · exact ⟨_, _, rfl, by omega, h2⟩
      · exact ⟨_, _, rfl, by omega, h2⟩
    · simp only [decide_eq_false d5, Bool.false_eq_true, if_false]
      by_cases d6 : v = 6
      · obtain ⟨u, p2, e2, hu, h2⟩ := m_cast (m := 41) h1 (by omega) ⟨by decide, by decide⟩
        simp only [decide_eq_true d6, if_true, e2, ok_bind, p_sub]
        exact ⟨_, _, rfl, by omega, h2⟩
      · obtain ⟨u, p2, e2, hu, h2⟩ := m_cast (m := 2000001) h1 (by omega) ⟨by decide, by decide⟩
        simp only [decide_eq_false d6, Bool.false_eq_true, if_false, p_pow6, x1, p_add, x2, e2, ok_bind, p_sub]
        exact ⟨_, _, rfl, by omega, h2⟩
end M

set_option Elab.async false
set_option linter.all false
set_option maxRecDepth 100000
set_option maxHeartbeats 4000000
/-! S8: tables by their entries; sums; products by the laws' own sums. -/
namespace M
open PySem
def ent (A : Tb) (i j : Nat) : Int := (A.getD i []).getD j 0
def sg : Nat → (Nat → Int) → Int
  | 0, _ => 0
  | n + 1, f => sg n f + f n
theorem sg_congr {n : Nat} {f g : Nat → Int} (h : ∀ i, i < n → f i = g i) : sg n f = sg n g := by
  induction n with
  | zero => rfl
  | succ n ih => rw [sg, sg, ih fun i hi => h i (by omega), h n (by omega)]
theorem sg_zero (n : Nat) : sg n (fun _ => 0) = 0 := by
  induction n with
  | zero => rfl
  | succ n ih => rw [sg, ih]; rfl
theorem sg_one {n i : Nat} (h : i < n) (f : Nat → Int) : sg n (fun k => (if i = k then 1 else 0) * f k) = f i := by
  induction n with
  | zero => omega
  | succ n ih =>
    rw [sg]
    by_cases hi : i = n
    · subst hi
      have z : sg i (fun k => (if i = k then 1 else 0) * f k) = 0 := by
        refine (sg_congr (g := fun _ => 0) fun k hk => ?_).trans (sg_zero i)
        rw [if_neg (by omega), Int.zero_mul]
      rw [z, if_pos rfl]; omega
    · rw [ih (by omega), if_neg hi]; omega
theorem sg_one' {n i : Nat} (h : i < n) (f : Nat → Int) : sg n (fun k => f k * (if k = i then 1 else 0)) = f i := by
  rw [← sg_one h f]
  exact sg_congr fun k _ => by
    by_cases hk : k = i
    · subst hk; simp
    · rw [if_neg hk, if_neg fun z => hk z.symm]; simp
theorem sum_sg (n : Nat) (f : Nat → Int) : ((List.range n).map f).sum = sg n f := by
  induction n with
  | zero => rfl
  | succ n ih => rw [List.range_succ, List.map_append, List.sum_append, ih, sg]; simp
theorem dot_sg : ∀ r c : List Int, r.length = c.length → dot r c = sg r.length fun k => r.getD k 0 * c.getD k 0 := by
  intro r c h
  rw [← sum_sg]
  induction r generalizing c with
  | nil => rw [dot_nilL]; rfl
  | cons x r ih =>
    cases c with
    | nil => simp at h
    | cons y c =>
      rw [dot_cons, ih c (by simpa using h), List.length_cons, List.range_succ_eq_map, List.map_cons, List.sum_cons, List.map_map]
      rfl
def mkT (m : Nat) (f : Nat → Nat → Int) : Tb := (List.range m).map fun i => (List.range m).map fun j => f i j
theorem getD_map {α β : Type} (f : α → β) (l : List α) (i : Nat) (a : α) (b : β) (h : i < l.length) : (l.map f).getD i b = f (l.getD i a) := by
  rw [List.getD_eq_getElem?_getD, List.getElem?_map, List.getD_eq_getElem?_getD, List.getElem?_eq_getElem h]; rfl
theorem getD_rng {α : Type} (f : Nat → α) (m i : Nat) (b : α) (h : i < m) : ((List.range m).map f).getD i b = f i := by
  rw [getD_map f _ i 0 b (by simpa using h)]
  congr 1
  rw [List.getD_eq_getElem?_getD, List.getElem?_range h]; rfl
theorem ent_mk {m i j : Nat} {f : Nat → Nat → Int} (hi : i < m) (hj : j < m) : ent (mkT m f) i j = f i j := by
  unfold ent mkT
  rw [getD_rng _ m i [] hi, getD_rng _ m j 0 hj]
theorem row_rng {m : Nat} {r : List Int} (h : r.length = m) : (List.range m).map (fun j => r.getD j 0) = r := by
  apply List.ext_getElem
  · simp [h]
  · intro j h1 h2
    rw [List.getElem_map, List.getElem_range, List.getD_eq_getElem?_getD, List.getElem?_eq_getElem h2]; rfl
theorem rows_rng {m : Nat} {A : Tb} (h : A.length = m) : (List.range m).map (fun i => A.getD i []) = A := by
  apply List.ext_getElem
  · simp [h]
  · intro j h1 h2
    rw [List.getElem_map, List.getElem_range, List.getD_eq_getElem?_getD, List.getElem?_eq_getElem h2]; rfl
theorem getD_mem {α : Type} {l : List α} {i : Nat} {a : α} (h : i < l.length) : l.getD i a ∈ l := by
  rw [List.getD_eq_getElem?_getD, List.getElem?_eq_getElem h]; exact List.getElem_mem h
theorem mk_ent {m : Nat} {A : Tb} (h : Sq m A) : mkT m (ent A) = A := by
  unfold mkT ent
  rw [← rows_rng h.len]
  apply List.map_congr_left
  intro i hi
  have hi' := List.mem_range.1 hi
  rw [rows_rng h.len]
  exact row_rng (h.row _ (getD_mem (by rw [h.len]; exact hi')))
theorem mk_congr {m : Nat} {f g : Nat → Nat → Int} (h : ∀ i j, i < m → j < m → f i j = g i j) : mkT m f = mkT m g := by
  unfold mkT
  apply List.map_congr_left
  intro i hi
  apply List.map_congr_left
  intro j hj
  exact h i j (List.mem_range.1 hi) (List.mem_range.1 hj)
theorem tb_ext {m : Nat} {A B : Tb} (hA : Sq m A) (hB : Sq m B) (h : ∀ i j, i < m → j < m → ent A i j = ent B i j) : A = B := by
  rw [← mk_ent hA, ← mk_ent hB]
  exact mk_congr h
theorem mul_mk {m : Nat} {A B : Tb} (hA : Sq m A) (hB : Sq m B) : mulT m A B = mkT m fun i j => sg m fun k => ent A i k * ent B k j := by
  unfold mulT mkT colsT
  conv => lhs; rw [← rows_rng hA.len]
  rw [List.map_map]
  apply List.map_congr_left
  intro i hi
  have hi' := List.mem_range.1 hi
  show ((List.range m).map fun j => B.map fun r => r.getD j 0).map (fun c => dot (A.getD i []) c) = _
  rw [List.map_map]
  apply List.map_congr_left
  intro j hj
  show dot (A.getD i []) (B.map fun r => r.getD j 0) = _
  have hr := hA.row _ (getD_mem (a := []) (by rw [hA.len]; exact hi'))
  rw [dot_sg _ _ (by rw [hr, List.length_map, hB.len]), hr]
  exact sg_congr fun k hk => by
    rw [getD_map _ B k [] 0 (by rw [hB.len]; exact hk)]; rfl
theorem ent_mul {m i j : Nat} {A B : Tb} (hA : Sq m A) (hB : Sq m B) (hi : i < m) (hj : j < m) : ent (mulT m A B) i j = sg m fun k => ent A i k * ent B k j := by
  rw [mul_mk hA hB, ent_mk hi hj]
theorem ent_unit {m i j : Nat} (hi : i < m) (hj : j < m) : ent (unitT m) i j = if i = j then 1 else 0 := ent_mk (f := fun i j => if i = j then 1 else 0) hi hj
theorem mul_unit {m : Nat} {A : Tb} (hA : Sq m A) : mulT m A (unitT m) = A := by
  refine tb_ext (sq_mul hA) hA fun i j hi hj => ?_
  rw [ent_mul hA (sq_unit m) hi hj, sg_congr (g := fun k => ent A i k * (if k = j then 1 else 0)) fun k hk => by rw [ent_unit hk hj], sg_one' hj]
/-! ### the laws' own sums -/
theorem m_one {m : Nat} (h : m ≤ 100000) : m__law_one (.int (m : Nat)) = .ok (dT (unitT m)) := by
  unfold m__law_one
  simp only [ok_bind, o_rng (show m ≤ 1000000 by omega)]
  rw [mapL_ok (g := fun (i : Nat) => dR ((List.range m).map fun j => if i = j then 1 else 0)) (sz (by simpa using h)) (fun i _ => by
    rw [mapL_ok (g := fun (j : Nat) => D.int (if i = j then 1 else 0)) (sz (by simpa using h)) (fun j _ => by
      simp only [ok_bind, p_eq, p_intB]
      by_cases hij : i = j
      · subst hij; simp
      · have : ¬ ((i : Int) = (j : Int)) := by omega
        simp [hij, this])]
    simp only [ok_bind, p_tupleL]
    unfold dR
    rw [List.map_map]; rfl)]
  simp only [ok_bind, p_tupleL]
  unfold dT unitT
  rw [List.map_map]; rfl
theorem dT_idx {A : Tb} {i : Nat} (h : i < A.length) : prm .idx [dT A, .int (i : Nat)] = .ok (dR (A.getD i [])) := p_idxT (by
  rw [List.getElem?_map, List.getElem?_eq_getElem h, List.getD_eq_getElem?_getD, List.getElem?_eq_getElem h]; rfl)
theorem p_ent {m i : Nat} {A : Tb} (hA : Sq m A) (hi : i < m) : prm .idx [dT A, .int (i : Nat)] = .ok (dR (A.getD i [])) := dT_idx (by rw [hA.len]; exact hi)
theorem p_ent2 {m i j : Nat} {A : Tb} (hA : Sq m A) (hi : i < m) (hj : j < m) : prm .idx [dR (A.getD i []), .int (j : Nat)] = .ok (.int (ent A i j)) := dR_idx (by rw [hA.row _ (getD_mem (by rw [hA.len]; exact hi))]; exact hj)
end M

set_option Elab.async false
set_option linter.all false
set_option maxRecDepth 100000
set_option maxHeartbeats 4000000
/-! S9: walks with draws; words. -/
namespace M
open PySem
theorem foldB_inv {σ τ ρ : Type} {f : σ → D → Mo (Fl σ ρ)} {h : τ → D} (J : Nat → σ → Prop) (N : Nat) : ∀ (xs : List τ) (n : Nat) (s : σ), n + xs.length ≤ N → J n s → (∀ x ∈ xs, ∀ n s, n < N → J n s → ∃ s', f s (h x) = .ok (.nx s') ∧ J (n + 1) s') → ∃ s', foldB f s (xs.map h) = .ok (.nx s') ∧ J (n + xs.length) s'
  | [], n, s, _, j, _ => ⟨s, rfl, j⟩
  | x :: xs, n, s, hN, j, st => by
    rw [List.length_cons] at hN
    obtain ⟨s1, e1, j1⟩ := st x (by simp) n s (by omega) j
    obtain ⟨s2, e2, j2⟩ := foldB_inv J N xs (n + 1) s1 (by omega) j1 fun y hy => st y (List.mem_cons_of_mem _ hy)
    refine ⟨s2, ?_, by rw [List.length_cons, show n + (xs.length + 1) = n + 1 + xs.length by omega]; exact j2⟩
    rw [List.map_cons, foldB, e1, ok_bind]
    exact e2
theorem foldB_bind {σ τ ρ γ : Type} {f : σ → D → Mo (Fl σ ρ)} {h : τ → D} {k : Fl σ ρ → Mo γ} {s : σ} {xs : List τ} (G : Mo γ → Prop) (J : Nat → σ → Prop) (j : J 0 s) (st : ∀ x ∈ xs, ∀ n s, n < xs.length → J n s → ∃ s', f s (h x) = .ok (.nx s') ∧ J (n + 1) s') (fin : ∀ s', J xs.length s' → G (k (.nx s'))) : G (foldB f s (xs.map h) >>= k) := by
  obtain ⟨s', e, j'⟩ := foldB_inv J xs.length xs 0 s (by omega) j st
  rw [e]
  exact fin s' (by rw [Nat.zero_add] at j'; exact j')
/-- the frame of a law: so many cases -/
theorem cases_ok {f : D → Mo D} {ns : List Int} {c : Int} (hc : 2 ≤ c ∧ c ≤ 100) (hn : ns.length ≤ 63) (h : ∀ k : Nat, k < 1000 → f (.int (k : Nat)) = .ok (.bl true)) :
    (((optM (rng1F [D.int (if (if c < (ns.length : Int) then c else (ns.length : Int)) > 2 then (if c < (ns.length : Int) then c else (ns.length : Int)) else 2)])) >>= fun v6 => mapL f v6 >>= fun l => Mo.ok (D.lst l)) >>= fun v12 => prm .all [v12]) = .ok (.bl true) := by
  obtain ⟨z, e, hz⟩ : ∃ z : Nat, (if (if c < (ns.length : Int) then c else (ns.length : Int)) > 2 then (if c < (ns.length : Int) then c else (ns.length : Int)) else 2) = (z : Int) ∧ z ≤ 100 :=
    ⟨(if (if c < (ns.length : Int) then c else (ns.length : Int)) > 2 then (if c < (ns.length : Int) then c else (ns.length : Int)) else 2).toNat, by split <;> split <;> omega, by split <;> split <;> omega⟩
  rw [e, o_rng (by omega)]
  simp only [ok_bind]
  rw [mapL_ok (g := fun _ => .bl true) (sz (by simp; omega)) (fun k hk => h k (by have := List.mem_range.1 hk; omega))]
  simp only [ok_bind]
  exact p_all
end M

set_option Elab.async false
set_option linter.all false
set_option maxRecDepth 100000
set_option maxHeartbeats 4000000
/-! S10: traces by entries; words turned. -/
namespace M
open PySem
theorem diag_rng : ∀ (A : Tb) (k : Nat), diag k A = (List.range A.length).map fun i => (A.getD i []).getD (k + i) 0
  | [], _ => rfl
  | r :: A, k => by
    rw [diag, diag_rng A (k + 1), List.length_cons, List.range_succ_eq_map, List.map_cons, List.map_map]
    congr 1
    apply List.map_congr_left
    intro i _
    show (A.getD i []).getD (k + 1 + i) 0 = (A.getD i []).getD (k + (i + 1)) 0
    rw [show k + 1 + i = k + (i + 1) by omega]
theorem tr_sg {m : Nat} {A : Tb} (h : Sq m A) : traceT A = sg m fun i => ent A i i := by
  unfold traceT
  rw [diag_rng, h.len, ← sum_sg]
  congr 1
  apply List.map_congr_left
  intro i _
  rw [Nat.zero_add]; rfl
end M

set_option Elab.async false
set_option linter.all false
set_option maxRecDepth 100000
set_option maxHeartbeats 4000000
/-! S11: tables scaled, added, turned over. -/
namespace M
open PySem
end M

set_option Elab.async false
set_option linter.all false
set_option maxRecDepth 100000
set_option maxHeartbeats 4000000
/-! Pk3: plain functions (printed by gen2.py). -/
namespace M
open PySem
end M

set_option Elab.async false
set_option linter.all false
set_option maxRecDepth 100000
set_option maxHeartbeats 4000000
/-! S12: repr of texts; what a lot tells of itself. -/
namespace M
open PySem
theorem p_reprB {k n : Nat} {d : D} (h : Rp k n d) (hk : k ≤ 64) (hn : n ≤ 1000000) : prm .repr [d] = .ok (tx (rpr d)) := by
  obtain ⟨p, h1, h2, h3, h4⟩ := h.go
  refine prm_of (fl := false) ?_
  show reprD d = _
  have e : p.shown.length = (TL.tl p.shown).length := by rw [TL.len_tl]
  unfold reprD rpr
  rw [h1]
  show (if p.showable = true ∧ p.depth ≤ 64 ∧ p.shown.length ≤ sizeLine then some (false, D.str p.shown) else none) = some (false, D.str (SX.S (TL.tl p.shown)))
  rw [if_pos ⟨h2, Nat.le_trans h3 hk, by rw [e]; exact Nat.le_trans (Nat.le_trans h4.2 hn) (by decide)⟩]
/-! sizes -/
section
variable {m : Nat} {ts : List Tb}
/-! the lot's own defs -/
end
end M

set_option Elab.async false
set_option linter.all false
set_option maxRecDepth 100000
set_option maxHeartbeats 4000000
/-! S13: lots compared. -/
namespace M
open PySem
end M

set_option Elab.async false
set_option linter.all false
set_option maxRecDepth 100000
set_option maxHeartbeats 4000000
/-! Pk4: plain functions (printed by gen2.py). -/
namespace M
open PySem
end M

set_option Elab.async false
set_option linter.all false
set_option maxRecDepth 100000
set_option maxHeartbeats 8000000
/-! G19: xs.count(x) of numbers. -/
namespace M
open PySem L2 PyProof.Rows SlX
def isZ (z : Int) (v : Value) : Bool := match v with
  | .int a _ => a == z
  | _ => false
theorem int_vals : ∀ {us : List Value} {l : List Int}, Vals (l.map V.int) us → (∀ y ∈ us, ∃ (a : Int) (t : Tok), y = .int a t) ∧ ∀ z : Int, us.countP (isZ z) = l.count z
  | [], [], _ => ⟨fun y hy => (by cases hy), fun z => rfl⟩
  | u :: us, a :: l, h => by
    cases h with
    | cons h1 h2 =>
      obtain ⟨t, e⟩ : ∃ t, u = Value.int a t := h1
      subst e
      obtain ⟨i1, i2⟩ := int_vals h2
      refine ⟨fun y hy => ?_, fun z => ?_⟩
      · rcases List.mem_cons.mp hy with rfl | hy
        · exact ⟨a, t, rfl⟩
        · exact i1 y hy
      · rw [List.countP_cons, i2 z, List.count_cons]; rfl
  | [], _ :: _, h => by cases h
  | _ :: _, [], h => by cases h
section
variable {X : Cx}
def rCntI (K : PySem.W.Frag) : V → List V → Hp → VK → Prop := fun x xs H Q => ∃ (p : Addr) (l : List Int) (z : Int), x = .ref p ∧ xs = [.int z] ∧ SqL K H p (l.map V.int) ∧ Q (.int (l.count z : Nat)) H
theorem mt_countI : MtR X "list.count" (rCntI X.K) := by
  intro pins s σ H x xs v us Q I rx rxs h
  obtain ⟨p, l, z, rfl, rfl, hs, q⟩ := h
  cases rx
  obtain ⟨u, rfl, ru⟩ := rxs.one
  obtain ⟨t, rfl⟩ : ∃ t, u = Value.int z t := ru
  obtain ⟨its, rv, ⟨⟨cls, dd, data, sl⟩, n, ho, hc, hdn, hd⟩, hlen⟩ := I.list hs
  simp only at hc hd
  subst hc hd
  obtain ⟨i1, i2⟩ := int_vals rv
  refine call_meets PySem.F.slot_list_count ⟨_, ho, rfl⟩ PySem.F.entry_list_count (PySem.F.args_list_count_2 _ _)
    (SeqAt.list_countAt p its.toArray n dd sl (.int z t) (isZ z)) ⟨ho, fun y hy => ?_, ?_⟩
  · have hy : y ∈ its := by simpa using hy
    obtain ⟨a, t', rfl⟩ := i1 y hy
    exact SeqAt.EqAt.int_int (A := X.A.in1) (s := s) a t' z t
  have ec : its.toArray.toList.countP (isZ z) = l.count z := i2 z
  refine ⟨.int (l.count z : Nat), H, I.tok _, ⟨s.toks, ?_⟩, q⟩
  show Value.int ((its.toArray.toList.countP (isZ z) : Nat) : Int) s.toks = Value.int ((l.count z : Nat) : Int) s.toks
  rw [ec]
end
section
variable {W : Wo} {X : Cx} {ex : XK} {n k : Nat} {pos p1 p2 p3 p4 apos : Pos} {a b c : Expr} {A B C : E} {x : Str} {es : List Expr}
theorem cntI_ok {Z : Zc} {x u : V} {H : Hp} {Q : VK} (h : PrimPost Z .cntI [x, u] H Q) : tyV Z.K "list" x H ∧ rCntI Z.K x [u] H Q := by
  obtain ⟨R, ds, ht, rq, nw, d, e, k⟩ := h
  obtain ⟨d0, d1, rfl, rp, rp1⟩ := repPs2 rq
  cases d0 with
  | lst xs =>
    cases d1 with
    | int z =>
      cases hb : intsOf xs with
      | none => simp only [evP, hb] at e; cases e
      | some l =>
        simp only [evP, hb] at e
        cases e
        obtain ⟨p, ys, rfl, h1, h2⟩ := rp.lst
        have ey := h2.ints hb
        subst ey
        have eu := rp1.int
        subst eu
        exact ⟨.inl ⟨rfl, _, h1⟩, p, l, z, rfl, rfl, h1, k _ H (Same.refl H) (.int _)⟩
    | _ => cases e
  | _ => cases e
theorem me_cntI {i : Nat} (g : Gd W n X ex) (ha : ME W X ex a A) (hN : X.N[i]? = some x := by rfl) (hv : Vis X.env.scope x := by first | exact Or.inl rfl | exact Or.inr (Or.inl rfl) | exact Or.inr (Or.inr rfl)) (hbase : attributeBase a "count" X.env (eval a X.env) = eval a X.env := by rfl)
    (hd : (x == ("__debug__" : Str)) = false := by decide) (hcd : (x == ("__classdict__" : Str)) = false := by decide)
    (hline : (apos.endLine == pos.line) = true := by rfl) (hs : starEach [.Name x p2] X.env = (false, eval (.Name x p2) X.env) :: starEach [] X.env := by rfl) : ME W X ex (.Call (.Attribute a "count" apos) [.Name x p2] [] pos) (.prm .cntI (.cons A (.cons (.var i) .nil))) := fun pk =>
  (pe_bm PySem.F.plainAttrs_list PySem.F.slot_list_count PySem.F.type_list_count mt_countI (ha true) (pa_cons (pe_var hN hv hd hcd) pa_nil hs) hbase (by rfl) hline (by rfl) (by rfl)).imp fun s H Q h => (tEs2 (tE_prm h)).mono fun y H1 z => by
    rw [g.hK]
    obtain ⟨v, h1, h2⟩ := tE_var z
    obtain ⟨h3, h4⟩ := cntI_ok h2
    exact ⟨h3, v, h1, h4⟩
end
end M

set_option Elab.async false
set_option linter.all false
set_option maxRecDepth 100000
set_option maxHeartbeats 8000000
/-! G20: xs.index(x); xs.pop(i) in walks that draw. -/
namespace M
open PySem L2 PyProof.Rows SlX
theorem firstAt_inv {p : PyData} : ∀ {ps : List PyData} {k j : Nat}, firstAt p ps k = some j → k ≤ j ∧ (∃ z, ps[j - k]? = some z ∧ PyData.eqv z p = true) ∧ ∀ (m : Nat) (z' : PyData), m < j - k → ps[m]? = some z' → PyData.eqv z' p = false
  | [], k, j, h => by cases h
  | z :: l, k, j, h => by
    unfold firstAt at h
    by_cases e : PyData.eqv z p = true
    · rw [if_pos e] at h
      cases h
      exact ⟨Nat.le_refl _, ⟨z, by rw [Nat.sub_self]; rfl, e⟩, fun m z' hm => absurd hm (by omega)⟩
    · rw [if_neg e] at h
      obtain ⟨h1, ⟨z2, h2, h3⟩, h4⟩ := firstAt_inv h
      refine ⟨by omega, ⟨z2, ?_, h3⟩, fun m z' hm hz => ?_⟩
      · rw [show j - k = (j - (k + 1)) + 1 by omega, List.getElem?_cons_succ]; exact h2
      · cases m with
        | zero =>
          have : z = z' := by simpa using hz
          subst this
          simpa using e
        | succ m => exact h4 m z' (by omega) (by simpa using hz)
section
variable {W : Wo} {X : Cx} {ex : XK} {n k : Nat} {pos p1 p2 p3 p4 apos : Pos} {a b c : Expr} {A B C : E} {x : Str} {es : List Expr}
theorem index_ok {Z : Zc} {x u : V} {H : Hp} {Q : VK} (h : PrimPost Z .index [x, u] H Q) : tyV Z.K "list" x H ∧ rIndexD Z.K x [u] H Q := by
  obtain ⟨R, ds, ht, rq, nw, d, e, k⟩ := h
  obtain ⟨d0, d1, rfl, rp, rp1⟩ := repPs2 rq
  cases d0 with
  | lst xs =>
    cases h1 : shapedL xs with
    | none => simp only [evP, h1] at e; cases e
    | some ps =>
      cases h2 : shapedD d1 with
      | none => simp only [evP, h1, h2] at e; cases e
      | some p =>
        simp only [evP, h1, h2] at e
        cases h3 : firstAt p ps 0 with
        | none => rw [h3] at e; cases e
        | some j =>
          rw [h3] at e
          cases e
          obtain ⟨e1, s1⟩ := shapedL_inv h1
          obtain ⟨e2, s2⟩ := shapedD_inv h2
          obtain ⟨-, ⟨z, f1, f2⟩, f3⟩ := firstAt_inv h3
          have dl := (rp.dp (p := .list ps) (by unfold D.py; rw [e1])).shaped s1
          have dd := (rp1.dp e2).shaped s2
          obtain ⟨a, ys, rfl, l1, l2⟩ := rp.lst
          exact ⟨.inl ⟨rfl, _, l1⟩, a, u, p, ps, j, z, rfl, rfl, dl, dd, s1, s2, by simpa using f1, f2, fun m z' hm hz => f3 m z' (by omega) hz, k _ H (Same.refl H) (.int _)⟩
  | _ => cases e
theorem me_index {i : Nat} (g : Gd W n X ex) (ha : ME W X ex a A) (hN : X.N[i]? = some x := by rfl) (hv : Vis X.env.scope x := by first | exact Or.inl rfl | exact Or.inr (Or.inl rfl) | exact Or.inr (Or.inr rfl)) (hbase : attributeBase a "index" X.env (eval a X.env) = eval a X.env := by rfl)
    (hd : (x == ("__debug__" : Str)) = false := by decide) (hcd : (x == ("__classdict__" : Str)) = false := by decide)
    (hline : (apos.endLine == pos.line) = true := by rfl) (hs : starEach [.Name x p2] X.env = (false, eval (.Name x p2) X.env) :: starEach [] X.env := by rfl) : ME W X ex (.Call (.Attribute a "index" apos) [.Name x p2] [] pos) (.prm .index (.cons A (.cons (.var i) .nil))) := fun pk =>
  (pe_bm PySem.F.plainAttrs_list PySem.F.slot_list_index PySem.F.type_list_index (mt_indexD g.un) (ha true) (pa_cons (pe_var hN hv hd hcd) pa_nil hs) hbase (by rfl) hline (by rfl) (by rfl)).imp fun s H Q h => (tEs2 (tE_prm h)).mono fun y H1 z => by
    rw [g.hK]
    obtain ⟨v, h1, h2⟩ := tE_var z
    obtain ⟨h3, h4⟩ := index_ok h2
    exact ⟨h3, v, h1, h4⟩
end
/-! ### pop -/
def popM : D → D → Mo (D × D)
  | .lst xs, .int z => (match popIx xs.length z with
    | some j => (match xs[j]? with
      | some d => .ok (d, .lst (xs.eraseIdx j))
      | none => .bad)
    | none => .bad)
  | _, _ => .bad
theorem popM_no {xs : List D} {z : Int} (h : popIx xs.length z = none) : popM (.lst xs) (.int z) = .bad := by unfold popM; simp only [h]
theorem popM_no2 {xs : List D} {z : Int} {j : Nat} (h : popIx xs.length z = some j) (h2 : xs[j]? = none) : popM (.lst xs) (.int z) = .bad := by unfold popM; simp only [h, h2]
theorem popM_ok {xs : List D} {z : Int} {j : Nat} {d : D} (h : popIx xs.length z = some j) (h2 : xs[j]? = some d) : popM (.lst xs) (.int z) = .ok (d, .lst (xs.eraseIdx j)) := by unfold popM; simp only [h, h2]
section
variable {α γ : Type} {K : Calls} {q : Fm} {e : E}
theorem xv_pop {i : Nat} {bo : Bool} {m : Mo α} {V L : α → D} {F : α → Fm} {V3 : γ → D} {F3 : γ → Fm} (g : α → D × D → γ) (h : XV K e q m V F) (ho : isOwn q[i]? = true := by rfl) (hL : ∀ a, (F a)[i]? = some (.ow bo (L a)) := by intros; rfl)
    (hV : ∀ a z, V3 (g a z) = z.1 := by intros; rfl) (hF : ∀ a z, F3 (g a z) = (F a).set i (.ow bo z.2) := by intros; rfl) : XV K (.pop i e) q (m >>= fun a => popM (L a) (V a) >>= fun z => .ok (g a z)) V3 F3 := fun pk => by
  have z := h false
  rw [ev, if_pos ho]
  cases m with
  | bad => trivial
  | exc c ds =>
    obtain ⟨q', e'⟩ := z
    exact ⟨q', by rw [e']; rfl⟩
  | ok a =>
    obtain ⟨r, q', e', rfl, hr⟩ := z
    rw [ok_bind, e']
    show Rl (match r.vd with | some d => popR i d (F a) | none => .bad) _ _
    rw [hr]
    show Rl (popR i (V a) (F a)) _ _
    unfold popR
    rw [hL a]
    cases hl : L a with
    | lst xs =>
      cases hv : V a with
      | int z =>
        show Rl (match popIx xs.length z with | some j => (match xs[j]? with | some d => Res.ok (RV.val d) ((F a).set i (.ow bo (.lst (xs.eraseIdx j)))) | none => .bad) | none => .bad) (popM (.lst xs) (.int z) >>= fun z => .ok (g a z)) _
        cases h1 : popIx xs.length z with
        | none => rw [popM_no h1]; trivial
        | some j =>
          cases h2 : xs[j]? with
          | none => rw [popM_no2 h1 h2]; trivial
          | some d =>
            rw [popM_ok h1 h2, ok_bind]
            show Rl (match xs[j]? with | some d => Res.ok (RV.val d) ((F a).set i (.ow bo (.lst (xs.eraseIdx j)))) | none => .bad) _ _
            rw [h2]
            exact ⟨_, _, rfl, (hF a (d, .lst (xs.eraseIdx j))).symm, by rw [hV]; rfl⟩
      | _ => trivial
    | _ => cases hv : V a <;> trivial
end
end M


set_option Elab.async false
set_option linter.all false
set_option maxRecDepth 100000
set_option maxHeartbeats 8000000
namespace M
open PySem L2 PyProof.Rows SlX
/-! ### the text by places, our trees (printed by gen.py) -/
def top (i : Nat) : Stmt := PySem.Challenge.pw_alltriangular_k17_whole_units_and_zeros.main.body.getD i (.Pass ⟨0, 0, 0, 0⟩)
abbrev s_is_integer : Stmt := top 9
abbrev s_are_integers : Stmt := top 10
abbrev s_is_table : Stmt := top 21
abbrev s_wrong_table : Stmt := top 22
abbrev s_Lot_init : Stmt := inClass (top 23) 1
abbrev s__law_cast : Stmt := top 36
abbrev s__law_any_of : Stmt := top 37
abbrev s__law_number : Stmt := top 38
abbrev s__law_one : Stmt := top 42
abbrev s_written_integer : Stmt := top 11
abbrev s_text_row : Stmt := top 25
abbrev s_text_lot : Stmt := top 26
abbrev s_Lot_read : Stmt := inClass (top 23) 2
abbrev s__law_lines : Stmt := top 39
abbrev s__law_sheet : Stmt := top 40
abbrev s__law_built : Stmt := top 41
abbrev s_check_lot : Stmt := top 27
abbrev s_wrong_letter : Stmt := top 28
abbrev s_check_word : Stmt := top 29
abbrev s_unit : Stmt := top 13
abbrev s_times : Stmt := top 14
abbrev s_product_of : Stmt := top 31
abbrev s_Lot_tables : Stmt := inClass (top 23) 3
abbrev s_product : Stmt := top 32
abbrev s_trace_of : Stmt := top 15
abbrev s_trace : Stmt := top 33
abbrev s__law_corner : Stmt := top 43
abbrev s__law_right : Stmt := top 44
abbrev s__law_begun : Stmt := top 35
abbrev s_law : Stmt := top 45
def t_is_integer : Ss := (.cons (.retS (.andV (.prm (.isi "int") (.cons (.var 0) .nil)) (.notV (.prm (.isi "bool") (.cons (.var 0) .nil))))) .nil)
def d_is_integer : FDef := ⟨1, 1, t_is_integer⟩
def t_are_integers : Ss := (.cons (.retS (.andV (.prm (.isi "tuple") (.cons (.var 0) .nil)) (.andV (.prm .eq (.cons (.prm .len (.cons (.var 0) .nil)) (.cons (.var 1) .nil))) (.prm .all (.cons (.lc [2] (.nm 2) (.seq (.var 0)) .yes (.call 0 (.v (.var 2) .nil))) .nil))))) .nil)
def d_are_integers : FDef := ⟨2, 3, t_are_integers⟩
def t_is_table : Ss := (.cons (.ift (.any (.not (.val (.prm (.isi "tuple") (.cons (.var 0) .nil)))) (.not (.val (.chain .le .le (.con (.int 1)) (.prm .len (.cons (.var 0) .nil)) (.glo "MOST_SIZE" (.int 4)))))) (.cons (.retS (.con (.bl false))) .nil) .nil) (.cons (.ift (.not (.val (.prm .all (.cons (.lc [1] (.nm 1) (.seq (.var 0)) .yes (.call 1 (.v (.var 1) (.v (.prm .len (.cons (.var 0) .nil)) .nil)))) .nil)))) (.cons (.retS (.con (.bl false))) .nil) .nil) (.cons (.retS (.prm .all (.cons (.lc2 [1, 2] [2] (.nm 1) (.seq (.var 0)) .yes (.nm 2) (.seq (.var 1)) .yes (.prm .le (.cons (.prm .abs (.cons (.var 2) .nil)) (.cons (.glo "MOST_NUMBER" (.int 1000000)) .nil)))) .nil))) .nil)))
def d_is_table : FDef := ⟨1, 3, t_is_table⟩
def t_wrong_table : Ss := (.cons (.ift (.any (.not (.val (.prm (.isi "tuple") (.cons (.var 0) .nil)))) (.val (.prm .eq (.cons (.prm .len (.cons (.var 0) .nil)) (.cons (.con (.int 0)) .nil))))) (.cons (.retS (.prm .neg (.cons (.con (.int 1)) .nil))) .nil) .nil) (.cons (.for (.tp (.cons (.nm 1) (.cons (.nm 2) .nil))) (.enm (.var 0)) (.cons (.ift (.any (.val (.prm .eq (.cons (.var 1) (.cons (.glo "MOST_TABLES" (.int 3)) .nil)))) (.any (.not (.val (.call 2 (.v (.var 2) .nil)))) (.val (.prm .ne (.cons (.prm .len (.cons (.var 2) .nil)) (.cons (.prm .len (.cons (.prm .idx (.cons (.var 0) (.cons (.con (.int 0)) .nil))) .nil)) .nil)))))) (.cons (.retS (.var 1)) .nil) .nil) (.cons (.kil [1, 2]) .nil))) (.cons (.retS (.con .non)) .nil)))
def d_wrong_table : FDef := ⟨1, 3, t_wrong_table⟩
def t_Lot_init : Ss := (.cons (.asgS (.nm 2) (.call 4 (.v (.var 1) .nil))) (.cons (.ift (.val (.prm .notN (.cons (.var 2) .nil))) (.cons .nev .nil) .nil) .nil))
def e_Lot_init : M.E := (.var 1)
def d_Lot_init : CDef := ⟨2, 3, t_Lot_init, e_Lot_init⟩
def t__law_cast : Ss := (.cons (.ift (.val (.prm .gt (.cons (.prm .idx (.cons (.var 0) (.cons (.con (.int 0)) .nil))) (.cons (.con (.int 0)) .nil)))) (.cons (.asgS (.tp (.cons (.sub 0 (.con (.int 0))) (.cons (.nm 3) .nil))) (.prm .divmod (.cons (.prm .idx (.cons (.var 0) (.cons (.con (.int 0)) .nil))) (.cons (.var 1) .nil)))) (.cons (.retS (.var 3)) .nil)) .nil) (.cons (.asgS (.sub 0 (.con (.int 2))) (.prm .add (.cons (.prm .idx (.cons (.var 0) (.cons (.con (.int 2)) .nil))) (.cons (.con (.int 1)) .nil)))) (.cons (.asgS (.nm 2) (.prm .mod (.cons (.prm .int (.cons (.prm .add (.cons (.prm .add (.cons (.prm .mul (.cons (.prm .idx (.cons (.var 0) (.cons (.con (.int 1)) .nil))) (.cons (.prm .add (.cons (.con (.int 36809)) (.cons (.prm .mul (.cons (.con (.int 2)) (.cons (.prm .idx (.cons (.var 0) (.cons (.con (.int 2)) .nil))) .nil))) .nil))) .nil))) (.cons (.prm .mul (.cons (.con (.int 5303)) (.cons (.prm .idx (.cons (.var 0) (.cons (.con (.int 2)) .nil))) .nil))) .nil))) (.cons (.con (.int 7)) .nil))) .nil)) (.cons (.con (.int 2147483629)) .nil)))) (.cons (.asgS (.sub 0 (.con (.int 1))) (.prm .mod (.cons (.prm .int (.cons (.prm .add (.cons (.prm .add (.cons (.prm .mul (.cons (.var 2) (.cons (.con (.int 45413)) .nil))) (.cons (.prm .mul (.cons (.con (.int 3)) (.cons (.prm .idx (.cons (.var 0) (.cons (.con (.int 2)) .nil))) .nil))) .nil))) (.cons (.con (.int 1)) .nil))) .nil)) (.cons (.con (.int 2147483587)) .nil)))) (.cons (.retS (.prm .mod (.cons (.prm .int (.cons (.prm .fdiv (.cons (.prm .idx (.cons (.var 0) (.cons (.con (.int 1)) .nil))) (.cons (.con (.int 256)) .nil))) .nil)) (.cons (.var 1) .nil)))) .nil)))))
def d__law_cast : FDef := ⟨2, 4, t__law_cast⟩
def t__law_any_of : Ss := (.cons (.retS (.prm .idx (.cons (.var 1) (.cons (.call 1004 (.b 0 (.v (.prm .len (.cons (.var 1) .nil)) .nil))) .nil)))) .nil)
def d__law_any_of : FDef := ⟨2, 2, t__law_any_of⟩
def t__law_number : Ss := (.cons (.asgS (.nm 1) (.call 1004 (.b 0 (.v (.con (.int 8)) .nil)))) (.cons (.ift (.val (.prm .lt (.cons (.var 1) (.cons (.con (.int 5)) .nil)))) (.cons (.retS (.prm .sub (.cons (.call 1004 (.b 0 (.v (.con (.int 7)) .nil))) (.cons (.con (.int 3)) .nil)))) .nil) .nil) (.cons (.ift (.val (.prm .eq (.cons (.var 1) (.cons (.con (.int 5)) .nil)))) (.cons (.retS (.call 1005 (.b 0 (.v (.lst (.one (.prm .pow (.cons (.con (.int 10)) (.cons (.con (.int 6)) .nil))) (.one (.prm .neg (.cons (.prm .pow (.cons (.con (.int 10)) (.cons (.con (.int 6)) .nil))) .nil)) (.one (.con (.int 999999)) (.one (.con (.int 10)) .nil))))) .nil)))) .nil) .nil) (.cons (.retS (.ife (.val (.prm .eq (.cons (.var 1) (.cons (.con (.int 6)) .nil)))) (.prm .sub (.cons (.call 1004 (.b 0 (.v (.con (.int 41)) .nil))) (.cons (.con (.int 20)) .nil))) (.prm .sub (.cons (.call 1004 (.b 0 (.v (.prm .add (.cons (.prm .mul (.cons (.con (.int 2)) (.cons (.prm .pow (.cons (.con (.int 10)) (.cons (.con (.int 6)) .nil))) .nil))) (.cons (.con (.int 1)) .nil))) .nil))) (.cons (.prm .pow (.cons (.con (.int 10)) (.cons (.con (.int 6)) .nil))) .nil))))) .nil))))
def d__law_number : FDef := ⟨1, 2, t__law_number⟩
def t__law_one : Ss := (.cons (.retS (.prm .tuple (.cons (.lc [1] (.nm 1) (.rng1 (.var 0)) .yes (.prm .tuple (.cons (.lc [2] (.nm 2) (.rng1 (.var 0)) .yes (.prm .int (.cons (.prm .eq (.cons (.var 1) (.cons (.var 2) .nil))) .nil))) .nil))) .nil))) .nil)
def d__law_one : FDef := ⟨1, 3, t__law_one⟩
def t_written_integer : Ss := (.cons (.asgS (.nm 1) (.ife (.val (.prm .eq (.cons (.prm (.slo false true) (.cons (.var 0) (.cons (.con (.int 1)) .nil))) (.cons (.con (.str "-")) .nil)))) (.prm (.slo true false) (.cons (.var 0) (.cons (.con (.int 1)) .nil))) (.var 0))) (.cons (.ift (.any (.val (.prm .eq (.cons (.var 1) (.cons (.con (.str "")) .nil)))) (.any (.val (.prm .gt (.cons (.prm .len (.cons (.var 1) .nil)) (.cons (.con (.int 4000)) .nil)))) (.not (.val (.prm .all (.cons (.lc [2] (.nm 2) (.seq (.var 1)) .yes (.prm .isIn (.cons (.var 2) (.cons (.glo "DIGITS" (.str "0123456789")) .nil)))) .nil)))))) (.cons (.retS (.con .non)) .nil) .nil) (.cons (.retS (.ife (.val (.prm .eq (.cons (.prm .strI (.cons (.prm .int (.cons (.var 0) .nil)) .nil)) (.cons (.var 0) .nil)))) (.prm .int (.cons (.var 0) .nil)) (.con .non))) .nil)))
def d_written_integer : FDef := ⟨1, 3, t_written_integer⟩
def t_text_row : Ss := (.cons (.retS (.prm .tuple (.cons (.lc [1] (.nm 1) (.seq (.mth .split (.var 0) (.con (.str " ")))) .yes (.call 3 (.v (.var 1) .nil))) .nil))) .nil)
def d_text_row : FDef := ⟨1, 2, t_text_row⟩
def t_text_lot : Ss := (.cons (.ift (.not (.val (.prm (.isi "str") (.cons (.var 0) .nil)))) (.cons (.retS (.con .non)) .nil) .nil) (.cons (.asgS (.nm 1) (.mth .split (.var 0) (.con (.str "\n")))) (.cons (.asgS (.nm 2) (.ife (.val (.prm .eq (.cons (.prm (.slo false true) (.cons (.prm .idx (.cons (.var 1) (.cons (.con (.int 0)) .nil))) (.cons (.con (.int 4)) .nil))) (.cons (.con (.str "lot ")) .nil)))) (.call 3 (.v (.prm (.slo true false) (.cons (.prm .idx (.cons (.var 1) (.cons (.con (.int 0)) .nil))) (.cons (.con (.int 4)) .nil))) .nil)) (.con .non))) (.cons (.ift (.any (.val (.prm .isN (.cons (.var 2) .nil))) (.any (.not (.val (.chain .le .le (.con (.int 1)) (.var 2) (.glo "MOST_SIZE" (.int 4))))) (.val (.prm .ne (.cons (.prm .mod (.cons (.prm .len (.cons (.var 1) .nil)) (.cons (.prm .add (.cons (.var 2) (.cons (.con (.int 1)) .nil))) .nil))) (.cons (.con (.int 1)) .nil)))))) (.cons (.retS (.con .non)) .nil) .nil) (.cons (.asg (.nm 3) (.lst .nil)) (.cons (.kil [0]) (.cons (.for (.nm 4) (.rng3 (.con (.int 1)) (.prm .len (.cons (.var 1) .nil)) (.prm .add (.cons (.var 2) (.cons (.con (.int 1)) .nil)))) (.cons (.ift (.val (.prm .ne (.cons (.prm .idx (.cons (.var 1) (.cons (.var 4) .nil))) (.cons (.con (.str "table")) .nil)))) (.cons (.retS (.con .non)) .nil) .nil) (.cons (.expr (.app 3 (.prm .tuple (.cons (.lc [5] (.nm 5) (.seq (.prm (.slo true true) (.cons (.var 1) (.cons (.prm .add (.cons (.var 4) (.cons (.con (.int 1)) .nil))) (.cons (.prm .add (.cons (.prm .add (.cons (.var 4) (.cons (.con (.int 1)) .nil))) (.cons (.var 2) .nil))) .nil))))) .yes (.call 6 (.v (.var 5) .nil))) .nil)))) (.cons (.kil [4]) .nil)))) (.cons (.ift (.any (.val (.prm .notN (.cons (.call 4 (.v (.prm .tuple (.cons (.var 3) .nil)) .nil)) .nil))) (.val (.prm .ne (.cons (.prm .len (.cons (.prm .idx (.cons (.var 3) (.cons (.con (.int 0)) .nil))) .nil)) (.cons (.var 2) .nil))))) (.cons (.retS (.con .non)) .nil) .nil) (.cons (.retS (.make 0 (.v (.prm .tuple (.cons (.var 3) .nil)) .nil))) .nil)))))))))
def d_text_lot : FDef := ⟨1, 6, t_text_lot⟩
def t_Lot_read : Ss := (.cons (.asgS (.nm 2) (.call 7 (.v (.var 1) .nil))) (.cons (.ift (.val (.prm .isN (.cons (.var 2) .nil))) (.cons .nev .nil) .nil) (.cons (.retS (.var 2)) .nil)))
def d_Lot_read : FDef := ⟨2, 3, t_Lot_read⟩
def t__law_lines : Ss := (.cons (.asgS (.nm 1) (.lst (.one (.prm .add (.cons (.con (.str "lot ")) (.cons (.prm .strI (.cons (.prm .len (.cons (.prm .idx (.cons (.var 0) (.cons (.con (.int 0)) .nil))) .nil)) .nil)) .nil))) .nil))) (.cons (.for (.nm 2) (.seq (.var 0)) (.cons (.asgS (.nm 1) (.prm .add (.cons (.prm .add (.cons (.var 1) (.cons (.lst (.one (.con (.str "table")) .nil)) .nil))) (.cons (.lc [3] (.nm 3) (.seq (.var 2)) .yes (.mth .join (.con (.str " ")) (.lc [4] (.nm 4) (.seq (.var 3)) .yes (.prm .strI (.cons (.var 4) .nil))))) .nil)))) (.cons (.kil [2]) .nil))) (.cons (.retS (.var 1)) .nil)))
def d__law_lines : FDef := ⟨1, 5, t__law_lines⟩
def t__law_sheet : Ss := (.cons (.retS (.mth .join (.con (.str "\n")) (.call 1012 (.v (.var 0) .nil)))) .nil)
def d__law_sheet : FDef := ⟨1, 1, t__law_sheet⟩
def t__law_built : Ss := (.cons (.asgS (.nm 2) (.call 1004 (.b 0 (.v (.con (.int 3)) .nil)))) (.cons (.ift (.val (.prm .eq (.cons (.var 2) (.cons (.con (.int 0)) .nil)))) (.cons (.retS (.make 0 (.v (.var 1) .nil))) .nil) .nil) (.cons (.retS (.ife (.val (.prm .eq (.cons (.var 2) (.cons (.con (.int 1)) .nil)))) (.makeP 0 [0] (.v (.var 1) .nil)) (.call 221 (.v (.con (.cls 0)) (.v (.call 1013 (.v (.var 1) .nil)) .nil))))) .nil)))
def d__law_built : FDef := ⟨2, 3, t__law_built⟩
def t_check_lot : Ss := (.cons (.ift (.not (.val (.prm (.isiC 0) (.cons (.var 0) .nil)))) (.cons .nev .nil) .nil) .nil)
def d_check_lot : FDef := ⟨1, 1, t_check_lot⟩
def t_wrong_letter : Ss := (.cons (.ift (.not (.val (.prm (.isi "tuple") (.cons (.var 1) .nil)))) (.cons (.retS (.prm .neg (.cons (.con (.int 1)) .nil))) .nil) .nil) (.cons (.for (.tp (.cons (.nm 2) (.cons (.nm 3) .nil))) (.enm (.var 1)) (.cons (.ift (.any (.val (.prm .eq (.cons (.var 2) (.cons (.glo "MOST_LETTERS" (.int 40)) .nil)))) (.any (.not (.val (.call 0 (.v (.var 3) .nil)))) (.not (.val (.chain .le .lt (.con (.int 0)) (.var 3) (.prm .len (.cons (.fld 0 0 (.var 0)) .nil))))))) (.cons (.retS (.var 2)) .nil) .nil) (.cons (.kil [2, 3]) .nil))) (.cons (.retS (.con .non)) .nil)))
def d_wrong_letter : FDef := ⟨2, 4, t_wrong_letter⟩
def t_check_word : Ss := (.cons (.asgS (.nm 2) (.call 37 (.v (.var 0) (.v (.var 1) .nil)))) (.cons (.ift (.val (.prm .notN (.cons (.var 2) .nil))) (.cons .nev .nil) .nil) .nil))
def d_check_word : FDef := ⟨2, 3, t_check_word⟩
def t_unit : Ss := (.cons (.retS (.prm .tuple (.cons (.lc [1] (.nm 1) (.rng1 (.var 0)) .yes (.prm .tuple (.cons (.lc [2] (.nm 2) (.rng1 (.var 0)) .yes (.ife (.val (.prm .eq (.cons (.var 1) (.cons (.var 2) .nil)))) (.con (.int 1)) (.con (.int 0)))) .nil))) .nil))) .nil)
def d_unit : FDef := ⟨1, 3, t_unit⟩
def t_times : Ss := (.cons (.asgS (.nm 2) (.zipS (.var 1))) (.cons (.retS (.prm .tuple (.cons (.lc [3] (.nm 3) (.seq (.var 0)) .yes (.prm .tuple (.cons (.lc [4] (.nm 4) (.seq (.var 2)) .yes (.prm .sum (.cons (.lc [5, 6] (.tp (.cons (.nm 5) (.cons (.nm 6) .nil))) (.zip (.var 3) (.var 4)) .yes (.prm .mul (.cons (.var 5) (.cons (.var 6) .nil)))) .nil))) .nil))) .nil))) .nil))
def d_times : FDef := ⟨2, 7, t_times⟩
def t_product_of : Ss := (.cons (.asgS (.nm 2) (.call 9 (.v (.prm .len (.cons (.prm .idx (.cons (.var 0) (.cons (.con (.int 0)) .nil))) .nil)) .nil))) (.cons (.for (.nm 3) (.seq (.var 1)) (.cons (.asgS (.nm 2) (.call 10 (.v (.var 2) (.v (.prm .idx (.cons (.var 0) (.cons (.var 3) .nil))) .nil)))) (.cons (.kil [3]) .nil))) (.cons (.retS (.var 2)) .nil)))
def d_product_of : FDef := ⟨2, 4, t_product_of⟩
def t_Lot_tables : Ss := (.cons (.retS (.fld 0 0 (.var 0))) .nil)
def d_Lot_tables : FDef := ⟨1, 1, t_Lot_tables⟩
def t_product : Ss := (.cons (.expr (.call 12 (.v (.var 0) .nil))) (.cons (.expr (.call 48 (.v (.var 0) (.v (.var 1) .nil)))) (.cons (.retS (.call 34 (.v (.prop 0 200 (.var 0)) (.v (.var 1) .nil)))) .nil)))
def d_product : FDef := ⟨2, 2, t_product⟩
def t_trace_of : Ss := (.cons (.retS (.prm .sum (.cons (.lc [1, 2] (.tp (.cons (.nm 1) (.cons (.nm 2) .nil))) (.enm (.var 0)) .yes (.prm .idx (.cons (.var 2) (.cons (.var 1) .nil)))) .nil))) .nil)
def d_trace_of : FDef := ⟨1, 3, t_trace_of⟩
def t_trace : Ss := (.cons (.expr (.call 12 (.v (.var 0) .nil))) (.cons (.expr (.call 48 (.v (.var 0) (.v (.var 1) .nil)))) (.cons (.retS (.call 11 (.v (.call 34 (.v (.prop 0 200 (.var 0)) (.v (.var 1) .nil))) .nil))) .nil)))
def d_trace : FDef := ⟨2, 2, t_trace⟩
def t__law_corner : Ss := (.cons (.retS (.prm .sum (.cons (.lc [1] (.nm 1) (.rng1 (.prm .len (.cons (.var 0) .nil))) .yes (.prm .idx (.cons (.prm .idx (.cons (.var 0) (.cons (.var 1) .nil))) (.cons (.var 1) .nil)))) .nil))) .nil)
def d__law_corner : FDef := ⟨1, 2, t__law_corner⟩
def t__law_right : Ss := (.cons (.for (.nm 1) (.rng1 (.con (.int 5))) (.cons (.par2 9 5 (.prm .add (.cons (.con (.int 1)) (.cons (.call 1004 (.b 0 (.v (.con (.int 4)) .nil))) .nil))) (.lst (.one (.con (.int 0)) (.one (.con (.int 1)) (.one (.con (.int 2)) .nil))))) (.cons (.asgS (.nm 3) (.prm .tuple (.cons (.lc [17] (.nm 17) (.rng1 (.var 9)) .yes (.prm .tuple (.cons (.lc [19] (.nm 19) (.rng1 (.var 9)) .yes (.call 1006 (.b 0 .nil))) .nil))) .nil))) (.cons (.asgS (.nm 4) (.lst (.one (.var 3) (.one (.call 1007 (.v (.var 9) .nil)) (.one (.prm .mul (.cons (.tup (.one (.prm .mul (.cons (.tup (.one (.con (.int 0)) .nil)) (.cons (.var 9) .nil))) .nil)) (.cons (.var 9) .nil))) .nil))))) (.cons (.asgS (.nm 5) (.lc [16] (.nm 16) (.rng1 (.con (.int 3))) .yes (.pop 5 (.call 1004 (.b 0 (.v (.prm .len (.cons (.var 5) .nil)) .nil)))))) (.cons (.shr [5]) (.cons (.par2 10 11 (.call 1014 (.b 0 (.v (.prm .tuple (.cons (.lc [16] (.nm 16) (.seq (.var 5)) .yes (.prm .idx (.cons (.var 4) (.cons (.var 16) .nil)))) .nil)) .nil))) (.make 0 (.v (.tup (.one (.var 3) .nil)) .nil))) (.cons (.kil [1, 3, 9]) (.cons (.for (.nm 6) (.rng1 (.con (.int 3))) (.cons (.asgS (.nm 12) (.prm .tuple (.cons (.lc [16] (.nm 16) (.rng1 (.con (.int 16))) .yes (.call 1005 (.b 0 (.v (.prm (.slo false true) (.cons (.lst (.one (.con (.int 0)) (.one (.con (.int 0)) (.one (.con (.int 0)) (.one (.con (.int 1)) (.one (.con (.int 1)) (.one (.con (.int 1)) (.one (.con (.int 2)) .nil)))))))) (.cons (.prm .add (.cons (.con (.int 6)) (.cons (.call 1004 (.b 0 (.v (.con (.int 2)) .nil))) .nil))) .nil))) .nil)))) .nil))) (.cons (.asgS (.nm 12) (.prm (.slo false true) (.cons (.var 12) (.cons (.call 1004 (.b 0 (.v (.con (.int 17)) .nil))) .nil)))) (.cons (.asgS (.nm 13) (.prm .tuple (.cons (.lc [18] (.nm 18) (.seq (.var 12)) .yes (.prm .index (.cons (.var 5) (.cons (.var 18) .nil)))) .nil))) (.cons (.asgS (.nm 14) (.prm .len (.cons (.lc [18] (.nm 18) (.seq (.var 12)) (.val (.prm .eq (.cons (.var 18) (.cons (.con (.int 0)) .nil)))) (.var 18)) .nil))) (.cons (.asgS (.nm 15) (.ife (.val (.prm .notIn (.cons (.con (.int 2)) (.cons (.var 12) .nil)))) (.call 58 (.v (.var 11) (.v (.prm .mul (.cons (.tup (.one (.con (.int 0)) .nil)) (.cons (.var 14) .nil))) .nil))) (.prm .idx (.cons (.var 4) (.cons (.con (.int 2)) .nil))))) (.cons (.ift (.any (.val (.prm .ne (.cons (.prm .repr (.cons (.call 58 (.v (.var 10) (.v (.var 13) .nil))) .nil)) (.cons (.prm .repr (.cons (.var 15) .nil)) .nil)))) (.val (.prm .ne (.cons (.call 50 (.v (.var 10) (.v (.var 13) .nil))) (.cons (.call 1025 (.v (.var 15) .nil)) .nil))))) (.cons (.retS (.con (.bl false))) .nil) .nil) (.cons (.kil [6, 12, 13, 14, 15]) .nil)))))))) (.cons (.kil [4, 5, 10, 11]) .nil)))))))))) (.cons (.par2 7 8 (.call 1006 (.b 0 .nil)) (.call 1006 (.b 0 .nil))) (.cons (.asgS (.nm 2) (.make 0 (.v (.tup (.one (.tup (.one (.tup (.one (.var 7) .nil)) .nil)) (.one (.tup (.one (.tup (.one (.var 8) .nil)) .nil)) .nil))) .nil))) (.cons (.retS (.andV (.prm .eq (.cons (.call 58 (.v (.var 2) (.v (.tup (.one (.con (.int 0)) (.one (.con (.int 1)) (.one (.con (.int 1)) (.one (.con (.int 0)) (.one (.con (.int 1)) .nil)))))) .nil))) (.cons (.tup (.one (.tup (.one (.prm .mul (.cons (.prm .mul (.cons (.prm .mul (.cons (.prm .mul (.cons (.var 7) (.cons (.var 7) .nil))) (.cons (.var 8) .nil))) (.cons (.var 8) .nil))) (.cons (.var 8) .nil))) .nil)) .nil)) .nil))) (.prm .eq (.cons (.call 50 (.v (.var 2) (.v (.tup (.one (.con (.int 1)) .nil)) .nil))) (.cons (.var 8) .nil))))) .nil))))
def d__law_right : FDef := ⟨1, 20, t__law_right⟩
def t__law_begun : Ss := (.cons (.asgS (.nm 2) (.ife (.val (.prm .lt (.cons (.var 1) (.cons (.prm .len (.cons (.var 0) .nil)) .nil)))) (.prm .idx (.cons (.var 0) (.cons (.var 1) .nil))) (.con (.int 0)))) (.cons (.asgS (.nm 3) (.prm .add (.cons (.con (.int 60013)) (.cons (.prm .mul (.cons (.con (.int 7727)) (.cons (.var 1) .nil))) .nil)))) (.cons (.for (.nm 4) (.seq (.prm (.slo false true) (.cons (.var 0) (.cons (.con (.int 6)) .nil)))) (.cons (.asgS (.nm 3) (.prm .mod (.cons (.prm .int (.cons (.prm .add (.cons (.prm .add (.cons (.prm .mul (.cons (.var 3) (.cons (.con (.int 30269)) .nil))) (.cons (.prm .mul (.cons (.var 4) (.cons (.con (.int 7)) .nil))) .nil))) (.cons (.con (.int 13)) .nil))) .nil)) (.cons (.con (.int 2147483629)) .nil)))) (.cons (.kil [4]) .nil))) (.cons (.ret (.lst (.one (.ife (.any (.val (.prm .lt (.cons (.var 2) (.cons (.con (.int 0)) .nil)))) (.val (.prm .ge (.cons (.var 2) (.cons (.prm .pow (.cons (.con (.int 10)) (.cons (.con (.int 18)) .nil))) .nil))))) (.prm .abs (.cons (.var 2) .nil)) (.con (.int 0))) (.one (.prm .mod (.cons (.prm .int (.cons (.prm .add (.cons (.prm .add (.cons (.prm .mul (.cons (.var 3) (.cons (.con (.int 53)) .nil))) (.cons (.prm .mul (.cons (.var 2) (.cons (.var 2) .nil))) .nil))) (.cons (.prm .mul (.cons (.con (.int 17)) (.cons (.var 1) .nil))) .nil))) .nil)) (.cons (.con (.int 2147483629)) .nil))) (.one (.con (.int 0)) .nil))))) .nil))))
def d__law_begun : FDef := ⟨2, 5, t__law_begun⟩
def t_law : Ss := (.cons (.retS (.prm .all (.cons (.lc [1] (.nm 1) (.rng1 (.prm .max2 (.cons (.con (.int 2)) (.cons (.prm .min2 (.cons (.prm .len (.cons (.var 0) .nil)) (.cons (.con (.int 5)) .nil))) .nil)))) .yes (.callO 1026 (.call 1027 (.v (.var 0) (.v (.var 1) .nil))))) .nil))) .nil)
def d_law : FDef := ⟨1, 2, t_law⟩
def tab : Tab := ⟨[(0, d_is_integer), (1, d_are_integers), (2, d_is_table), (4, d_wrong_table), (1004, d__law_cast), (1005, d__law_any_of), (1006, d__law_number), (1007, d__law_one), (3, d_written_integer), (6, d_text_row), (7, d_text_lot), (221, d_Lot_read), (1012, d__law_lines), (1013, d__law_sheet), (1014, d__law_built), (12, d_check_lot), (37, d_wrong_letter), (48, d_check_word), (9, d_unit), (10, d_times), (34, d_product_of), (200, d_Lot_tables), (58, d_product), (11, d_trace_of), (50, d_trace), (1025, d__law_corner), (1026, d__law_right), (1027, d__law_begun), (1028, d_law)], [(0, d_Lot_init)], []⟩
/-! ### what of the text the bodies ask -/
structure Tx (W : Wo) (k : Nat) : Prop where
  f_is_integer : Fd W k "is_integer" 0
  f_are_integers : Fd W k "are_integers" 1
  f_is_table : Fd W k "is_table" 2
  f_wrong_table : Fd W k "wrong_table" 4
  f__law_cast : Fd W k "_law_cast" 1004
  f__law_any_of : Fd W k "_law_any_of" 1005
  f__law_number : Fd W k "_law_number" 1006
  f__law_one : Fd W k "_law_one" 1007
  f_written_integer : Fd W k "written_integer" 3
  f_text_row : Fd W k "text_row" 6
  f_text_lot : Fd W k "text_lot" 7
  cd_Lot_read : Cd W k "Lot" "read" 0 221
  f__law_lines : Fd W k "_law_lines" 1012
  f__law_sheet : Fd W k "_law_sheet" 1013
  f__law_built : Fd W k "_law_built" 1014
  f_check_lot : Fd W k "check_lot" 12
  f_wrong_letter : Fd W k "wrong_letter" 37
  f_check_word : Fd W k "check_word" 48
  f_unit : Fd W k "unit" 9
  f_times : Fd W k "times" 10
  f_product_of : Fd W k "product_of" 34
  p_Lot_tables : Pd W k 0 "tables" 200
  f_product : Fd W k "product" 58
  f_trace_of : Fd W k "trace_of" 11
  f_trace : Fd W k "trace" 50
  f__law_corner : Fd W k "_law_corner" 1025
  f__law_right : Fd W k "_law_right" 1026
  f__law_begun : Fd W k "_law_begun" 1027
  f_law : Fd W k "law" 1028
  mk_Lot_tables : Mk0 W k "Lot" 0 ["tables"] [0]
  m_Lot : Md W k "Lot" 0
  l_Lot : 0 < W.Z.nc
  g_Lot : W.mg "Lot" = some (.ref (W.Z.C 0))
  s_Lot_own_tables : Sd W 0 "own_tables" 0
  co : Co W.Z W.Z.nc
  n_abs : W.mg "abs" = none
  n_all : W.mg "all" = none
  n_bool : W.mg "bool" = none
  n_divmod : W.mg "divmod" = none
  n_enumerate : W.mg "enumerate" = none
  n_int : W.mg "int" = none
  n_isinstance : W.mg "isinstance" = none
  n_len : W.mg "len" = none
  n_list : W.mg "list" = none
  n_max : W.mg "max" = none
  n_min : W.mg "min" = none
  n_range : W.mg "range" = none
  n_repr : W.mg "repr" = none
  n_str : W.mg "str" = none
  n_sum : W.mg "sum" = none
  n_tuple : W.mg "tuple" = none
  n_zip : W.mg "zip" = none
  x_DIGITS : ∃ t, W.mg "DIGITS" = some (.str "0123456789" t)
  x_MOST_LETTERS : ∃ t, W.mg "MOST_LETTERS" = some (.int 40 t)
  x_MOST_NUMBER : ∃ t, W.mg "MOST_NUMBER" = some (.int 1000000 t)
  x_MOST_SIZE : ∃ t, W.mg "MOST_SIZE" = some (.int 4 t)
  x_MOST_TABLES : ∃ t, W.mg "MOST_TABLES" = some (.int 3 t)
noncomputable def Tx.t_DIGITS {W : Wo} {k : Nat} (T : Tx W k) : Tok := T.x_DIGITS.choose
theorem Tx.c_DIGITS {W : Wo} {k : Nat} (T : Tx W k) : W.mg "DIGITS" = some (.str "0123456789" T.t_DIGITS) := T.x_DIGITS.choose_spec
noncomputable def Tx.t_MOST_LETTERS {W : Wo} {k : Nat} (T : Tx W k) : Tok := T.x_MOST_LETTERS.choose
theorem Tx.c_MOST_LETTERS {W : Wo} {k : Nat} (T : Tx W k) : W.mg "MOST_LETTERS" = some (.int 40 T.t_MOST_LETTERS) := T.x_MOST_LETTERS.choose_spec
noncomputable def Tx.t_MOST_NUMBER {W : Wo} {k : Nat} (T : Tx W k) : Tok := T.x_MOST_NUMBER.choose
theorem Tx.c_MOST_NUMBER {W : Wo} {k : Nat} (T : Tx W k) : W.mg "MOST_NUMBER" = some (.int 1000000 T.t_MOST_NUMBER) := T.x_MOST_NUMBER.choose_spec
noncomputable def Tx.t_MOST_SIZE {W : Wo} {k : Nat} (T : Tx W k) : Tok := T.x_MOST_SIZE.choose
theorem Tx.c_MOST_SIZE {W : Wo} {k : Nat} (T : Tx W k) : W.mg "MOST_SIZE" = some (.int 4 T.t_MOST_SIZE) := T.x_MOST_SIZE.choose_spec
noncomputable def Tx.t_MOST_TABLES {W : Wo} {k : Nat} (T : Tx W k) : Tok := T.x_MOST_TABLES.choose
theorem Tx.c_MOST_TABLES {W : Wo} {k : Nat} (T : Tx W k) : W.mg "MOST_TABLES" = some (.int 3 T.t_MOST_TABLES) := T.x_MOST_TABLES.choose_spec
theorem sc_is_integer : FnScope ["value"] ["value"] (defScope s_is_integer) := ⟨rfl, rfl, rfl, by decide +kernel, rfl, by decide +kernel, by decide +kernel⟩
theorem b_is_integer {W : Wo} [Calm W] {k : Nat} {f : Addr} (T : Tx W k) (cdv : Value) (A : Around) (outer : List Env) (s : Shared) (H : Hp) (E : XK) (g : Gd W (k + 3) (cxF W ["value"] "is_integer" (defScope s_is_integer) f cdv A outer s H E) E) : MSs W (cxF W ["value"] "is_integer" (defScope s_is_integer) f cdv A outer s H E) E (defBody s_is_integer) d_is_integer.body :=
  (mss_cons (ms_retS (me_and (me_isInt g T.co T.n_isinstance T.n_int (me_var 0)) (me_one (me_not g (me_isBool g T.co T.n_isinstance T.n_bool (me_var 0)))))) mss_nil)
theorem sc_are_integers : FnScope ["value", "many", "part"] ["value", "many"] (defScope s_are_integers) := ⟨rfl, rfl, rfl, by decide +kernel, rfl, by decide +kernel, by decide +kernel⟩
theorem b_are_integers {W : Wo} [Calm W] {k : Nat} {f : Addr} (T : Tx W k) (cdv : Value) (A : Around) (outer : List Env) (s : Shared) (H : Hp) (E : XK) (g : Gd W (k + 3) (cxF W ["value", "many", "part"] "are_integers" (defScope s_are_integers) f cdv A outer s H E) E) : MSs W (cxF W ["value", "many", "part"] "are_integers" (defScope s_are_integers) f cdv A outer s H E) E (defBody s_are_integers) d_are_integers.body :=
  (mss_cons (ms_retS (me_and (me_isTuple g T.co T.n_isinstance T.n_tuple (me_var 0)) (me_and (me_cmp (cm_eq g) (me_len g T.n_len (me_var 0)) (me_var 1)) (me_one (me_all g T.n_all (me_lc [("part", 2)] g (mi_seq g (me_var 0)) (fun _ _ _ _ _ g => (ml_nm g 2)) (fun _ _ _ _ _ g => mts_nil) (fun _ _ _ _ _ g => (me_call g T.f_is_integer (mg_v (me_var 2) mg_nil))))))))) mss_nil)
theorem sc_is_table : FnScope ["value", "row", "part"] ["value"] (defScope s_is_table) := ⟨rfl, rfl, rfl, by decide +kernel, rfl, by decide +kernel, by decide +kernel⟩
theorem b_is_table {W : Wo} [Calm W] {k : Nat} {f : Addr} (T : Tx W k) (cdv : Value) (A : Around) (outer : List Env) (s : Shared) (H : Hp) (E : XK) (g : Gd W (k + 3) (cxF W ["value", "row", "part"] "is_table" (defScope s_is_table) f cdv A outer s H E) E) : MSs W (cxF W ["value", "row", "part"] "is_table" (defScope s_is_table) f cdv A outer s H E) E (defBody s_is_table) d_is_table.body :=
  (mss_cons (ms_ift (mt_w (mw_or (mt_not (mt_val g (me_isTuple g T.co T.n_isinstance T.n_tuple (me_var 0)))) (mw_or1 (mt_not (mt_chain ci_le ci_le me_int (me_len g T.n_len (me_var 0)) (me_gInt g T.c_MOST_SIZE)))))) (mss_cons (ms_retS me_bl) mss_nil) mss_nil) (mss_cons (ms_ift (mt_not (mt_val g (me_all g T.n_all (me_lc [("row", 1)] g (mi_seq g (me_var 0)) (fun _ _ _ _ _ g => (ml_nm g 1)) (fun _ _ _ _ _ g => mts_nil) (fun _ _ _ _ _ g => (me_call g T.f_are_integers (mg_v (me_var 1) (mg_v (me_len g T.n_len (me_var 0)) mg_nil)))))))) (mss_cons (ms_retS me_bl) mss_nil) mss_nil) (mss_cons (ms_retS (me_all g T.n_all (me_lc2 [("row", 1), ("part", 2)] [2] g (mi_seq g (me_var 0)) (fun _ _ _ _ _ g => (ml_nm g 1)) (fun _ _ _ _ _ g => mts_nil) (fun _ _ _ _ _ g => (mi_seq g (me_var 1))) (fun _ _ _ _ _ g => (ml_nm g 2)) (fun _ _ _ _ _ g => mts_nil) (fun _ _ _ _ _ g => (me_cmp cm_le (me_abs g T.n_abs (me_var 2)) (me_gInt g T.c_MOST_NUMBER)))))) mss_nil)))
theorem sc_wrong_table : FnScope ["value", "at", "table"] ["value"] (defScope s_wrong_table) := ⟨rfl, rfl, rfl, by decide +kernel, rfl, by decide +kernel, by decide +kernel⟩
theorem b_wrong_table {W : Wo} [Calm W] {k : Nat} {f : Addr} (T : Tx W k) (cdv : Value) (A : Around) (outer : List Env) (s : Shared) (H : Hp) (E : XK) (g : Gd W (k + 3) (cxF W ["value", "at", "table"] "wrong_table" (defScope s_wrong_table) f cdv A outer s H E) E) : MSs W (cxF W ["value", "at", "table"] "wrong_table" (defScope s_wrong_table) f cdv A outer s H E) E (defBody s_wrong_table) d_wrong_table.body :=
  (mss_cons (ms_ift (mt_w (mw_or (mt_not (mt_val g (me_isTuple g T.co T.n_isinstance T.n_tuple (me_var 0)))) (mw_or1 (mt_cmp (cm_eq g) (me_len g T.n_len (me_var 0)) me_int)))) (mss_cons (ms_retS (me_neg me_int)) mss_nil) mss_nil) (mss_cons (ms_for g po_cx (mi_enm g T.n_enumerate (me_var 0)) (ml_tp g (mls_cons (ml_nm g 1) (mls_cons (ml_nm g 2) mls_nil))) (mss_cons (ms_ift (mt_w (mw_or (mt_cmp (cm_eq g) (me_var 1) (me_gInt g T.c_MOST_TABLES)) (mw_or (mt_not (mt_val g (me_call g T.f_is_table (mg_v (me_var 2) mg_nil)))) (mw_or1 (mt_cmp (cm_ne g) (me_len g T.n_len (me_var 2)) (me_len g T.n_len (me_idx (me_var 0) me_int g))))))) (mss_cons (ms_retS (me_var 1)) mss_nil) mss_nil) (mss_kil mss_nil))) (mss_cons (ms_retS me_non) mss_nil)))
theorem sc_Lot_init : FnScope ["self", "tables", "at"] ["self", "tables"] (defScope s_Lot_init) := ⟨rfl, rfl, rfl, by decide +kernel, rfl, by decide +kernel, by decide +kernel⟩
theorem b_Lot_init {W : Wo} [Calm W] {k : Nat} {f : Addr} (T : Tx W k) (cdv : Value) (A : Around) (outer : List Env) (s : Shared) (H : Hp) (E : XK) (g : Gd W (k + 3) (cxF W ["self", "tables", "at"] "Lot.__init__" (defScope s_Lot_init) f cdv A outer s H E) E) : MC W (cxF W ["self", "tables", "at"] "Lot.__init__" (defScope s_Lot_init) f cdv A outer s H E) E (W.Z.C 0) (defBody s_Lot_init) d_Lot_init.pre d_Lot_init.fs :=
  (mc_cons (ms_asgS (me_call g T.f_wrong_table (mg_v (me_var 1) mg_nil)) (ml_nm g 2)) (mc_cons (ms_ift (mt_notN (me_var 2)) (mss_cons ms_nev mss_nil) mss_nil) (mc_nil g T.s_Lot_own_tables (me_var 1))))
theorem sc__law_cast : FnScope ["_law_pail", "_law_many", "_law_state", "_law_figure"] ["_law_pail", "_law_many"] (defScope s__law_cast) := ⟨rfl, rfl, rfl, by decide +kernel, rfl, by decide +kernel, by decide +kernel⟩
theorem b__law_cast {W : Wo} [Calm W] {k : Nat} {f : Addr} (T : Tx W k) (cdv : Value) (A : Around) (outer : List Env) (s : Shared) (H : Hp) (E : XK) (g : Gd W (k + 3) (cxF W ["_law_pail", "_law_many", "_law_state", "_law_figure"] "_law_cast" (defScope s__law_cast) f cdv A outer s H E) E) : MSs W (cxF W ["_law_pail", "_law_many", "_law_state", "_law_figure"] "_law_cast" (defScope s__law_cast) f cdv A outer s H E) E (defBody s__law_cast) d__law_cast.body :=
  (mss_cons (ms_ift (mt_cmp cm_gt (me_idx (me_var 0) me_int g) me_int) (mss_cons (ms_asgS (me_divmod g T.n_divmod (me_idx (me_var 0) me_int g) (me_var 1)) (ml_tp g (mls_cons (ml_sub g 0 me_int) (mls_cons (ml_nm g 3) mls_nil)))) (mss_cons (ms_retS (me_var 3)) mss_nil)) mss_nil) (mss_cons (ms_asgS (me_add (me_idx (me_var 0) me_int g) me_int g) (ml_sub g 0 me_int)) (mss_cons (ms_asgS (me_mod (me_toInt g T.n_int (me_add (me_add (me_mul (me_idx (me_var 0) me_int g) (me_add me_int (me_mul me_int (me_idx (me_var 0) me_int g) g) g) g) (me_mul me_int (me_idx (me_var 0) me_int g) g) g) me_int g)) me_int) (ml_nm g 2)) (mss_cons (ms_asgS (me_mod (me_toInt g T.n_int (me_add (me_add (me_mul (me_var 2) me_int g) (me_mul me_int (me_idx (me_var 0) me_int g) g) g) me_int g)) me_int) (ml_sub g 0 me_int)) (mss_cons (ms_retS (me_mod (me_toInt g T.n_int (me_fdiv (me_idx (me_var 0) me_int g) me_int)) (me_var 1))) mss_nil)))))
theorem sc__law_any_of : FnScope ["_law_pail", "_law_some"] ["_law_pail", "_law_some"] (defScope s__law_any_of) := ⟨rfl, rfl, rfl, by decide +kernel, rfl, by decide +kernel, by decide +kernel⟩
theorem b__law_any_of {W : Wo} [Calm W] {k : Nat} {f : Addr} (T : Tx W k) (cdv : Value) (A : Around) (outer : List Env) (s : Shared) (H : Hp) (E : XK) (g : Gd W (k + 3) (cxF W ["_law_pail", "_law_some"] "_law_any_of" (defScope s__law_any_of) f cdv A outer s H E) E) : MSs W (cxF W ["_law_pail", "_law_some"] "_law_any_of" (defScope s__law_any_of) f cdv A outer s H E) E (defBody s__law_any_of) d__law_any_of.body :=
  (mss_cons (ms_retS (me_idx (me_var 1) (me_call g T.f__law_cast (mg_b 0 (mg_v (me_len g T.n_len (me_var 1)) mg_nil))) g)) mss_nil)
theorem sc__law_number : FnScope ["_law_pail", "_law_way"] ["_law_pail"] (defScope s__law_number) := ⟨rfl, rfl, rfl, by decide +kernel, rfl, by decide +kernel, by decide +kernel⟩
theorem b__law_number {W : Wo} [Calm W] {k : Nat} {f : Addr} (T : Tx W k) (cdv : Value) (A : Around) (outer : List Env) (s : Shared) (H : Hp) (E : XK) (g : Gd W (k + 3) (cxF W ["_law_pail", "_law_way"] "_law_number" (defScope s__law_number) f cdv A outer s H E) E) : MSs W (cxF W ["_law_pail", "_law_way"] "_law_number" (defScope s__law_number) f cdv A outer s H E) E (defBody s__law_number) d__law_number.body :=
  (mss_cons (ms_asgS (me_call g T.f__law_cast (mg_b 0 (mg_v me_int mg_nil))) (ml_nm g 1)) (mss_cons (ms_ift (mt_cmp cm_lt (me_var 1) me_int) (mss_cons (ms_retS (me_sub (me_call g T.f__law_cast (mg_b 0 (mg_v me_int mg_nil))) me_int)) mss_nil) mss_nil) (mss_cons (ms_ift (mt_cmp (cm_eq g) (me_var 1) me_int) (mss_cons (ms_retS (me_call g T.f__law_any_of (mg_b 0 (mg_v (me_lst (ma_one (me_pow me_int me_int) (ma_one (me_neg (me_pow me_int me_int)) (ma_one me_int (ma_one me_int ma_nil))))) mg_nil)))) mss_nil) mss_nil) (mss_cons (ms_retS (me_ife (mt_cmp (cm_eq g) (me_var 1) me_int) (me_sub (me_call g T.f__law_cast (mg_b 0 (mg_v me_int mg_nil))) me_int) (me_sub (me_call g T.f__law_cast (mg_b 0 (mg_v (me_add (me_mul me_int (me_pow me_int me_int) g) me_int g) mg_nil))) (me_pow me_int me_int)))) mss_nil))))
theorem sc__law_one : FnScope ["_law_size", "_law_i", "_law_j"] ["_law_size"] (defScope s__law_one) := ⟨rfl, rfl, rfl, by decide +kernel, rfl, by decide +kernel, by decide +kernel⟩
theorem b__law_one {W : Wo} [Calm W] {k : Nat} {f : Addr} (T : Tx W k) (cdv : Value) (A : Around) (outer : List Env) (s : Shared) (H : Hp) (E : XK) (g : Gd W (k + 3) (cxF W ["_law_size", "_law_i", "_law_j"] "_law_one" (defScope s__law_one) f cdv A outer s H E) E) : MSs W (cxF W ["_law_size", "_law_i", "_law_j"] "_law_one" (defScope s__law_one) f cdv A outer s H E) E (defBody s__law_one) d__law_one.body :=
  (mss_cons (ms_retS (me_tuple g T.n_tuple (me_lc [("_law_i", 1)] g (mi_rng1 g T.n_range (me_var 0)) (fun _ _ _ _ _ g => (ml_nm g 1)) (fun _ _ _ _ _ g => mts_nil) (fun _ _ _ _ _ g => (me_tuple g T.n_tuple (me_lc [("_law_j", 2)] g (mi_rng1 g T.n_range (me_var 0)) (fun _ _ _ _ _ g => (ml_nm g 2)) (fun _ _ _ _ _ g => mts_nil) (fun _ _ _ _ _ g => (me_toInt g T.n_int (me_cmp (cm_eq g) (me_var 1) (me_var 2)))))))))) mss_nil)
theorem sc_written_integer : FnScope ["word", "digits", "sign"] ["word"] (defScope s_written_integer) := ⟨rfl, rfl, rfl, by decide +kernel, rfl, by decide +kernel, by decide +kernel⟩
theorem b_written_integer {W : Wo} [Calm W] {k : Nat} {f : Addr} (T : Tx W k) (cdv : Value) (A : Around) (outer : List Env) (s : Shared) (H : Hp) (E : XK) (g : Gd W (k + 3) (cxF W ["word", "digits", "sign"] "written_integer" (defScope s_written_integer) f cdv A outer s H E) E) : MSs W (cxF W ["word", "digits", "sign"] "written_integer" (defScope s_written_integer) f cdv A outer s H E) E (defBody s_written_integer) d_written_integer.body :=
  (mss_cons (ms_asgS (me_ife (mt_cmp (cm_eq g) (me_slo01 (me_var 0) me_int g) me_str) (me_slo10 (me_var 0) me_int g) (me_var 0)) (ml_nm g 1)) (mss_cons (ms_ift (mt_w (mw_or (mt_cmp (cm_eq g) (me_var 1) me_str) (mw_or (mt_cmp cm_gt (me_len g T.n_len (me_var 1)) me_int) (mw_or1 (mt_not (mt_val g (me_all g T.n_all (me_lc [("sign", 2)] g (mi_seq g (me_var 1)) (fun _ _ _ _ _ g => (ml_nm g 2)) (fun _ _ _ _ _ g => mts_nil) (fun _ _ _ _ _ g => (me_cmp (cm_in g) (me_var 2) (me_gStr g T.c_DIGITS))))))))))) (mss_cons (ms_retS me_non) mss_nil) mss_nil) (mss_cons (ms_retS (me_ife (mt_cmp (cm_eq g) (me_strI g T.n_str (me_toInt g T.n_int (me_var 0))) (me_var 0)) (me_toInt g T.n_int (me_var 0)) me_non)) mss_nil)))
theorem sc_text_row : FnScope ["line", "word"] ["line"] (defScope s_text_row) := ⟨rfl, rfl, rfl, by decide +kernel, rfl, by decide +kernel, by decide +kernel⟩
theorem b_text_row {W : Wo} [Calm W] {k : Nat} {f : Addr} (T : Tx W k) (cdv : Value) (A : Around) (outer : List Env) (s : Shared) (H : Hp) (E : XK) (g : Gd W (k + 3) (cxF W ["line", "word"] "text_row" (defScope s_text_row) f cdv A outer s H E) E) : MSs W (cxF W ["line", "word"] "text_row" (defScope s_text_row) f cdv A outer s H E) E (defBody s_text_row) d_text_row.body :=
  (mss_cons (ms_retS (me_tuple g T.n_tuple (me_lc [("word", 1)] g (mi_seq g (me_split g (me_var 0) me_str)) (fun _ _ _ _ _ g => (ml_nm g 1)) (fun _ _ _ _ _ g => mts_nil) (fun _ _ _ _ _ g => (me_call g T.f_written_integer (mg_v (me_var 1) mg_nil)))))) mss_nil)
theorem sc_text_lot : FnScope ["value", "lines", "size", "tables", "begin", "line"] ["value"] (defScope s_text_lot) := ⟨rfl, rfl, rfl, by decide +kernel, rfl, by decide +kernel, by decide +kernel⟩
theorem b_text_lot {W : Wo} [Calm W] {k : Nat} {f : Addr} (T : Tx W k) (cdv : Value) (A : Around) (outer : List Env) (s : Shared) (H : Hp) (E : XK) (g : Gd W (k + 3) (cxF W ["value", "lines", "size", "tables", "begin", "line"] "text_lot" (defScope s_text_lot) f cdv A outer s H E) E) : MSs W (cxF W ["value", "lines", "size", "tables", "begin", "line"] "text_lot" (defScope s_text_lot) f cdv A outer s H E) E (defBody s_text_lot) d_text_lot.body :=
  (mss_cons (ms_ift (mt_not (mt_val g (me_isStr g T.co T.n_isinstance T.n_str (me_var 0)))) (mss_cons (ms_retS me_non) mss_nil) mss_nil) (mss_cons (ms_asgS (me_split g (me_var 0) me_str) (ml_nm g 1)) (mss_cons (ms_asgS (me_ife (mt_cmp (cm_eq g) (me_slo01 (me_idx (me_var 1) me_int g) me_int g) me_str) (me_call g T.f_written_integer (mg_v (me_slo10 (me_idx (me_var 1) me_int g) me_int g) mg_nil)) me_non) (ml_nm g 2)) (mss_cons (ms_ift (mt_w (mw_or (mt_isN (me_var 2)) (mw_or (mt_not (mt_chain ci_le ci_le me_int (me_var 2) (me_gInt g T.c_MOST_SIZE))) (mw_or1 (mt_cmp (cm_ne g) (me_mod (me_len g T.n_len (me_var 1)) (me_add (me_var 2) me_int g)) me_int))))) (mss_cons (ms_retS me_non) mss_nil) mss_nil) (mss_cons (ms_asg (me_lst ma_nil) (ml_nm g 3)) (mss_kil (mss_cons (ms_for g po_cx (mi_rng3 g T.n_range me_int (me_len g T.n_len (me_var 1)) (me_add (me_var 2) me_int g)) (ml_nm g 4) (mss_cons (ms_ift (mt_cmp (cm_ne g) (me_idx (me_var 1) (me_var 4) g) me_str) (mss_cons (ms_retS me_non) mss_nil) mss_nil) (mss_cons (ms_expr (me_app g 3 (me_tuple g T.n_tuple (me_lc [("line", 5)] g (mi_seq g (me_slo11 (me_var 1) (me_add (me_var 4) me_int g) (me_add (me_add (me_var 4) me_int g) (me_var 2) g) g)) (fun _ _ _ _ _ g => (ml_nm g 5)) (fun _ _ _ _ _ g => mts_nil) (fun _ _ _ _ _ g => (me_call g T.f_text_row (mg_v (me_var 5) mg_nil))))))) (mss_kil mss_nil)))) (mss_cons (ms_ift (mt_w (mw_or (mt_notN (me_call g T.f_wrong_table (mg_v (me_tuple g T.n_tuple (me_var 3)) mg_nil))) (mw_or1 (mt_cmp (cm_ne g) (me_len g T.n_len (me_idx (me_var 3) me_int g)) (me_var 2))))) (mss_cons (ms_retS me_non) mss_nil) mss_nil) (mss_cons (ms_retS (me_make g T.m_Lot (mg_v (me_tuple g T.n_tuple (me_var 3)) mg_nil))) mss_nil)))))))))
theorem sc_Lot_read : FnScope ["cls", "text", "lot"] ["cls", "text"] (defScope s_Lot_read) := ⟨rfl, rfl, rfl, by decide +kernel, rfl, by decide +kernel, by decide +kernel⟩
theorem b_Lot_read {W : Wo} [Calm W] {k : Nat} {f : Addr} (T : Tx W k) (cdv : Value) (A : Around) (outer : List Env) (s : Shared) (H : Hp) (E : XK) (g : Gd W (k + 3) (cxF W ["cls", "text", "lot"] "Lot.read" (defScope s_Lot_read) f cdv A outer s H E) E) : MSs W (cxF W ["cls", "text", "lot"] "Lot.read" (defScope s_Lot_read) f cdv A outer s H E) E (defBody s_Lot_read) d_Lot_read.body :=
  (mss_cons (ms_asgS (me_call g T.f_text_lot (mg_v (me_var 1) mg_nil)) (ml_nm g 2)) (mss_cons (ms_ift (mt_isN (me_var 2)) (mss_cons ms_nev mss_nil) mss_nil) (mss_cons (ms_retS (me_var 2)) mss_nil)))
theorem sc__law_lines : FnScope ["_law_grids", "_law_lines_here", "_law_grid", "_law_line", "_law_each"] ["_law_grids"] (defScope s__law_lines) := ⟨rfl, rfl, rfl, by decide +kernel, rfl, by decide +kernel, by decide +kernel⟩
theorem b__law_lines {W : Wo} [Calm W] {k : Nat} {f : Addr} (T : Tx W k) (cdv : Value) (A : Around) (outer : List Env) (s : Shared) (H : Hp) (E : XK) (g : Gd W (k + 3) (cxF W ["_law_grids", "_law_lines_here", "_law_grid", "_law_line", "_law_each"] "_law_lines" (defScope s__law_lines) f cdv A outer s H E) E) : MSs W (cxF W ["_law_grids", "_law_lines_here", "_law_grid", "_law_line", "_law_each"] "_law_lines" (defScope s__law_lines) f cdv A outer s H E) E (defBody s__law_lines) d__law_lines.body :=
  (mss_cons (ms_asgS (me_lst (ma_one (me_add me_str (me_strI g T.n_str (me_len g T.n_len (me_idx (me_var 0) me_int g))) g) ma_nil)) (ml_nm g 1)) (mss_cons (ms_for g po_cx (mi_seq g (me_var 0)) (ml_nm g 2) (mss_cons (ms_asgS (me_add (me_add (me_var 1) (me_lst (ma_one me_str ma_nil)) g) (me_lc [("_law_line", 3)] g (mi_seq g (me_var 2)) (fun _ _ _ _ _ g => (ml_nm g 3)) (fun _ _ _ _ _ g => mts_nil) (fun _ _ _ _ _ g => (me_join g me_str (me_lc [("_law_each", 4)] g (mi_seq g (me_var 3)) (fun _ _ _ _ _ g => (ml_nm g 4)) (fun _ _ _ _ _ g => mts_nil) (fun _ _ _ _ _ g => (me_strI g T.n_str (me_var 4))))))) g) (ml_nm g 1)) (mss_kil mss_nil))) (mss_cons (ms_retS (me_var 1)) mss_nil)))
theorem sc__law_sheet : FnScope ["_law_grids"] ["_law_grids"] (defScope s__law_sheet) := ⟨rfl, rfl, rfl, by decide +kernel, rfl, by decide +kernel, by decide +kernel⟩
theorem b__law_sheet {W : Wo} [Calm W] {k : Nat} {f : Addr} (T : Tx W k) (cdv : Value) (A : Around) (outer : List Env) (s : Shared) (H : Hp) (E : XK) (g : Gd W (k + 3) (cxF W ["_law_grids"] "_law_sheet" (defScope s__law_sheet) f cdv A outer s H E) E) : MSs W (cxF W ["_law_grids"] "_law_sheet" (defScope s__law_sheet) f cdv A outer s H E) E (defBody s__law_sheet) d__law_sheet.body :=
  (mss_cons (ms_retS (me_join g me_str (me_call g T.f__law_lines (mg_v (me_var 0) mg_nil)))) mss_nil)
theorem sc__law_built : FnScope ["_law_pail", "_law_grids", "_law_way"] ["_law_pail", "_law_grids"] (defScope s__law_built) := ⟨rfl, rfl, rfl, by decide +kernel, rfl, by decide +kernel, by decide +kernel⟩
theorem b__law_built {W : Wo} [Calm W] {k : Nat} {f : Addr} (T : Tx W k) (cdv : Value) (A : Around) (outer : List Env) (s : Shared) (H : Hp) (E : XK) (g : Gd W (k + 3) (cxF W ["_law_pail", "_law_grids", "_law_way"] "_law_built" (defScope s__law_built) f cdv A outer s H E) E) : MSs W (cxF W ["_law_pail", "_law_grids", "_law_way"] "_law_built" (defScope s__law_built) f cdv A outer s H E) E (defBody s__law_built) d__law_built.body :=
  (mss_cons (ms_asgS (me_call g T.f__law_cast (mg_b 0 (mg_v me_int mg_nil))) (ml_nm g 2)) (mss_cons (ms_ift (mt_cmp (cm_eq g) (me_var 2) me_int) (mss_cons (ms_retS (me_make g T.m_Lot (mg_v (me_var 1) mg_nil))) mss_nil) mss_nil) (mss_cons (ms_retS (me_ife (mt_cmp (cm_eq g) (me_var 2) me_int) (me_makeP0 g T.mk_Lot_tables (mks_cons (me_var 1) mks_nil)) (me_cls g T.cd_Lot_read (mg_v (me_call g T.f__law_sheet (mg_v (me_var 1) mg_nil)) mg_nil)))) mss_nil)))
theorem sc_check_lot : FnScope ["value"] ["value"] (defScope s_check_lot) := ⟨rfl, rfl, rfl, by decide +kernel, rfl, by decide +kernel, by decide +kernel⟩
theorem b_check_lot {W : Wo} [Calm W] {k : Nat} {f : Addr} (T : Tx W k) (cdv : Value) (A : Around) (outer : List Env) (s : Shared) (H : Hp) (E : XK) (g : Gd W (k + 3) (cxF W ["value"] "check_lot" (defScope s_check_lot) f cdv A outer s H E) E) : MSs W (cxF W ["value"] "check_lot" (defScope s_check_lot) f cdv A outer s H E) E (defBody s_check_lot) d_check_lot.body :=
  (mss_cons (ms_ift (mt_not (mt_val g (me_isiC g T.co T.l_Lot T.n_isinstance T.g_Lot (me_var 0)))) (mss_cons ms_nev mss_nil) mss_nil) mss_nil)
theorem sc_wrong_letter : FnScope ["lot", "value", "at", "index"] ["lot", "value"] (defScope s_wrong_letter) := ⟨rfl, rfl, rfl, by decide +kernel, rfl, by decide +kernel, by decide +kernel⟩
theorem b_wrong_letter {W : Wo} [Calm W] {k : Nat} {f : Addr} (T : Tx W k) (cdv : Value) (A : Around) (outer : List Env) (s : Shared) (H : Hp) (E : XK) (g : Gd W (k + 3) (cxF W ["lot", "value", "at", "index"] "wrong_letter" (defScope s_wrong_letter) f cdv A outer s H E) E) : MSs W (cxF W ["lot", "value", "at", "index"] "wrong_letter" (defScope s_wrong_letter) f cdv A outer s H E) E (defBody s_wrong_letter) d_wrong_letter.body :=
  (mss_cons (ms_ift (mt_not (mt_val g (me_isTuple g T.co T.n_isinstance T.n_tuple (me_var 1)))) (mss_cons (ms_retS (me_neg me_int)) mss_nil) mss_nil) (mss_cons (ms_for g po_cx (mi_enm g T.n_enumerate (me_var 1)) (ml_tp g (mls_cons (ml_nm g 2) (mls_cons (ml_nm g 3) mls_nil))) (mss_cons (ms_ift (mt_w (mw_or (mt_cmp (cm_eq g) (me_var 2) (me_gInt g T.c_MOST_LETTERS)) (mw_or (mt_not (mt_val g (me_call g T.f_is_integer (mg_v (me_var 3) mg_nil)))) (mw_or1 (mt_not (mt_chain ci_le ci_lt me_int (me_var 3) (me_len g T.n_len (me_fld g T.s_Lot_own_tables (me_var 0))))))))) (mss_cons (ms_retS (me_var 2)) mss_nil) mss_nil) (mss_kil mss_nil))) (mss_cons (ms_retS me_non) mss_nil)))
theorem sc_check_word : FnScope ["lot", "value", "at"] ["lot", "value"] (defScope s_check_word) := ⟨rfl, rfl, rfl, by decide +kernel, rfl, by decide +kernel, by decide +kernel⟩
theorem b_check_word {W : Wo} [Calm W] {k : Nat} {f : Addr} (T : Tx W k) (cdv : Value) (A : Around) (outer : List Env) (s : Shared) (H : Hp) (E : XK) (g : Gd W (k + 3) (cxF W ["lot", "value", "at"] "check_word" (defScope s_check_word) f cdv A outer s H E) E) : MSs W (cxF W ["lot", "value", "at"] "check_word" (defScope s_check_word) f cdv A outer s H E) E (defBody s_check_word) d_check_word.body :=
  (mss_cons (ms_asgS (me_call g T.f_wrong_letter (mg_v (me_var 0) (mg_v (me_var 1) mg_nil))) (ml_nm g 2)) (mss_cons (ms_ift (mt_notN (me_var 2)) (mss_cons ms_nev mss_nil) mss_nil) mss_nil))
theorem sc_unit : FnScope ["size", "row", "column"] ["size"] (defScope s_unit) := ⟨rfl, rfl, rfl, by decide +kernel, rfl, by decide +kernel, by decide +kernel⟩
theorem b_unit {W : Wo} [Calm W] {k : Nat} {f : Addr} (T : Tx W k) (cdv : Value) (A : Around) (outer : List Env) (s : Shared) (H : Hp) (E : XK) (g : Gd W (k + 3) (cxF W ["size", "row", "column"] "unit" (defScope s_unit) f cdv A outer s H E) E) : MSs W (cxF W ["size", "row", "column"] "unit" (defScope s_unit) f cdv A outer s H E) E (defBody s_unit) d_unit.body :=
  (mss_cons (ms_retS (me_tuple g T.n_tuple (me_lc [("row", 1)] g (mi_rng1 g T.n_range (me_var 0)) (fun _ _ _ _ _ g => (ml_nm g 1)) (fun _ _ _ _ _ g => mts_nil) (fun _ _ _ _ _ g => (me_tuple g T.n_tuple (me_lc [("column", 2)] g (mi_rng1 g T.n_range (me_var 0)) (fun _ _ _ _ _ g => (ml_nm g 2)) (fun _ _ _ _ _ g => mts_nil) (fun _ _ _ _ _ g => (me_ife (mt_cmp (cm_eq g) (me_var 1) (me_var 2)) me_int me_int)))))))) mss_nil)
theorem sc_times : FnScope ["one", "other", "columns", "row", "column", "a", "b"] ["one", "other"] (defScope s_times) := ⟨rfl, rfl, rfl, by decide +kernel, rfl, by decide +kernel, by decide +kernel⟩
theorem b_times {W : Wo} [Calm W] {k : Nat} {f : Addr} (T : Tx W k) (cdv : Value) (A : Around) (outer : List Env) (s : Shared) (H : Hp) (E : XK) (g : Gd W (k + 3) (cxF W ["one", "other", "columns", "row", "column", "a", "b"] "times" (defScope s_times) f cdv A outer s H E) E) : MSs W (cxF W ["one", "other", "columns", "row", "column", "a", "b"] "times" (defScope s_times) f cdv A outer s H E) E (defBody s_times) d_times.body :=
  (mss_cons (ms_asgS (me_zipS g T.n_list T.n_zip (me_var 1)) (ml_nm g 2)) (mss_cons (ms_retS (me_tuple g T.n_tuple (me_lc [("row", 3)] g (mi_seq g (me_var 0)) (fun _ _ _ _ _ g => (ml_nm g 3)) (fun _ _ _ _ _ g => mts_nil) (fun _ _ _ _ _ g => (me_tuple g T.n_tuple (me_lc [("column", 4)] g (mi_seq g (me_var 2)) (fun _ _ _ _ _ g => (ml_nm g 4)) (fun _ _ _ _ _ g => mts_nil) (fun _ _ _ _ _ g => (me_sum g T.n_sum (me_lc [("a", 5), ("b", 6)] g (mi_zip g T.n_zip (me_var 3) (me_var 4)) (fun _ _ _ _ _ g => (ml_tp g (mls_cons (ml_nm g 5) (mls_cons (ml_nm g 6) mls_nil)))) (fun _ _ _ _ _ g => mts_nil) (fun _ _ _ _ _ g => (me_mul (me_var 5) (me_var 6) g))))))))))) mss_nil))
theorem sc_product_of : FnScope ["tables", "word", "found", "index"] ["tables", "word"] (defScope s_product_of) := ⟨rfl, rfl, rfl, by decide +kernel, rfl, by decide +kernel, by decide +kernel⟩
theorem b_product_of {W : Wo} [Calm W] {k : Nat} {f : Addr} (T : Tx W k) (cdv : Value) (A : Around) (outer : List Env) (s : Shared) (H : Hp) (E : XK) (g : Gd W (k + 3) (cxF W ["tables", "word", "found", "index"] "product_of" (defScope s_product_of) f cdv A outer s H E) E) : MSs W (cxF W ["tables", "word", "found", "index"] "product_of" (defScope s_product_of) f cdv A outer s H E) E (defBody s_product_of) d_product_of.body :=
  (mss_cons (ms_asgS (me_call g T.f_unit (mg_v (me_len g T.n_len (me_idx (me_var 0) me_int g)) mg_nil)) (ml_nm g 2)) (mss_cons (ms_for g po_cx (mi_seq g (me_var 1)) (ml_nm g 3) (mss_cons (ms_asgS (me_call g T.f_times (mg_v (me_var 2) (mg_v (me_idx (me_var 0) (me_var 3) g) mg_nil))) (ml_nm g 2)) (mss_kil mss_nil))) (mss_cons (ms_retS (me_var 2)) mss_nil)))
theorem sc_Lot_tables : FnScope ["self"] ["self"] (defScope s_Lot_tables) := ⟨rfl, rfl, rfl, by decide +kernel, rfl, by decide +kernel, by decide +kernel⟩
theorem b_Lot_tables {W : Wo} [Calm W] {k : Nat} {f : Addr} (T : Tx W k) (cdv : Value) (A : Around) (outer : List Env) (s : Shared) (H : Hp) (E : XK) (g : Gd W (k + 3) (cxF W ["self"] "Lot.tables" (defScope s_Lot_tables) f cdv A outer s H E) E) : MSs W (cxF W ["self"] "Lot.tables" (defScope s_Lot_tables) f cdv A outer s H E) E (defBody s_Lot_tables) d_Lot_tables.body :=
  (mss_cons (ms_retS (me_fld g T.s_Lot_own_tables (me_var 0))) mss_nil)
theorem sc_product : FnScope ["lot", "word"] ["lot", "word"] (defScope s_product) := ⟨rfl, rfl, rfl, by decide +kernel, rfl, by decide +kernel, by decide +kernel⟩
theorem b_product {W : Wo} [Calm W] {k : Nat} {f : Addr} (T : Tx W k) (cdv : Value) (A : Around) (outer : List Env) (s : Shared) (H : Hp) (E : XK) (g : Gd W (k + 3) (cxF W ["lot", "word"] "product" (defScope s_product) f cdv A outer s H E) E) : MSs W (cxF W ["lot", "word"] "product" (defScope s_product) f cdv A outer s H E) E (defBody s_product) d_product.body :=
  (mss_cons (ms_expr (me_call g T.f_check_lot (mg_v (me_var 0) mg_nil))) (mss_cons (ms_expr (me_call g T.f_check_word (mg_v (me_var 0) (mg_v (me_var 1) mg_nil)))) (mss_cons (ms_retS (me_call g T.f_product_of (mg_v (me_prop g T.p_Lot_tables (me_var 0)) (mg_v (me_var 1) mg_nil)))) mss_nil)))
theorem sc_trace_of : FnScope ["table", "at", "row"] ["table"] (defScope s_trace_of) := ⟨rfl, rfl, rfl, by decide +kernel, rfl, by decide +kernel, by decide +kernel⟩
theorem b_trace_of {W : Wo} [Calm W] {k : Nat} {f : Addr} (T : Tx W k) (cdv : Value) (A : Around) (outer : List Env) (s : Shared) (H : Hp) (E : XK) (g : Gd W (k + 3) (cxF W ["table", "at", "row"] "trace_of" (defScope s_trace_of) f cdv A outer s H E) E) : MSs W (cxF W ["table", "at", "row"] "trace_of" (defScope s_trace_of) f cdv A outer s H E) E (defBody s_trace_of) d_trace_of.body :=
  (mss_cons (ms_retS (me_sum g T.n_sum (me_lc [("at", 1), ("row", 2)] g (mi_enm g T.n_enumerate (me_var 0)) (fun _ _ _ _ _ g => (ml_tp g (mls_cons (ml_nm g 1) (mls_cons (ml_nm g 2) mls_nil)))) (fun _ _ _ _ _ g => mts_nil) (fun _ _ _ _ _ g => (me_idx (me_var 2) (me_var 1) g))))) mss_nil)
theorem sc_trace : FnScope ["lot", "word"] ["lot", "word"] (defScope s_trace) := ⟨rfl, rfl, rfl, by decide +kernel, rfl, by decide +kernel, by decide +kernel⟩
theorem b_trace {W : Wo} [Calm W] {k : Nat} {f : Addr} (T : Tx W k) (cdv : Value) (A : Around) (outer : List Env) (s : Shared) (H : Hp) (E : XK) (g : Gd W (k + 3) (cxF W ["lot", "word"] "trace" (defScope s_trace) f cdv A outer s H E) E) : MSs W (cxF W ["lot", "word"] "trace" (defScope s_trace) f cdv A outer s H E) E (defBody s_trace) d_trace.body :=
  (mss_cons (ms_expr (me_call g T.f_check_lot (mg_v (me_var 0) mg_nil))) (mss_cons (ms_expr (me_call g T.f_check_word (mg_v (me_var 0) (mg_v (me_var 1) mg_nil)))) (mss_cons (ms_retS (me_call g T.f_trace_of (mg_v (me_call g T.f_product_of (mg_v (me_prop g T.p_Lot_tables (me_var 0)) (mg_v (me_var 1) mg_nil))) mg_nil))) mss_nil)))
theorem sc__law_corner : FnScope ["_law_grid", "_law_k"] ["_law_grid"] (defScope s__law_corner) := ⟨rfl, rfl, rfl, by decide +kernel, rfl, by decide +kernel, by decide +kernel⟩
theorem b__law_corner {W : Wo} [Calm W] {k : Nat} {f : Addr} (T : Tx W k) (cdv : Value) (A : Around) (outer : List Env) (s : Shared) (H : Hp) (E : XK) (g : Gd W (k + 3) (cxF W ["_law_grid", "_law_k"] "_law_corner" (defScope s__law_corner) f cdv A outer s H E) E) : MSs W (cxF W ["_law_grid", "_law_k"] "_law_corner" (defScope s__law_corner) f cdv A outer s H E) E (defBody s__law_corner) d__law_corner.body :=
  (mss_cons (ms_retS (me_sum g T.n_sum (me_lc [("_law_k", 1)] g (mi_rng1 g T.n_range (me_len g T.n_len (me_var 0))) (fun _ _ _ _ _ g => (ml_nm g 1)) (fun _ _ _ _ _ g => mts_nil) (fun _ _ _ _ _ g => (me_idx (me_idx (me_var 0) (me_var 1) g) (me_var 1) g))))) mss_nil)
theorem sc__law_right : FnScope ["_law_pail", "_law_turn", "_law_small", "_law_grid", "_law_some", "_law_order", "_law_again", "_law_near", "_law_far", "_law_size", "_law_mine", "_law_lonely", "_law_letters", "_law_asked", "_law_many", "_law_due", "_law_k", "_law_i", "_law_at", "_law_j"] ["_law_pail"] (defScope s__law_right) := ⟨rfl, rfl, rfl, by decide +kernel, rfl, by decide +kernel, by decide +kernel⟩
theorem b__law_right {W : Wo} [Calm W] {k : Nat} {f : Addr} (T : Tx W k) (cdv : Value) (A : Around) (outer : List Env) (s : Shared) (H : Hp) (E : XK) (g : Gd W (k + 3) (cxF W ["_law_pail", "_law_turn", "_law_small", "_law_grid", "_law_some", "_law_order", "_law_again", "_law_near", "_law_far", "_law_size", "_law_mine", "_law_lonely", "_law_letters", "_law_asked", "_law_many", "_law_due", "_law_k", "_law_i", "_law_at", "_law_j"] "_law_right" (defScope s__law_right) f cdv A outer s H E) E) : MSs W (cxF W ["_law_pail", "_law_turn", "_law_small", "_law_grid", "_law_some", "_law_order", "_law_again", "_law_near", "_law_far", "_law_size", "_law_mine", "_law_lonely", "_law_letters", "_law_asked", "_law_many", "_law_due", "_law_k", "_law_i", "_law_at", "_law_j"] "_law_right" (defScope s__law_right) f cdv A outer s H E) E (defBody s__law_right) d__law_right.body :=
  (mss_cons (ms_for g po_cx (mi_rng1 g T.n_range me_int) (ml_nm g 1) (mss_cons (ms_tpar2 g (me_add me_int (me_call g T.f__law_cast (mg_b 0 (mg_v me_int mg_nil))) g) (me_lst (ma_one me_int (ma_one me_int (ma_one me_int ma_nil))))) (mss_cons (ms_asgS (me_tuple g T.n_tuple (me_lc [("_law_i", 17)] g (mi_rng1 g T.n_range (me_var 9)) (fun _ _ _ _ _ g => (ml_nm g 17)) (fun _ _ _ _ _ g => mts_nil) (fun _ _ _ _ _ g => (me_tuple g T.n_tuple (me_lc [("_law_j", 19)] g (mi_rng1 g T.n_range (me_var 9)) (fun _ _ _ _ _ g => (ml_nm g 19)) (fun _ _ _ _ _ g => mts_nil) (fun _ _ _ _ _ g => (me_call g T.f__law_number (mg_b 0 mg_nil)))))))) (ml_nm g 3)) (mss_cons (ms_asgS (me_lst (ma_one (me_var 3) (ma_one (me_call g T.f__law_one (mg_v (me_var 9) mg_nil)) (ma_one (me_mul (me_tup (ma_one (me_mul (me_tup (ma_one me_int ma_nil)) (me_var 9) g) ma_nil)) (me_var 9) g) ma_nil)))) (ml_nm g 4)) (mss_cons (ms_asgS (me_lc [("_law_k", 16)] g (mi_rng1 g T.n_range me_int) (fun _ _ _ _ _ g => (ml_nm g 16)) (fun _ _ _ _ _ g => mts_nil) (fun _ _ _ _ _ g => (me_pop g 5 (me_call g T.f__law_cast (mg_b 0 (mg_v (me_len g T.n_len (me_var 5)) mg_nil)))))) (ml_nm g 5)) (mss_shr (mss_cons (ms_par2 g (me_call g T.f__law_built (mg_b 0 (mg_v (me_tuple g T.n_tuple (me_lc [("_law_k", 16)] g (mi_seq g (me_var 5)) (fun _ _ _ _ _ g => (ml_nm g 16)) (fun _ _ _ _ _ g => mts_nil) (fun _ _ _ _ _ g => (me_idx (me_var 4) (me_var 16) g)))) mg_nil))) (me_make g T.m_Lot (mg_v (me_tup (ma_one (me_var 3) ma_nil)) mg_nil))) (mss_kil (mss_cons (ms_for g po_cx (mi_rng1 g T.n_range me_int) (ml_nm g 6) (mss_cons (ms_asgS (me_tuple g T.n_tuple (me_lc [("_law_k", 16)] g (mi_rng1 g T.n_range me_int) (fun _ _ _ _ _ g => (ml_nm g 16)) (fun _ _ _ _ _ g => mts_nil) (fun _ _ _ _ _ g => (me_call g T.f__law_any_of (mg_b 0 (mg_v (me_slo01 (me_lst (ma_one me_int (ma_one me_int (ma_one me_int (ma_one me_int (ma_one me_int (ma_one me_int (ma_one me_int ma_nil)))))))) (me_add me_int (me_call g T.f__law_cast (mg_b 0 (mg_v me_int mg_nil))) g) g) mg_nil)))))) (ml_nm g 12)) (mss_cons (ms_asgS (me_slo01 (me_var 12) (me_call g T.f__law_cast (mg_b 0 (mg_v me_int mg_nil))) g) (ml_nm g 12)) (mss_cons (ms_asgS (me_tuple g T.n_tuple (me_lc [("_law_at", 18)] g (mi_seq g (me_var 12)) (fun _ _ _ _ _ g => (ml_nm g 18)) (fun _ _ _ _ _ g => mts_nil) (fun _ _ _ _ _ g => (me_index (i := 18) g (me_var 5))))) (ml_nm g 13)) (mss_cons (ms_asgS (me_len g T.n_len (me_lc [("_law_at", 18)] g (mi_seq g (me_var 12)) (fun _ _ _ _ _ g => (ml_nm g 18)) (fun _ _ _ _ _ g => (mts_one (mt_cmp (cm_eq g) (me_var 18) me_int))) (fun _ _ _ _ _ g => (me_var 18)))) (ml_nm g 14)) (mss_cons (ms_asgS (me_ife (mt_cmp (cm_notIn g) me_int (me_var 12)) (me_call g T.f_product (mg_v (me_var 11) (mg_v (me_mul (me_tup (ma_one me_int ma_nil)) (me_var 14) g) mg_nil))) (me_idx (me_var 4) me_int g)) (ml_nm g 15)) (mss_cons (ms_ift (mt_w (mw_or (mt_cmp (cm_ne g) (me_repr g T.n_repr (me_call g T.f_product (mg_v (me_var 10) (mg_v (me_var 13) mg_nil)))) (me_repr g T.n_repr (me_var 15))) (mw_or1 (mt_cmp (cm_ne g) (me_call g T.f_trace (mg_v (me_var 10) (mg_v (me_var 13) mg_nil))) (me_call g T.f__law_corner (mg_v (me_var 15) mg_nil)))))) (mss_cons (ms_retS me_bl) mss_nil) mss_nil) (mss_kil mss_nil)))))))) (mss_kil mss_nil)))))))))) (mss_cons (ms_par2 g (me_call g T.f__law_number (mg_b 0 mg_nil)) (me_call g T.f__law_number (mg_b 0 mg_nil))) (mss_cons (ms_asgS (me_make g T.m_Lot (mg_v (me_tup (ma_one (me_tup (ma_one (me_tup (ma_one (me_var 7) ma_nil)) ma_nil)) (ma_one (me_tup (ma_one (me_tup (ma_one (me_var 8) ma_nil)) ma_nil)) ma_nil))) mg_nil)) (ml_nm g 2)) (mss_cons (ms_retS (me_and (me_cmp (cm_eq g) (me_call g T.f_product (mg_v (me_var 2) (mg_v (me_tup (ma_one me_int (ma_one me_int (ma_one me_int (ma_one me_int (ma_one me_int ma_nil)))))) mg_nil))) (me_tup (ma_one (me_tup (ma_one (me_mul (me_mul (me_mul (me_mul (me_var 7) (me_var 7) g) (me_var 8) g) (me_var 8) g) (me_var 8) g) ma_nil)) ma_nil))) (me_one (me_cmp (cm_eq g) (me_call g T.f_trace (mg_v (me_var 2) (mg_v (me_tup (ma_one me_int ma_nil)) mg_nil))) (me_var 8))))) mss_nil))))
theorem sc__law_begun : FnScope ["_law_script", "_law_turn", "_law_own", "_law_state", "_law_cell"] ["_law_script", "_law_turn"] (defScope s__law_begun) := ⟨rfl, rfl, rfl, by decide +kernel, rfl, by decide +kernel, by decide +kernel⟩
theorem b__law_begun {W : Wo} [Calm W] {k : Nat} {f : Addr} (T : Tx W k) (cdv : Value) (A : Around) (outer : List Env) (s : Shared) (H : Hp) (E : XK) (g : Gd W (k + 3) (cxF W ["_law_script", "_law_turn", "_law_own", "_law_state", "_law_cell"] "_law_begun" (defScope s__law_begun) f cdv A outer s H E) E) : MSs W (cxF W ["_law_script", "_law_turn", "_law_own", "_law_state", "_law_cell"] "_law_begun" (defScope s__law_begun) f cdv A outer s H E) E (defBody s__law_begun) d__law_begun.body :=
  (mss_cons (ms_asgS (me_ife (mt_cmp cm_lt (me_var 1) (me_len g T.n_len (me_var 0))) (me_idx (me_var 0) (me_var 1) g) me_int) (ml_nm g 2)) (mss_cons (ms_asgS (me_add me_int (me_mul me_int (me_var 1) g) g) (ml_nm g 3)) (mss_cons (ms_for g po_cx (mi_seq g (me_slo01 (me_var 0) me_int g)) (ml_nm g 4) (mss_cons (ms_asgS (me_mod (me_toInt g T.n_int (me_add (me_add (me_mul (me_var 3) me_int g) (me_mul (me_var 4) me_int g) g) me_int g)) me_int) (ml_nm g 3)) (mss_kil mss_nil))) (mss_cons (ms_ret (me_lst (ma_one (me_ife (mt_w (mw_or (mt_cmp cm_lt (me_var 2) me_int) (mw_or1 (mt_cmp cm_ge (me_var 2) (me_pow me_int me_int))))) (me_abs g T.n_abs (me_var 2)) me_int) (ma_one (me_mod (me_toInt g T.n_int (me_add (me_add (me_mul (me_var 3) me_int g) (me_mul (me_var 2) (me_var 2) g) g) (me_mul me_int (me_var 1) g) g)) me_int) (ma_one me_int ma_nil))))) mss_nil))))
theorem sc_law : FnScope ["_law_script", "_law_turn"] ["_law_script"] (defScope s_law) := ⟨rfl, rfl, rfl, by decide +kernel, rfl, by decide +kernel, by decide +kernel⟩
theorem b_law {W : Wo} [Calm W] {k : Nat} {f : Addr} (T : Tx W k) (cdv : Value) (A : Around) (outer : List Env) (s : Shared) (H : Hp) (E : XK) (g : Gd W (k + 3) (cxF W ["_law_script", "_law_turn"] "law" (defScope s_law) f cdv A outer s H E) E) : MSs W (cxF W ["_law_script", "_law_turn"] "law" (defScope s_law) f cdv A outer s H E) E (defBody s_law) d_law.body :=
  (mss_cons (ms_retS (me_all g T.n_all (me_lc [("_law_turn", 1)] g (mi_rng1 g T.n_range (me_max2 g T.n_max me_int (me_min2 g T.n_min (me_len g T.n_len (me_var 0)) me_int))) (fun _ _ _ _ _ g => (ml_nm g 1)) (fun _ _ _ _ _ g => mts_nil) (fun _ _ _ _ _ g => (me_callO g T.f__law_right (me_call g T.f__law_begun (mg_v (me_var 0) (mg_v (me_var 1) mg_nil)))))))) mss_nil)
abbrev lvl : Nat := 9
def xfs : Nat → List Str := fun i => []
abbrev Zj (K : PySem.W.Frag) (C : Nat → Addr) (T0 : List (Addr × Str)) : Zc := ⟨K, C, xfs, 1, 1, T0⟩
structure Facts (K : PySem.W.Frag) (mg : Str → Option Value) (C : Nat → Addr) (cs0 : List (Addr × Addr)) (T0 : List (Addr × Str)) (a_is_integer a_are_integers a_is_table a_wrong_table i_Lot a__law_cast a__law_any_of a__law_number a__law_one a_written_integer a_text_row a_text_lot a_Lot_read a__law_lines a__law_sheet a__law_built a_check_lot a_wrong_letter a_check_word a_unit a_times a_product_of a_Lot_tables a_product a_trace_of a_trace a__law_corner a__law_right a__law_begun a_law : Addr) : Prop where
  d_is_integer : Df K "is_integer" "is_integer" s_is_integer ["value"] a_is_integer
  g_is_integer : mg "is_integer" = some (.ref a_is_integer)
  k_is_integer : PySem.W.keepIn K (.ref a_is_integer) = true
  d_are_integers : Df K "are_integers" "are_integers" s_are_integers ["value", "many"] a_are_integers
  g_are_integers : mg "are_integers" = some (.ref a_are_integers)
  k_are_integers : PySem.W.keepIn K (.ref a_are_integers) = true
  d_is_table : Df K "is_table" "is_table" s_is_table ["value"] a_is_table
  g_is_table : mg "is_table" = some (.ref a_is_table)
  k_is_table : PySem.W.keepIn K (.ref a_is_table) = true
  d_wrong_table : Df K "wrong_table" "wrong_table" s_wrong_table ["value"] a_wrong_table
  g_wrong_table : mg "wrong_table" = some (.ref a_wrong_table)
  k_wrong_table : PySem.W.keepIn K (.ref a_wrong_table) = true
  d_Lot_init : Df K "__init__" "Lot.__init__" s_Lot_init ["self", "tables"] i_Lot
  d__law_cast : Df K "_law_cast" "_law_cast" s__law_cast ["_law_pail", "_law_many"] a__law_cast
  g__law_cast : mg "_law_cast" = some (.ref a__law_cast)
  k__law_cast : PySem.W.keepIn K (.ref a__law_cast) = true
  d__law_any_of : Df K "_law_any_of" "_law_any_of" s__law_any_of ["_law_pail", "_law_some"] a__law_any_of
  g__law_any_of : mg "_law_any_of" = some (.ref a__law_any_of)
  k__law_any_of : PySem.W.keepIn K (.ref a__law_any_of) = true
  d__law_number : Df K "_law_number" "_law_number" s__law_number ["_law_pail"] a__law_number
  g__law_number : mg "_law_number" = some (.ref a__law_number)
  k__law_number : PySem.W.keepIn K (.ref a__law_number) = true
  d__law_one : Df K "_law_one" "_law_one" s__law_one ["_law_size"] a__law_one
  g__law_one : mg "_law_one" = some (.ref a__law_one)
  k__law_one : PySem.W.keepIn K (.ref a__law_one) = true
  d_written_integer : Df K "written_integer" "written_integer" s_written_integer ["word"] a_written_integer
  g_written_integer : mg "written_integer" = some (.ref a_written_integer)
  k_written_integer : PySem.W.keepIn K (.ref a_written_integer) = true
  d_text_row : Df K "text_row" "text_row" s_text_row ["line"] a_text_row
  g_text_row : mg "text_row" = some (.ref a_text_row)
  k_text_row : PySem.W.keepIn K (.ref a_text_row) = true
  d_text_lot : Df K "text_lot" "text_lot" s_text_lot ["value"] a_text_lot
  g_text_lot : mg "text_lot" = some (.ref a_text_lot)
  k_text_lot : PySem.W.keepIn K (.ref a_text_lot) = true
  d_Lot_read : Df K "read" "Lot.read" s_Lot_read ["cls", "text"] a_Lot_read
  cm_Lot_read : ∃ mc p, ClX.CRead K (C 0) mc ∧ ClX.CMet K (C 0) mc "read" p a_Lot_read
  d__law_lines : Df K "_law_lines" "_law_lines" s__law_lines ["_law_grids"] a__law_lines
  g__law_lines : mg "_law_lines" = some (.ref a__law_lines)
  k__law_lines : PySem.W.keepIn K (.ref a__law_lines) = true
  d__law_sheet : Df K "_law_sheet" "_law_sheet" s__law_sheet ["_law_grids"] a__law_sheet
  g__law_sheet : mg "_law_sheet" = some (.ref a__law_sheet)
  k__law_sheet : PySem.W.keepIn K (.ref a__law_sheet) = true
  d__law_built : Df K "_law_built" "_law_built" s__law_built ["_law_pail", "_law_grids"] a__law_built
  g__law_built : mg "_law_built" = some (.ref a__law_built)
  k__law_built : PySem.W.keepIn K (.ref a__law_built) = true
  d_check_lot : Df K "check_lot" "check_lot" s_check_lot ["value"] a_check_lot
  g_check_lot : mg "check_lot" = some (.ref a_check_lot)
  k_check_lot : PySem.W.keepIn K (.ref a_check_lot) = true
  d_wrong_letter : Df K "wrong_letter" "wrong_letter" s_wrong_letter ["lot", "value"] a_wrong_letter
  g_wrong_letter : mg "wrong_letter" = some (.ref a_wrong_letter)
  k_wrong_letter : PySem.W.keepIn K (.ref a_wrong_letter) = true
  d_check_word : Df K "check_word" "check_word" s_check_word ["lot", "value"] a_check_word
  g_check_word : mg "check_word" = some (.ref a_check_word)
  k_check_word : PySem.W.keepIn K (.ref a_check_word) = true
  d_unit : Df K "unit" "unit" s_unit ["size"] a_unit
  g_unit : mg "unit" = some (.ref a_unit)
  k_unit : PySem.W.keepIn K (.ref a_unit) = true
  d_times : Df K "times" "times" s_times ["one", "other"] a_times
  g_times : mg "times" = some (.ref a_times)
  k_times : PySem.W.keepIn K (.ref a_times) = true
  d_product_of : Df K "product_of" "product_of" s_product_of ["tables", "word"] a_product_of
  g_product_of : mg "product_of" = some (.ref a_product_of)
  k_product_of : PySem.W.keepIn K (.ref a_product_of) = true
  d_Lot_tables : Df K "tables" "Lot.tables" s_Lot_tables ["self"] a_Lot_tables
  p_Lot_tables : ∃ p, PySem.W.findIn K (.ref (C 0)) "tables" = some (some (.ref p)) ∧ PySem.W.specialIn K (.ref p) "__get__" = some (some (.builtin "property.__get__")) ∧ PySem.W.takesIn K (.ref p) = some true ∧ ∃ rest, PySem.W.recIn K p "property" = some (.ref a_Lot_tables :: rest)
  d_product : Df K "product" "product" s_product ["lot", "word"] a_product
  g_product : mg "product" = some (.ref a_product)
  k_product : PySem.W.keepIn K (.ref a_product) = true
  d_trace_of : Df K "trace_of" "trace_of" s_trace_of ["table"] a_trace_of
  g_trace_of : mg "trace_of" = some (.ref a_trace_of)
  k_trace_of : PySem.W.keepIn K (.ref a_trace_of) = true
  d_trace : Df K "trace" "trace" s_trace ["lot", "word"] a_trace
  g_trace : mg "trace" = some (.ref a_trace)
  k_trace : PySem.W.keepIn K (.ref a_trace) = true
  d__law_corner : Df K "_law_corner" "_law_corner" s__law_corner ["_law_grid"] a__law_corner
  g__law_corner : mg "_law_corner" = some (.ref a__law_corner)
  k__law_corner : PySem.W.keepIn K (.ref a__law_corner) = true
  d__law_right : Df K "_law_right" "_law_right" s__law_right ["_law_pail"] a__law_right
  g__law_right : mg "_law_right" = some (.ref a__law_right)
  k__law_right : PySem.W.keepIn K (.ref a__law_right) = true
  d__law_begun : Df K "_law_begun" "_law_begun" s__law_begun ["_law_script", "_law_turn"] a__law_begun
  g__law_begun : mg "_law_begun" = some (.ref a__law_begun)
  k__law_begun : PySem.W.keepIn K (.ref a__law_begun) = true
  d_law : Df K "law" "law" s_law ["_law_script"] a_law
  g_law : mg "law" = some (.ref a_law)
  k_law : PySem.W.keepIn K (.ref a_law) = true
  dk_Lot_tables : Dk K "__init__" "Lot.__init__" s_Lot_init ["self", "tables"] i_Lot 1 ["tables"] (0 :: [0].map (· + 1))
  m_Lot : Mk K (C 0) i_Lot
  h_Lot : mg "Lot" = some (.ref (C 0))
  s_Lot_own_tables : ∃ p, Slot1 K (C 0) "own_tables" p 0
  co : Co (Zj K C T0) 1
  n_abs : mg "abs" = none
  n_all : mg "all" = none
  n_bool : mg "bool" = none
  n_divmod : mg "divmod" = none
  n_enumerate : mg "enumerate" = none
  n_int : mg "int" = none
  n_isinstance : mg "isinstance" = none
  n_len : mg "len" = none
  n_list : mg "list" = none
  n_max : mg "max" = none
  n_min : mg "min" = none
  n_range : mg "range" = none
  n_repr : mg "repr" = none
  n_str : mg "str" = none
  n_sum : mg "sum" = none
  n_tuple : mg "tuple" = none
  n_zip : mg "zip" = none
  x_DIGITS : ∃ t, mg "DIGITS" = some (.str "0123456789" t)
  x_MOST_LETTERS : ∃ t, mg "MOST_LETTERS" = some (.int 40 t)
  x_MOST_NUMBER : ∃ t, mg "MOST_NUMBER" = some (.int 1000000 t)
  x_MOST_SIZE : ∃ t, mg "MOST_SIZE" = some (.int 4 t)
  x_MOST_TABLES : ∃ t, mg "MOST_TABLES" = some (.int 3 t)
section
variable {P : Program} {w : World} {K : PySem.W.Frag} {mg : Str → Option Value} {base : Heap} {C : Nat → Addr} {cs0 : List (Addr × Addr)} {T0 : List (Addr × Str)} {a_is_integer a_are_integers a_is_table a_wrong_table i_Lot a__law_cast a__law_any_of a__law_number a__law_one a_written_integer a_text_row a_text_lot a_Lot_read a__law_lines a__law_sheet a__law_built a_check_lot a_wrong_letter a_check_word a_unit a_times a_product_of a_Lot_tables a_product a_trace_of a_trace a__law_corner a__law_right a__law_begun a_law : Addr}
abbrev Wj (P : Program) (w : World) (K : PySem.W.Frag) (mg : Str → Option Value) (base : Heap) (C : Nat → Addr) (T0 : List (Addr × Str)) (j : Nat) : Wo := ⟨P, w, mg, base, Zj K C T0, calls tab j, false⟩
instance {P : Program} {w : World} {K : PySem.W.Frag} {mg : Str → Option Value} {base : Heap} {C : Nat → Addr} {T0 : List (Addr × Str)} {j : Nat} : Calm (Wj P w K mg base C T0 j) := ⟨rfl⟩
theorem lev (F : Facts K mg C cs0 T0 a_is_integer a_are_integers a_is_table a_wrong_table i_Lot a__law_cast a__law_any_of a__law_number a__law_one a_written_integer a_text_row a_text_lot a_Lot_read a__law_lines a__law_sheet a__law_built a_check_lot a_wrong_letter a_check_word a_unit a_times a_product_of a_Lot_tables a_product a_trace_of a_trace a__law_corner a__law_right a__law_begun a_law) (TB : ∀ p ∈ cs0, LamX.TabB base mg p.1 p.2) : ∀ j, Tx (Wj P w K mg base C T0 j) (4 * j)
  | 0 => { f_is_integer := ⟨a_is_integer, fnr_zero (t := tab) (W := Wj P w K mg base C T0 0), F.g_is_integer, F.k_is_integer⟩, f_are_integers := ⟨a_are_integers, fnr_zero (t := tab) (W := Wj P w K mg base C T0 0), F.g_are_integers, F.k_are_integers⟩, f_is_table := ⟨a_is_table, fnr_zero (t := tab) (W := Wj P w K mg base C T0 0), F.g_is_table, F.k_is_table⟩, f_wrong_table := ⟨a_wrong_table, fnr_zero (t := tab) (W := Wj P w K mg base C T0 0), F.g_wrong_table, F.k_wrong_table⟩, m_Lot := ⟨⟨i_Lot, F.m_Lot, fnc_zero (t := tab) (W := Wj P w K mg base C T0 0), F.h_Lot⟩, (show 0 < 1 by decide)⟩, f__law_cast := ⟨a__law_cast, fnr_zero (t := tab) (W := Wj P w K mg base C T0 0), F.g__law_cast, F.k__law_cast⟩, f__law_any_of := ⟨a__law_any_of, fnr_zero (t := tab) (W := Wj P w K mg base C T0 0), F.g__law_any_of, F.k__law_any_of⟩, f__law_number := ⟨a__law_number, fnr_zero (t := tab) (W := Wj P w K mg base C T0 0), F.g__law_number, F.k__law_number⟩, f__law_one := ⟨a__law_one, fnr_zero (t := tab) (W := Wj P w K mg base C T0 0), F.g__law_one, F.k__law_one⟩, f_written_integer := ⟨a_written_integer, fnr_zero (t := tab) (W := Wj P w K mg base C T0 0), F.g_written_integer, F.k_written_integer⟩, f_text_row := ⟨a_text_row, fnr_zero (t := tab) (W := Wj P w K mg base C T0 0), F.g_text_row, F.k_text_row⟩, f_text_lot := ⟨a_text_lot, fnr_zero (t := tab) (W := Wj P w K mg base C T0 0), F.g_text_lot, F.k_text_lot⟩, cd_Lot_read := ⟨let ⟨mc, p, h1, h2⟩ := F.cm_Lot_read; ⟨mc, p, a_Lot_read, h1, h2, fnr_zero (t := tab) (W := Wj P w K mg base C T0 0)⟩, F.h_Lot⟩, f__law_lines := ⟨a__law_lines, fnr_zero (t := tab) (W := Wj P w K mg base C T0 0), F.g__law_lines, F.k__law_lines⟩, f__law_sheet := ⟨a__law_sheet, fnr_zero (t := tab) (W := Wj P w K mg base C T0 0), F.g__law_sheet, F.k__law_sheet⟩, f__law_built := ⟨a__law_built, fnr_zero (t := tab) (W := Wj P w K mg base C T0 0), F.g__law_built, F.k__law_built⟩, f_check_lot := ⟨a_check_lot, fnr_zero (t := tab) (W := Wj P w K mg base C T0 0), F.g_check_lot, F.k_check_lot⟩, f_wrong_letter := ⟨a_wrong_letter, fnr_zero (t := tab) (W := Wj P w K mg base C T0 0), F.g_wrong_letter, F.k_wrong_letter⟩, f_check_word := ⟨a_check_word, fnr_zero (t := tab) (W := Wj P w K mg base C T0 0), F.g_check_word, F.k_check_word⟩, f_unit := ⟨a_unit, fnr_zero (t := tab) (W := Wj P w K mg base C T0 0), F.g_unit, F.k_unit⟩, f_times := ⟨a_times, fnr_zero (t := tab) (W := Wj P w K mg base C T0 0), F.g_times, F.k_times⟩, f_product_of := ⟨a_product_of, fnr_zero (t := tab) (W := Wj P w K mg base C T0 0), F.g_product_of, F.k_product_of⟩, p_Lot_tables := ⟨F.co.sc 0 (by decide), let ⟨p, h1, h2, h3, h4⟩ := F.p_Lot_tables; ⟨p, a_Lot_tables, h1, h2, h3, h4, fnr_zero (t := tab) (W := Wj P w K mg base C T0 0)⟩⟩, f_product := ⟨a_product, fnr_zero (t := tab) (W := Wj P w K mg base C T0 0), F.g_product, F.k_product⟩, f_trace_of := ⟨a_trace_of, fnr_zero (t := tab) (W := Wj P w K mg base C T0 0), F.g_trace_of, F.k_trace_of⟩, f_trace := ⟨a_trace, fnr_zero (t := tab) (W := Wj P w K mg base C T0 0), F.g_trace, F.k_trace⟩, f__law_corner := ⟨a__law_corner, fnr_zero (t := tab) (W := Wj P w K mg base C T0 0), F.g__law_corner, F.k__law_corner⟩, f__law_right := ⟨a__law_right, fnr_zero (t := tab) (W := Wj P w K mg base C T0 0), F.g__law_right, F.k__law_right⟩, f__law_begun := ⟨a__law_begun, fnr_zero (t := tab) (W := Wj P w K mg base C T0 0), F.g__law_begun, F.k__law_begun⟩, f_law := ⟨a_law, fnr_zero (t := tab) (W := Wj P w K mg base C T0 0), F.g_law, F.k_law⟩, mk_Lot_tables := ⟨⟨i_Lot, F.m_Lot, fnck_zero (t := tab) (W := Wj P w K mg base C T0 0), F.h_Lot⟩, (show 0 < 1 by decide)⟩, g_Lot := F.h_Lot, l_Lot := (show 0 < 1 by decide), s_Lot_own_tables := ⟨F.co.sc 0 (by decide), F.s_Lot_own_tables⟩, co := F.co, n_abs := F.n_abs, n_all := F.n_all, n_bool := F.n_bool, n_divmod := F.n_divmod, n_enumerate := F.n_enumerate, n_int := F.n_int, n_isinstance := F.n_isinstance, n_len := F.n_len, n_list := F.n_list, n_max := F.n_max, n_min := F.n_min, n_range := F.n_range, n_repr := F.n_repr, n_str := F.n_str, n_sum := F.n_sum, n_tuple := F.n_tuple, n_zip := F.n_zip, x_DIGITS := F.x_DIGITS, x_MOST_LETTERS := F.x_MOST_LETTERS, x_MOST_NUMBER := F.x_MOST_NUMBER, x_MOST_SIZE := F.x_MOST_SIZE, x_MOST_TABLES := F.x_MOST_TABLES }
  | j + 1 => by
    have T : Tx (Wj P w K mg base C T0 j) (4 * j) := lev F TB j
    exact { f_is_integer := ⟨a_is_integer, fnr_next (W := Wj P w K mg base C T0 j) (d := d_is_integer) rfl rfl F.d_is_integer sc_is_integer rfl rfl (b_is_integer T), F.g_is_integer, F.k_is_integer⟩, f_are_integers := ⟨a_are_integers, fnr_next (W := Wj P w K mg base C T0 j) (d := d_are_integers) rfl rfl F.d_are_integers sc_are_integers rfl rfl (b_are_integers T), F.g_are_integers, F.k_are_integers⟩, f_is_table := ⟨a_is_table, fnr_next (W := Wj P w K mg base C T0 j) (d := d_is_table) rfl rfl F.d_is_table sc_is_table rfl rfl (b_is_table T), F.g_is_table, F.k_is_table⟩, f_wrong_table := ⟨a_wrong_table, fnr_next (W := Wj P w K mg base C T0 j) (d := d_wrong_table) rfl rfl F.d_wrong_table sc_wrong_table rfl rfl (b_wrong_table T), F.g_wrong_table, F.k_wrong_table⟩, m_Lot := ⟨⟨i_Lot, F.m_Lot, fnc_next (W := Wj P w K mg base C T0 j) (cd := d_Lot_init) rfl rfl F.d_Lot_init sc_Lot_init rfl rfl (b_Lot_init T), F.h_Lot⟩, (show 0 < 1 by decide)⟩, f__law_cast := ⟨a__law_cast, fnr_next (W := Wj P w K mg base C T0 j) (d := d__law_cast) rfl rfl F.d__law_cast sc__law_cast rfl rfl (b__law_cast T), F.g__law_cast, F.k__law_cast⟩, f__law_any_of := ⟨a__law_any_of, fnr_next (W := Wj P w K mg base C T0 j) (d := d__law_any_of) rfl rfl F.d__law_any_of sc__law_any_of rfl rfl (b__law_any_of T), F.g__law_any_of, F.k__law_any_of⟩, f__law_number := ⟨a__law_number, fnr_next (W := Wj P w K mg base C T0 j) (d := d__law_number) rfl rfl F.d__law_number sc__law_number rfl rfl (b__law_number T), F.g__law_number, F.k__law_number⟩, f__law_one := ⟨a__law_one, fnr_next (W := Wj P w K mg base C T0 j) (d := d__law_one) rfl rfl F.d__law_one sc__law_one rfl rfl (b__law_one T), F.g__law_one, F.k__law_one⟩, f_written_integer := ⟨a_written_integer, fnr_next (W := Wj P w K mg base C T0 j) (d := d_written_integer) rfl rfl F.d_written_integer sc_written_integer rfl rfl (b_written_integer T), F.g_written_integer, F.k_written_integer⟩, f_text_row := ⟨a_text_row, fnr_next (W := Wj P w K mg base C T0 j) (d := d_text_row) rfl rfl F.d_text_row sc_text_row rfl rfl (b_text_row T), F.g_text_row, F.k_text_row⟩, f_text_lot := ⟨a_text_lot, fnr_next (W := Wj P w K mg base C T0 j) (d := d_text_lot) rfl rfl F.d_text_lot sc_text_lot rfl rfl (b_text_lot T), F.g_text_lot, F.k_text_lot⟩, cd_Lot_read := ⟨let ⟨mc, p, h1, h2⟩ := F.cm_Lot_read; ⟨mc, p, a_Lot_read, h1, h2, fnr_next (W := Wj P w K mg base C T0 j) (d := d_Lot_read) rfl rfl F.d_Lot_read sc_Lot_read rfl rfl (b_Lot_read T)⟩, F.h_Lot⟩, f__law_lines := ⟨a__law_lines, fnr_next (W := Wj P w K mg base C T0 j) (d := d__law_lines) rfl rfl F.d__law_lines sc__law_lines rfl rfl (b__law_lines T), F.g__law_lines, F.k__law_lines⟩, f__law_sheet := ⟨a__law_sheet, fnr_next (W := Wj P w K mg base C T0 j) (d := d__law_sheet) rfl rfl F.d__law_sheet sc__law_sheet rfl rfl (b__law_sheet T), F.g__law_sheet, F.k__law_sheet⟩, f__law_built := ⟨a__law_built, fnr_next (W := Wj P w K mg base C T0 j) (d := d__law_built) rfl rfl F.d__law_built sc__law_built rfl rfl (b__law_built T), F.g__law_built, F.k__law_built⟩, f_check_lot := ⟨a_check_lot, fnr_next (W := Wj P w K mg base C T0 j) (d := d_check_lot) rfl rfl F.d_check_lot sc_check_lot rfl rfl (b_check_lot T), F.g_check_lot, F.k_check_lot⟩, f_wrong_letter := ⟨a_wrong_letter, fnr_next (W := Wj P w K mg base C T0 j) (d := d_wrong_letter) rfl rfl F.d_wrong_letter sc_wrong_letter rfl rfl (b_wrong_letter T), F.g_wrong_letter, F.k_wrong_letter⟩, f_check_word := ⟨a_check_word, fnr_next (W := Wj P w K mg base C T0 j) (d := d_check_word) rfl rfl F.d_check_word sc_check_word rfl rfl (b_check_word T), F.g_check_word, F.k_check_word⟩, f_unit := ⟨a_unit, fnr_next (W := Wj P w K mg base C T0 j) (d := d_unit) rfl rfl F.d_unit sc_unit rfl rfl (b_unit T), F.g_unit, F.k_unit⟩, f_times := ⟨a_times, fnr_next (W := Wj P w K mg base C T0 j) (d := d_times) rfl rfl F.d_times sc_times rfl rfl (b_times T), F.g_times, F.k_times⟩, f_product_of := ⟨a_product_of, fnr_next (W := Wj P w K mg base C T0 j) (d := d_product_of) rfl rfl F.d_product_of sc_product_of rfl rfl (b_product_of T), F.g_product_of, F.k_product_of⟩, p_Lot_tables := ⟨F.co.sc 0 (by decide), let ⟨p, h1, h2, h3, h4⟩ := F.p_Lot_tables; ⟨p, a_Lot_tables, h1, h2, h3, h4, fnr_next (W := Wj P w K mg base C T0 j) (d := d_Lot_tables) rfl rfl F.d_Lot_tables sc_Lot_tables rfl rfl (b_Lot_tables T)⟩⟩, f_product := ⟨a_product, fnr_next (W := Wj P w K mg base C T0 j) (d := d_product) rfl rfl F.d_product sc_product rfl rfl (b_product T), F.g_product, F.k_product⟩, f_trace_of := ⟨a_trace_of, fnr_next (W := Wj P w K mg base C T0 j) (d := d_trace_of) rfl rfl F.d_trace_of sc_trace_of rfl rfl (b_trace_of T), F.g_trace_of, F.k_trace_of⟩, f_trace := ⟨a_trace, fnr_next (W := Wj P w K mg base C T0 j) (d := d_trace) rfl rfl F.d_trace sc_trace rfl rfl (b_trace T), F.g_trace, F.k_trace⟩, f__law_corner := ⟨a__law_corner, fnr_next (W := Wj P w K mg base C T0 j) (d := d__law_corner) rfl rfl F.d__law_corner sc__law_corner rfl rfl (b__law_corner T), F.g__law_corner, F.k__law_corner⟩, f__law_right := ⟨a__law_right, fnr_next (W := Wj P w K mg base C T0 j) (d := d__law_right) rfl rfl F.d__law_right sc__law_right rfl rfl (b__law_right T), F.g__law_right, F.k__law_right⟩, f__law_begun := ⟨a__law_begun, fnr_next (W := Wj P w K mg base C T0 j) (d := d__law_begun) rfl rfl F.d__law_begun sc__law_begun rfl rfl (b__law_begun T), F.g__law_begun, F.k__law_begun⟩, f_law := ⟨a_law, fnr_next (W := Wj P w K mg base C T0 j) (d := d_law) rfl rfl F.d_law sc_law rfl rfl (b_law T), F.g_law, F.k_law⟩, mk_Lot_tables := ⟨⟨i_Lot, F.m_Lot, fnck_next (W := Wj P w K mg base C T0 j) (cd := d_Lot_init) rfl rfl F.dk_Lot_tables sc_Lot_init rfl rfl (b_Lot_init T), F.h_Lot⟩, (show 0 < 1 by decide)⟩, g_Lot := F.h_Lot, l_Lot := (show 0 < 1 by decide), s_Lot_own_tables := ⟨F.co.sc 0 (by decide), F.s_Lot_own_tables⟩, co := F.co, n_abs := F.n_abs, n_all := F.n_all, n_bool := F.n_bool, n_divmod := F.n_divmod, n_enumerate := F.n_enumerate, n_int := F.n_int, n_isinstance := F.n_isinstance, n_len := F.n_len, n_list := F.n_list, n_max := F.n_max, n_min := F.n_min, n_range := F.n_range, n_repr := F.n_repr, n_str := F.n_str, n_sum := F.n_sum, n_tuple := F.n_tuple, n_zip := F.n_zip, x_DIGITS := F.x_DIGITS, x_MOST_LETTERS := F.x_MOST_LETTERS, x_MOST_NUMBER := F.x_MOST_NUMBER, x_MOST_SIZE := F.x_MOST_SIZE, x_MOST_TABLES := F.x_MOST_TABLES }
end
end M

set_option Elab.async false
set_option linter.all false
set_option maxRecDepth 100000
set_option maxHeartbeats 8000000
namespace M
open PySem L2 PyProof.Rows SlX
/-! ### plain functions -/
def m__law_corner (x_0 : D) : Mo D :=
  (((((.ok x_0) >>= fun v0 => (prm .len [v0])) >>= fun v1 => (optM (rng1F [v1]))) >>= fun v2 => (mapL (fun v3 => (.ok v3) >>= fun v4 => (((.ok x_0) >>= fun v5 => ((.ok v4) >>= fun v6 => (prm .idx [v5, v6]))) >>= fun v7 => ((.ok v4) >>= fun v8 => (prm .idx [v7, v8])))) v2 >>= fun l => .ok (D.lst l))) >>= fun v9 => (prm .sum [v9]))
def m__law_right (x_0 : D) : Mo (D × D) :=
  (((.ok (D.int 5)) >>= fun v0 => (optM (rng1F [v0]))) >>= fun v1 => foldB (ρ := D × D) (fun v2 v3 => (.ok v3) >>= fun v4 => ((((.ok (D.int 1)) >>= fun v5 => (((.ok (D.int 4)) >>= fun v6 => (m__law_cast v2 v6)) >>= fun v7 => (.ok []) >>= fun v8 => .ok ((v7.1 :: v8), v7.2)) >>= fun v9 => .ok ((v5 :: v9.1), v9.2)) >>= fun v10 => prmV .add v10.1 >>= fun v11 => .ok (v11, v10.2)) >>= fun v12 => (((.ok (D.int 0)) >>= fun v13 => ((.ok (D.int 1)) >>= fun v14 => ((.ok (D.int 2)) >>= fun v15 => (.ok []) >>= fun v16 => .ok (v15 :: v16)) >>= fun v17 => .ok (v14 :: v17)) >>= fun v18 => .ok (v13 :: v18)) >>= lstM) >>= fun v19 => ((((((.ok v12.1) >>= fun v20 => (optM (rng1F [v20]))) >>= fun v21 => mapSL (fun v22 v23 => (.ok v22) >>= fun v24 => (((((.ok v12.1) >>= fun v25 => (optM (rng1F [v25]))) >>= fun v26 => mapSL (fun v27 v28 => (.ok v27) >>= fun v29 => (m__law_number v28)) v26 v23 >>= fun v30 => .ok (D.lst v30.1, v30.2)) >>= fun v31 => (.ok []) >>= fun v32 => .ok ((v31.1 :: v32), v31.2)) >>= fun v33 => prm .tuple v33.1 >>= fun v34 => .ok (v34, v33.2))) v21 v12.2 >>= fun v35 => .ok (D.lst v35.1, v35.2)) >>= fun v36 => (.ok []) >>= fun v37 => .ok ((v36.1 :: v37), v36.2)) >>= fun v38 => prm .tuple v38.1 >>= fun v39 => .ok (v39, v38.2)) >>= fun v40 => ((((.ok v40.1) >>= fun v41 => (((.ok v12.1) >>= fun v42 => (m__law_one v42)) >>= fun v43 => ((((((((.ok (D.int 0)) >>= fun v44 => (.ok []) >>= fun v45 => .ok (v44 :: v45)) >>= tupM) >>= fun v46 => ((.ok v12.1) >>= fun v47 => (prm .mul [v46, v47]))) >>= fun v48 => (.ok []) >>= fun v49 => .ok (v48 :: v49)) >>= tupM) >>= fun v50 => ((.ok v12.1) >>= fun v51 => (prm .mul [v50, v51]))) >>= fun v52 => (.ok []) >>= fun v53 => .ok (v52 :: v53)) >>= fun v54 => .ok (v43 :: v54)) >>= fun v55 => .ok (v41 :: v55)) >>= lstM) >>= fun v56 => ((((.ok (D.int 3)) >>= fun v57 => (optM (rng1F [v57]))) >>= fun v58 => mapSL (fun v59 (v60 : D × D) => (.ok v59) >>= fun v61 => ((((.ok v60.2) >>= fun v62 => (prm .len [v62])) >>= fun v63 => (m__law_cast v60.1 v63)) >>= fun v64 => popM v60.2 v64.1 >>= fun v65 => .ok (v65.1, (v64.2, v65.2)))) v58 (v40.2, v19) >>= fun v66 => .ok (D.lst v66.1, v66.2)) >>= fun v67 => ((((((.ok v67.1) >>= fun v68 => (itemsM v68)) >>= fun v69 => (mapL (fun v70 => (.ok v70) >>= fun v71 => ((.ok v56) >>= fun v72 => ((.ok v71) >>= fun v73 => (prm .idx [v72, v73])))) v69 >>= fun l => .ok (D.lst l))) >>= fun v74 => (prm .tuple [v74])) >>= fun v75 => (m__law_built v67.2.1 v75)) >>= fun v76 => ((((.ok v40.1) >>= fun v77 => (.ok []) >>= fun v78 => .ok (v77 :: v78)) >>= tupM) >>= fun v79 => (m_Lot_init v79 >>= fun fs => .ok (D.ins 0 fs))) >>= fun v80 => (((.ok (D.int 3)) >>= fun v81 => (optM (rng1F [v81]))) >>= fun v82 => foldB (ρ := D × D) (fun v83 v84 => (.ok v84) >>= fun v85 => ((((((.ok (D.int 16)) >>= fun v86 => (optM (rng1F [v86]))) >>= fun v87 => mapSL (fun v88 v89 => (.ok v88) >>= fun v90 => (((((((.ok (D.int 0)) >>= fun v91 => ((.ok (D.int 0)) >>= fun v92 => ((.ok (D.int 0)) >>= fun v93 => ((.ok (D.int 1)) >>= fun v94 => ((.ok (D.int 1)) >>= fun v95 => ((.ok (D.int 1)) >>= fun v96 => ((.ok (D.int 2)) >>= fun v97 => (.ok []) >>= fun v98 => .ok (v97 :: v98)) >>= fun v99 => .ok (v96 :: v99)) >>= fun v100 => .ok (v95 :: v100)) >>= fun v101 => .ok (v94 :: v101)) >>= fun v102 => .ok (v93 :: v102)) >>= fun v103 => .ok (v92 :: v103)) >>= fun v104 => .ok (v91 :: v104)) >>= lstM) >>= fun v105 => ((((.ok (D.int 6)) >>= fun v106 => (((.ok (D.int 2)) >>= fun v107 => (m__law_cast v89 v107)) >>= fun v108 => (.ok []) >>= fun v109 => .ok ((v108.1 :: v109), v108.2)) >>= fun v110 => .ok ((v106 :: v110.1), v110.2)) >>= fun v111 => prm .add v111.1 >>= fun v112 => .ok (v112, v111.2)) >>= fun v113 => (.ok []) >>= fun v114 => .ok ((v113.1 :: v114), v113.2)) >>= fun v115 => .ok ((v105 :: v115.1), v115.2)) >>= fun v116 => prm (.slo false true) v116.1 >>= fun v117 => .ok (v117, v116.2)) >>= fun v118 => (.ok []) >>= fun v119 => .ok ((v118.1 :: v119), v118.2)) >>= fun v120 => on1 (m__law_any_of v120.2) v120.1)) v87 v83 >>= fun v121 => .ok (D.lst v121.1, v121.2)) >>= fun v122 => (.ok []) >>= fun v123 => .ok ((v122.1 :: v123), v122.2)) >>= fun v124 => prm .tuple v124.1 >>= fun v125 => .ok (v125, v124.2)) >>= fun v126 => ((((.ok v126.1) >>= fun v127 => (((.ok (D.int 17)) >>= fun v128 => (m__law_cast v126.2 v128)) >>= fun v129 => (.ok []) >>= fun v130 => .ok ((v129.1 :: v130), v129.2)) >>= fun v131 => .ok ((v127 :: v131.1), v131.2)) >>= fun v132 => prm (.slo false true) v132.1 >>= fun v133 => .ok (v133, v132.2)) >>= fun v134 => (((((.ok v134.1) >>= fun v135 => (itemsM v135)) >>= fun v136 => (mapL (fun v137 => (.ok v137) >>= fun v138 => ((.ok v67.1) >>= fun v139 => ((.ok v138) >>= fun v140 => (prm .index [v139, v140])))) v136 >>= fun l => .ok (D.lst l))) >>= fun v141 => (prm .tuple [v141])) >>= fun v142 => (((((.ok v134.1) >>= fun v143 => (itemsM v143)) >>= fun v144 => (filL (fun v145 => (.ok v145) >>= fun v146 => ((((.ok v146) >>= fun v147 => ((.ok (D.int 0)) >>= fun v148 => (prm .eq [v147, v148]))) >>= fun v149 => (tru v149)) >>= fun v150 => if v150 then ((.ok v146) >>= fun v151 => (.ok (some v151))) else .ok none)) v144 >>= fun l => .ok (D.lst l))) >>= fun v152 => (prm .len [v152])) >>= fun v153 => (((((.ok (D.int 2)) >>= fun v154 => ((.ok v134.1) >>= fun v155 => (prm .notIn [v154, v155]))) >>= fun v156 => (tru v156)) >>= fun v157 => (if v157 then ((.ok v80) >>= fun v158 => (((((.ok (D.int 0)) >>= fun v159 => (.ok []) >>= fun v160 => .ok (v159 :: v160)) >>= tupM) >>= fun v161 => ((.ok v153) >>= fun v162 => (prm .mul [v161, v162]))) >>= fun v163 => (m_product v158 v163))) else ((.ok v56) >>= fun v164 => ((.ok (D.int 2)) >>= fun v165 => (prm .idx [v164, v165]))))) >>= fun v166 => (((((((.ok v76.1) >>= fun v167 => ((.ok v142) >>= fun v168 => (m_product v167 v168))) >>= fun v169 => (prm .repr [v169])) >>= fun v170 => (((.ok v166) >>= fun v171 => (prm .repr [v171])) >>= fun v172 => (prm .ne [v170, v172]))) >>= fun v173 => (tru v173)) >>= fun v174 => if v174 then .ok true else ((((.ok v76.1) >>= fun v175 => ((.ok v142) >>= fun v176 => (m_trace v175 v176))) >>= fun v177 => (((.ok v166) >>= fun v178 => (m__law_corner v178)) >>= fun v179 => (prm .ne [v177, v179]))) >>= fun v180 => (tru v180))) >>= fun v181 => if v181 then ((.ok (D.bl false)) >>= fun v182 => .ok (.ret (v182, v134.2))) else (.ok (.nx v134.2))))))))) v76.2 v82 >>= fun v183 => Fl.on v183 (fun v184 => (.ok (.nx v184))) (fun v183 => .ok (Fl.ret v183))))))))) x_0 v1 >>= fun v185 => Fl.on v185 (fun v186 => ((m__law_number v186) >>= fun v187 => (m__law_number v187.2) >>= fun v188 => (((((((((.ok v187.1) >>= fun v189 => (.ok []) >>= fun v190 => .ok (v189 :: v190)) >>= tupM) >>= fun v191 => (.ok []) >>= fun v192 => .ok (v191 :: v192)) >>= tupM) >>= fun v193 => ((((((.ok v188.1) >>= fun v194 => (.ok []) >>= fun v195 => .ok (v194 :: v195)) >>= tupM) >>= fun v196 => (.ok []) >>= fun v197 => .ok (v196 :: v197)) >>= tupM) >>= fun v198 => (.ok []) >>= fun v199 => .ok (v198 :: v199)) >>= fun v200 => .ok (v193 :: v200)) >>= tupM) >>= fun v201 => (m_Lot_init v201 >>= fun fs => .ok (D.ins 0 fs))) >>= fun v202 => (((((.ok v202) >>= fun v203 => ((((.ok (D.int 0)) >>= fun v204 => ((.ok (D.int 1)) >>= fun v205 => ((.ok (D.int 1)) >>= fun v206 => ((.ok (D.int 0)) >>= fun v207 => ((.ok (D.int 1)) >>= fun v208 => (.ok []) >>= fun v209 => .ok (v208 :: v209)) >>= fun v210 => .ok (v207 :: v210)) >>= fun v211 => .ok (v206 :: v211)) >>= fun v212 => .ok (v205 :: v212)) >>= fun v213 => .ok (v204 :: v213)) >>= tupM) >>= fun v214 => (m_product v203 v214))) >>= fun v215 => ((((((((((.ok v187.1) >>= fun v216 => ((.ok v187.1) >>= fun v217 => (prm .mul [v216, v217]))) >>= fun v218 => ((.ok v188.1) >>= fun v219 => (prm .mul [v218, v219]))) >>= fun v220 => ((.ok v188.1) >>= fun v221 => (prm .mul [v220, v221]))) >>= fun v222 => ((.ok v188.1) >>= fun v223 => (prm .mul [v222, v223]))) >>= fun v224 => (.ok []) >>= fun v225 => .ok (v224 :: v225)) >>= tupM) >>= fun v226 => (.ok []) >>= fun v227 => .ok (v226 :: v227)) >>= tupM) >>= fun v228 => (prmV .eq [v215, v228]))) >>= fun v229 => ((isB v229) >>= fun v230 => (if v230 then (((.ok v202) >>= fun v231 => ((((.ok (D.int 1)) >>= fun v232 => (.ok []) >>= fun v233 => .ok (v232 :: v233)) >>= tupM) >>= fun v234 => (m_trace v231 v234))) >>= fun v235 => ((.ok v188.1) >>= fun v236 => (prmV .eq [v235, v236]))) else .ok (D.bl false)))) >>= fun v237 => (.ok (v237, v188.2)))))) (fun v185 => .ok ( v185)))
def m_law (x_0 : D) : Mo D :=
  (((((.ok (D.int 2)) >>= fun v0 => ((((.ok x_0) >>= fun v1 => (prm .len [v1])) >>= fun v2 => ((.ok (D.int 5)) >>= fun v3 => (prm .min2 [v2, v3]))) >>= fun v4 => (prm .max2 [v0, v4]))) >>= fun v5 => (optM (rng1F [v5]))) >>= fun v6 => (mapL (fun v7 => (.ok v7) >>= fun v8 => (((.ok x_0) >>= fun v9 => ((.ok v8) >>= fun v10 => (m__law_begun v9 v10))) >>= fun v11 => (m__law_right v11 >>= fun y => .ok y.1))) v6 >>= fun l => .ok (D.lst l))) >>= fun v12 => (prm .all [v12]))
end M

set_option Elab.async false
set_option linter.all false
set_option maxRecDepth 100000
set_option maxHeartbeats 8000000
namespace M
open PySem L2 PyProof.Rows SlX
/-! ### what they have to do with the trees -/
theorem r_is_integer {n : Nat} (hn : 1 ≤ n) (x_0 : D) : FP (calls tab n) 0 [x_0] (m_is_integer x_0) := by
  obtain ⟨n, rfl⟩ : ∃ k, n = k + 1 := ⟨n - 1, by omega⟩
  have hn : 0 ≤ n := Nat.le_of_succ_le_succ hn
  have h : SQ (calls tab n) t_is_integer [] [.sh false x_0] (m_is_integer x_0) (PF 1 I1 (fun _ _ => True)) := by
    unfold m_is_integer
    exact sq_retP (xb_v (e_and (b_p1 (xv_a (xb_v (e_var (x := x_0))))) (e_not (xv_a (v_p1 (xv_a (xb_v (e_var (x := x_0))))))))) (fun _ => pf_ret (hB := trivial))
  exact fv_of (d := d_is_integer) rfl rfl h.r
theorem r_are_integers {n : Nat} (hn : 2 ≤ n) (x_0 x_1 : D) : FP (calls tab n) 1 [x_0, x_1] (m_are_integers x_0 x_1) := by
  obtain ⟨n, rfl⟩ : ∃ k, n = k + 1 := ⟨n - 1, by omega⟩
  have hn : 1 ≤ n := Nat.le_of_succ_le_succ hn
  have h : SQ (calls tab n) t_are_integers [] [.sh false x_0, .sh false x_1, .no] (m_are_integers x_0 x_1) (PF 2 I1 (fun _ _ => True)) := by
    unfold m_are_integers
    exact sq_retP (xb_v (e_and (b_p1 (xv_a (xb_v (e_var (x := x_0))))) (e_and (b_p2 (xv_a (v_p1 (xv_a (xb_v (e_var (x := x_0)))))) (xv_a (xb_v (e_var (x := x_1))))) (b_p1 (xv_a (xn_v (e_lcM (Q0 := [.sh false x_0, .sh false x_1, .no]) (i_seq (xb_v (e_var (x := x_0)))) (fun d25 => tn1_of (Fp := fun b27 => [.sh false x_0, .sh false x_1, .sh false b27]) (Fe := fun b27 _ => [.sh false x_0, .sh false x_1, .sh false b27]) (xl_nm (F := fun z26 => [.sh false x_0, .sh false x_1, .sh false z26])) (fun b27 => (xb_v (c1_b (xb_v (e_var (x := b27))) (fun x0 => r_is_integer (lv rfl hn) x0)))))))))))) (fun _ => pf_ret (hB := trivial))
  exact fv_of (d := d_are_integers) rfl rfl h.r
theorem r_is_table {n : Nat} (hn : 3 ≤ n) (x_0 : D) : FP (calls tab n) 2 [x_0] (m_is_table x_0) := by
  obtain ⟨n, rfl⟩ : ∃ k, n = k + 1 := ⟨n - 1, by omega⟩
  have hn : 2 ≤ n := Nat.le_of_succ_le_succ hn
  have h : SQ (calls tab n) t_is_table [] [.sh false x_0, .no, .no] (m_is_table x_0) (PF 1 I1 (fun _ _ => True)) := by
    unfold m_is_table
    refine sq_if (t_any (t_not (t_val (xv_a (v_p1 (xv_a (xb_v (e_var (x := x_0)))))))) (t_not (t_val (xv_a (xb_v (e_chain (xb_v e_con) (v_p1 (xv_a (xb_v (e_var (x := x_0))))) (xb_v e_glo))))))) ?_ ?_
    · intro c56
      exact sq_retP (xb_v e_con) (fun _ => pf_ret (hB := trivial))
    intro c56
    refine sq_nil ?_
    refine sq_if (t_not (t_val (xv_a (v_p1 (xv_a (xn_v (e_lcM (Q0 := [.sh false x_0, .no, .no]) (i_seq (xb_v (e_var (x := x_0)))) (fun d59 => tn1_of (Fp := fun b61 => [.sh false x_0, .sh false b61, .no]) (Fe := fun b61 _ => [.sh false x_0, .sh false b61, .no]) (xl_nm (F := fun z60 => [.sh false x_0, .sh false z60, .no])) (fun b61 => (xb_v (c2_b (xb_v (e_var (x := b61))) (v_p1 (xv_a (xb_v (e_var (x := x_0))))) (fun x0 x1 => r_are_integers (lv rfl hn) x0 x1)))))))))))) ?_ ?_
    · intro c73
      exact sq_retP (xb_v e_con) (fun _ => pf_ret (hB := trivial))
    intro c73
    refine sq_nil ?_
    exact sq_retP (v_p1 (xv_a (xn_v (e_lc2 (Q0 := [.sh false x_0, .no, .no]) (Fp := fun b78 => [.sh false x_0, .sh false b78, .no]) (Q1 := fun b78 => [.sh false x_0, .sh false b78, .no]) (i_seq (xb_v (e_var (x := x_0)))) (fun d76 => (xl_nm (F := fun z77 => [.sh false x_0, .sh false z77, .no]))) (fun b78 => (i_seq (xb_v (e_var (x := b78))))) (fun b78 d80 => tn2_of (Fp := fun b82 => [.sh false x_0, .sh false b78, .sh false b82]) (xl_nm (F := fun z81 => [.sh false x_0, .sh false b78, .sh false z81])) (fun b82 => (v_p2 (xv_a (v_p1 (xv_a (xb_v (e_var (x := b82)))))) (xv_a (xb_v e_glo))))))))) (fun _ => pf_ret (hB := trivial))
  exact fv_of (d := d_is_table) rfl rfl h.r
theorem r_wrong_table {n : Nat} (hn : 4 ≤ n) (x_0 : D) : FP (calls tab n) 4 [x_0] (m_wrong_table x_0) := by
  obtain ⟨n, rfl⟩ : ∃ k, n = k + 1 := ⟨n - 1, by omega⟩
  have hn : 3 ≤ n := Nat.le_of_succ_le_succ hn
  have h : SQ (calls tab n) t_wrong_table [] [.sh false x_0, .no, .no] (m_wrong_table x_0) (PF 1 I1 (fun _ _ => True)) := by
    unfold m_wrong_table
    refine sq_if (t_any (t_not (t_val (xv_a (v_p1 (xv_a (xb_v (e_var (x := x_0)))))))) (t_val (xv_a (v_p2 (xv_a (v_p1 (xv_a (xb_v (e_var (x := x_0)))))) (xv_a (xb_v e_con)))))) ?_ ?_
    · intro c117
      exact sq_retP (v_p1 (xv_a (xb_v e_con))) (fun _ => pf_ret (hB := trivial))
    intro c117
    refine sq_nil ?_
    refine sq_for (ρ := D) (R := (PF 1 I1 (fun _ _ => True))) (F := (fun (s125 : Unit) => [.sh false x_0, .no, .no])) (Ft := (fun (s125 : Unit) b128 => [.sh false x_0, .sh false b128.1, .sh false b128.2])) (fun a124 => ()) (fun x167 =>  x167) (i_enm (xb_v (e_var (x := x_0)))) (fun (s125 : Unit) d126 => (xl_nn (F := fun z127 => [.sh false x_0, .sh false z127.1, .sh false z127.2]))) ?_ ?_ (fun _ _ h _ => h)
    · intro s125 b128
      refine sq_if (t_any (t_val (xv_a (v_p2 (xv_a (xb_v (e_var (x := b128.1)))) (xv_a (xb_v e_glo))))) (t_any (t_not (t_val (xv_a (xb_v (c1_b (xb_v (e_var (x := b128.2))) (fun x0 => r_is_table (lv rfl hn) x0)))))) (t_val (xv_a (v_p2 (xv_a (v_p1 (xv_a (xb_v (e_var (x := b128.2)))))) (xv_a (v_p1 (xv_a (v_p2 (xv_a (xb_v (e_var (x := x_0)))) (xv_a (xb_v e_con))))))))))) ?_ ?_
      · intro c163
        exact sq_retS (fun a164 => Fl.ret a164) (xb_v (e_var (x := b128.1))) (fun _ => pbr (pf_ret (hB := trivial)))
      intro c163
      refine sq_nil ?_
      refine sq_kil (q1 := [.sh false x_0, .no, .no]) ?_ rfl
      exact sq_end (.inl rfl)
    intro _
    exact sq_retP (xb_v e_con) (fun _ => pf_ret (hB := trivial))
  exact fv_of (d := d_wrong_table) rfl rfl h.r
theorem r_Lot_init {n : Nat} (hn : 5 ≤ n) (x_1 : D) : CV (calls tab n) 0 [.sh false x_1] (m_Lot_init x_1) := by
  obtain ⟨n, rfl⟩ : ∃ k, n = k + 1 := ⟨n - 1, by omega⟩
  have hn : 4 ≤ n := Nat.le_of_succ_le_succ hn
  have h : MQ (calls tab n) e_Lot_init t_Lot_init [.pin, .sh false x_1, .no] (m_Lot_init x_1) := by
    unfold m_Lot_init
    refine mq_cons (F := (fun z168 => [.pin, .sh false x_1, .sh false z168])) ?_ ?_
    · refine sq_set (F' := fun a170 => [.pin, .sh false x_1, .sh false a170]) (xb_v (c1_b (xb_v (e_var (x := x_1))) (fun x0 => r_wrong_table (lv rfl hn) x0))) ?_
      intro a170
      exact sq_end rfl
    intro z168
    refine mq_cons (F := (fun (_ : Unit) => [.pin, .sh false x_1, .sh false z168])) ?_ ?_
    · refine sq_if (t_val (xv_a (v_p1 (xv_a (xb_v (e_var (x := z168))))))) ?_ ?_
      · intro c176
        exact sq_nev
      intro c176
      refine sq_nil ?_
      exact sq_end rfl
    intro _
    exact mq_nil (xb_v (e_var (x := x_1)))
  exact cv_of (d := d_Lot_init) rfl rfl h.r
theorem r__law_cast {n : Nat} (hn : 1 ≤ n) (bo : Bool) (x_0 x_1 : D) : FLb (calls tab n) 1004 bo x_0 [x_1] (m__law_cast x_0 x_1) := by
  obtain ⟨n, rfl⟩ : ∃ k, n = k + 1 := ⟨n - 1, by omega⟩
  have hn : 0 ≤ n := Nat.le_of_succ_le_succ hn
  have h : SQ (calls tab n) t__law_cast [] [.ow bo x_0, .sh false x_1, .no, .no] (m__law_cast x_0 x_1) (PF 2 (fun y => y.1) (fun (y : D × D) q' => bo = true → q' = .ow true y.2 :: List.replicate 1 .no)) := by
    unfold m__law_cast
    refine sq_if (t_val (xv_a (v_p2 (xv_a (v_p2 (ea_own (x := x_0)) (xv_a (xb_v e_con)))) (xv_a (xb_v e_con))))) ?_ ?_
    · intro c191
      refine sq_tgt (Ft := fun a204 b205 => [.ow bo b205.1, .sh false x_1, .no, .sh false b205.2]) (v_p2 (xv_a (v_p2 (ea_own (x := x_0)) (xv_a (xb_v e_con)))) (xv_a (xb_v (e_var (x := x_1))))) (fun a204 => (xl_tp2 (m := fun a209 a210 => (((noExc (.ok (D.int 0))) >>= fun a212 => (putM x_0 a212 a209)) >>= fun u207 => (.ok a210) >>= fun w208 => .ok (u207, w208))) (F := (fun z206 => [.ow bo z206.1, .sh false x_1, .no, .sh false z206.2])) (fun _ _ => xls_cons (F3 := (fun z206 => [.ow bo z206.1, .sh false x_1, .no, .sh false z206.2])) (fun u207 w208 => (u207, w208)) (xl_sub (F := (fun z206 => [.ow bo z206, .sh false x_1, .no, .no])) rfl e_con) (fun u207 => xls_one (xl_nm (F := (fun w208 => [.ow bo u207, .sh false x_1, .no, .sh false w208]))))))) ?_
      intro a204 b205
      exact sq_retS (fun a213 => (a213, b205.1)) (xb_v (e_var (x := b205.2))) (fun _ => pf_ret (hB := (fun h => by subst h; rfl)))
    intro c191
    refine sq_nil ?_
    refine sq_tgt (Ft := fun a227 b228 => [.ow bo b228, .sh false x_1, .no, .no]) (v_p2 (xv_a (v_p2 (ea_own (x := x_0)) (xv_a (xb_v e_con)))) (xv_a (xb_v e_con))) (fun a227 => (xl_sub (F := (fun z229 => [.ow bo z229, .sh false x_1, .no, .no])) rfl e_con)) ?_
    intro a227 b228
    refine sq_set (F' := fun a294 => [.ow bo b228, .sh false x_1, .sh false a294, .no]) (v_p2 (xv_a (v_p1 (xv_a (v_p2 (xv_a (v_p2 (xv_a (v_p2 (xv_a (v_p2 (ea_own (x := b228)) (xv_a (xb_v e_con)))) (xv_a (v_p2 (xv_a (xb_v e_con)) (xv_a (v_p2 (xv_a (xb_v e_con)) (xv_a (v_p2 (ea_own (x := b228)) (xv_a (xb_v e_con)))))))))) (xv_a (v_p2 (xv_a (xb_v e_con)) (xv_a (v_p2 (ea_own (x := b228)) (xv_a (xb_v e_con)))))))) (xv_a (xb_v e_con)))))) (xv_a (xb_v e_con))) ?_
    intro a294
    refine sq_tgt (Ft := fun a334 b335 => [.ow bo b335, .sh false x_1, .sh false a294, .no]) (v_p2 (xv_a (v_p1 (xv_a (v_p2 (xv_a (v_p2 (xv_a (v_p2 (xv_a (xb_v (e_var (x := a294)))) (xv_a (xb_v e_con)))) (xv_a (v_p2 (xv_a (xb_v e_con)) (xv_a (v_p2 (ea_own (x := b228)) (xv_a (xb_v e_con)))))))) (xv_a (xb_v e_con)))))) (xv_a (xb_v e_con))) (fun a334 => (xl_sub (F := (fun z336 => [.ow bo z336, .sh false x_1, .sh false a294, .no])) rfl e_con)) ?_
    intro a334 b335
    exact sq_retS (fun a359 => (a359, b335)) (v_p2 (xv_a (v_p1 (xv_a (v_p2 (xv_a (v_p2 (ea_own (x := b335)) (xv_a (xb_v e_con)))) (xv_a (xb_v e_con)))))) (xv_a (xb_v (e_var (x := x_1))))) (fun _ => pf_ret (hB := (fun h => by subst h; rfl)))
  exact fv_of (d := d__law_cast) rfl rfl h.r
theorem r__law_any_of {n : Nat} (hn : 2 ≤ n) (bo : Bool) (x_0 x_1 : D) : FLb (calls tab n) 1005 bo x_0 [x_1] (m__law_any_of x_0 x_1) := by
  obtain ⟨n, rfl⟩ : ∃ k, n = k + 1 := ⟨n - 1, by omega⟩
  have hn : 1 ≤ n := Nat.le_of_succ_le_succ hn
  have h : SQ (calls tab n) t__law_any_of [] [.ow bo x_0, .sh false x_1] (m__law_any_of x_0 x_1) (PF 2 (fun y => y.1) (fun (y : D × D) q' => bo = true → q' = .ow true y.2 :: List.replicate 1 .no)) := by
    unfold m__law_any_of
    exact sq_retP (xv_prm (V3 := (fun (z : D × D) => z.1)) (F3 := (fun (z374 : D × D) => [.ow bo z374.2, .sh false x_1])) (fun (a372 : List D × D) (d373 : D) => (d373, a372.2)) (xs_cons (V3 := (fun (z : List D × D) => z.1)) (F3 := (fun (z371 : List D × D) => [.ow bo z371.2, .sh false x_1])) (fun (a361 : D) (t370 : List D × D) => ((a361 :: t370.1), t370.2)) (xb_v (e_var (x := x_1))) (fun a361 => (xs_cons (V3 := (fun (z : List D × D) => z.1)) (F3 := (fun (z369 : List D × D) => [.ow bo z369.2, .sh false x_1])) (fun (a362 : D × D) (t368 : List D) => ((a362.1 :: t368), a362.2)) (xb_v (cL1 (x := x_0) (F := (fun z367 => [.ow bo z367, .sh false x_1])) (v_p1 (xv_a (xb_v (e_var (x := x_1))))) (fun x0 => r__law_cast (lv rfl hn) true x_0 x0))) (fun a362 => xs_nil))))) (fun _ => pf_ret (hB := (fun h => by subst h; rfl)))
  exact fv_of (d := d__law_any_of) rfl rfl h.r
theorem r__law_number {n : Nat} (hn : 3 ≤ n) (bo : Bool) (x_0 : D) : FLb (calls tab n) 1006 bo x_0 [] (m__law_number x_0) := by
  obtain ⟨n, rfl⟩ : ∃ k, n = k + 1 := ⟨n - 1, by omega⟩
  have hn : 2 ≤ n := Nat.le_of_succ_le_succ hn
  have h : SQ (calls tab n) t__law_number [] [.ow bo x_0, .no] (m__law_number x_0) (PF 1 (fun y => y.1) (fun (y : D × D) q' => bo = true → q' = .ow true y.2 :: List.replicate 0 .no)) := by
    unfold m__law_number
    refine sq_set (F' := fun a384 => [.ow bo a384.2, .sh false a384.1]) (xb_v (cL1 (x := x_0) (F := (fun z383 => [.ow bo z383, .no])) (xb_v e_con) (fun x0 => r__law_cast (lv rfl hn) true x_0 x0))) ?_
    intro a384
    refine sq_if (t_val (xv_a (v_p2 (xv_a (xb_v (e_var (x := a384.1)))) (xv_a (xb_v e_con))))) ?_ ?_
    · intro c392
      exact sq_retP (xv_prm (V3 := (fun (z : D × D) => z.1)) (F3 := (fun (z402 : D × D) => [.ow bo z402.2, .sh false a384.1])) (fun (a400 : List D × D) (d401 : D) => (d401, a400.2)) (xs_cons (V3 := (fun (z : List D × D) => z.1)) (F3 := (fun (z399 : List D × D) => [.ow bo z399.2, .sh false a384.1])) (fun (a393 : D × D) (t398 : List D) => ((a393.1 :: t398), a393.2)) (xb_v (cL1 (x := a384.2) (F := (fun z395 => [.ow bo z395, .sh false a384.1])) (xb_v e_con) (fun x0 => r__law_cast (lv rfl hn) true a384.2 x0))) (fun a393 => (xs_cons (V3 := Il) (F3 := (Fc _)) (fun a396 t397 => (a396 :: t397)) (xb_v e_con) (fun a396 => xs_nil))))) (fun _ => pf_ret (hB := (fun h => by subst h; rfl)))
    intro c392
    refine sq_nil ?_
    refine sq_if (t_val (xv_a (v_p2 (xv_a (xb_v (e_var (x := a384.1)))) (xv_a (xb_v e_con))))) ?_ ?_
    · intro c417
      exact sq_retP (xb_v (cL1 (x := a384.2) (F := (fun z450 => [.ow bo z450, .sh false a384.1])) (xn_v (e_lst (as_one (v_p2 (xv_a (xb_v e_con)) (xv_a (xb_v e_con))) (as_one (v_p1 (xv_a (v_p2 (xv_a (xb_v e_con)) (xv_a (xb_v e_con))))) (as_one (xb_v e_con) (as_one (xb_v e_con) as_nil)))))) (fun x0 => r__law_any_of (lv rfl hn) true a384.2 x0))) (fun _ => pf_ret (hB := (fun h => by subst h; rfl)))
    intro c417
    refine sq_nil ?_
    exact sq_retP (xv_ife (V := Ib) (F := Fc _) (V3 := (fun (z : D × D) => z.1)) (F3 := (fun (z516 : D × D) => [.ow bo z516.2, .sh false a384.1])) (t_val (xv_a (v_p2 (xv_a (xb_v (e_var (x := a384.1)))) (xv_a (xb_v e_con))))) (fun _ => (xv_prm (V3 := (fun (z : D × D) => z.1)) (F3 := (fun (z468 : D × D) => [.ow bo z468.2, .sh false a384.1])) (fun (a466 : List D × D) (d467 : D) => (d467, a466.2)) (xs_cons (V3 := (fun (z : List D × D) => z.1)) (F3 := (fun (z465 : List D × D) => [.ow bo z465.2, .sh false a384.1])) (fun (a459 : D × D) (t464 : List D) => ((a459.1 :: t464), a459.2)) (xb_v (cL1 (x := a384.2) (F := (fun z461 => [.ow bo z461, .sh false a384.1])) (xb_v e_con) (fun x0 => r__law_cast (lv rfl hn) true a384.2 x0))) (fun a459 => (xs_cons (V3 := Il) (F3 := (Fc _)) (fun a462 t463 => (a462 :: t463)) (xb_v e_con) (fun a462 => xs_nil)))))) (fun _ => (xv_prm (V3 := (fun (z : D × D) => z.1)) (F3 := (fun (z508 : D × D) => [.ow bo z508.2, .sh false a384.1])) (fun (a506 : List D × D) (d507 : D) => (d507, a506.2)) (xs_cons (V3 := (fun (z : List D × D) => z.1)) (F3 := (fun (z505 : List D × D) => [.ow bo z505.2, .sh false a384.1])) (fun (a475 : D × D) (t504 : List D) => ((a475.1 :: t504), a475.2)) (xb_v (cL1 (x := a384.2) (F := (fun z495 => [.ow bo z495, .sh false a384.1])) (v_p2 (xv_a (v_p2 (xv_a (xb_v e_con)) (xv_a (v_p2 (xv_a (xb_v e_con)) (xv_a (xb_v e_con)))))) (xv_a (xb_v e_con))) (fun x0 => r__law_cast (lv rfl hn) true a384.2 x0))) (fun a475 => (xs_cons (V3 := Il) (F3 := (Fc _)) (fun a496 t503 => (a496 :: t503)) (v_p2 (xv_a (xb_v e_con)) (xv_a (xb_v e_con))) (fun a496 => xs_nil))))))) (fun _ => pf_ret (hB := (fun h => by subst h; rfl)))
  exact fv_of (d := d__law_number) rfl rfl h.r
theorem r__law_one {n : Nat} (hn : 1 ≤ n) (x_0 : D) : FP (calls tab n) 1007 [x_0] (m__law_one x_0) := by
  obtain ⟨n, rfl⟩ : ∃ k, n = k + 1 := ⟨n - 1, by omega⟩
  have hn : 0 ≤ n := Nat.le_of_succ_le_succ hn
  have h : SQ (calls tab n) t__law_one [] [.sh false x_0, .no, .no] (m__law_one x_0) (PF 1 I1 (fun _ _ => True)) := by
    unfold m__law_one
    exact sq_retP (v_p1 (xv_a (xn_v (e_lcM (Q0 := [.sh false x_0, .no, .no]) (i_rng1 (xb_v (e_var (x := x_0)))) (fun d520 => tn1_of (Fp := fun b522 => [.sh false x_0, .sh false b522, .no]) (Fe := fun b522 _ => [.sh false x_0, .sh false b522, .no]) (xl_nm (F := fun z521 => [.sh false x_0, .sh false z521, .no])) (fun b522 => (v_p1 (xv_a (xn_v (e_lcM (Q0 := [.sh false x_0, .sh false b522, .no]) (i_rng1 (xb_v (e_var (x := x_0)))) (fun d525 => tn1_of (Fp := fun b527 => [.sh false x_0, .sh false b522, .sh false b527]) (Fe := fun b527 _ => [.sh false x_0, .sh false b522, .sh false b527]) (xl_nm (F := fun z526 => [.sh false x_0, .sh false b522, .sh false z526])) (fun b527 => (v_p1 (xv_a (v_p2 (xv_a (xb_v (e_var (x := b522)))) (xv_a (xb_v (e_var (x := b527))))))))))))))))))) (fun _ => pf_ret (hB := trivial))
  exact fv_of (d := d__law_one) rfl rfl h.r
theorem r_written_integer {n : Nat} (hn : 1 ≤ n) (x_0 : D) : FP (calls tab n) 3 [x_0] (m_written_integer x_0) := by
  obtain ⟨n, rfl⟩ : ∃ k, n = k + 1 := ⟨n - 1, by omega⟩
  have hn : 0 ≤ n := Nat.le_of_succ_le_succ hn
  have h : SQ (calls tab n) t_written_integer [] [.sh false x_0, .no, .no] (m_written_integer x_0) (PF 1 I1 (fun _ _ => True)) := by
    unfold m_written_integer
    refine sq_set (F' := fun a567 => [.sh false x_0, .sh false a567, .no]) (v_ife (t_val (xv_a (v_p2 (xv_a (v_p2 (xv_a (xb_v (e_var (x := x_0)))) (xv_a (xb_v e_con)))) (xv_a (xb_v e_con))))) (v_p2 (xv_a (xb_v (e_var (x := x_0)))) (xv_a (xb_v e_con))) (xb_v (e_var (x := x_0)))) ?_
    intro a567
    refine sq_if (t_any (t_val (xv_a (v_p2 (xv_a (xb_v (e_var (x := a567)))) (xv_a (xb_v e_con))))) (t_any (t_val (xv_a (v_p2 (xv_a (v_p1 (xv_a (xb_v (e_var (x := a567)))))) (xv_a (xb_v e_con))))) (t_not (t_val (xv_a (v_p1 (xv_a (xn_v (e_lcM (Q0 := [.sh false x_0, .sh false a567, .no]) (i_seq (xb_v (e_var (x := a567)))) (fun d588 => tn1_of (Fp := fun b590 => [.sh false x_0, .sh false a567, .sh false b590]) (Fe := fun b590 _ => [.sh false x_0, .sh false a567, .sh false b590]) (xl_nm (F := fun z589 => [.sh false x_0, .sh false a567, .sh false z589])) (fun b590 => (v_p2 (xv_a (xb_v (e_var (x := b590)))) (xv_a (xb_v e_glo)))))))))))))) ?_ ?_
    · intro c606
      exact sq_retP (xb_v e_con) (fun _ => pf_ret (hB := trivial))
    intro c606
    refine sq_nil ?_
    exact sq_retP (v_ife (t_val (xv_a (v_p2 (xv_a (v_p1 (xv_a (v_p1 (xv_a (xb_v (e_var (x := x_0)))))))) (xv_a (xb_v (e_var (x := x_0))))))) (v_p1 (xv_a (xb_v (e_var (x := x_0))))) (xb_v e_con)) (fun _ => pf_ret (hB := trivial))
  exact fv_of (d := d_written_integer) rfl rfl h.r
theorem r_text_row {n : Nat} (hn : 2 ≤ n) (x_0 : D) : FP (calls tab n) 6 [x_0] (m_text_row x_0) := by
  obtain ⟨n, rfl⟩ : ∃ k, n = k + 1 := ⟨n - 1, by omega⟩
  have hn : 1 ≤ n := Nat.le_of_succ_le_succ hn
  have h : SQ (calls tab n) t_text_row [] [.sh false x_0, .no] (m_text_row x_0) (PF 1 I1 (fun _ _ => True)) := by
    unfold m_text_row
    exact sq_retP (v_p1 (xv_a (xn_v (e_lcM (Q0 := [.sh false x_0, .no]) (i_seq (v_mth (e_var (x := x_0)) (xv_a (xb_v e_con)))) (fun d634 => tn1_of (Fp := fun b636 => [.sh false x_0, .sh false b636]) (Fe := fun b636 _ => [.sh false x_0, .sh false b636]) (xl_nm (F := fun z635 => [.sh false x_0, .sh false z635])) (fun b636 => (xb_v (c1_b (xb_v (e_var (x := b636))) (fun x0 => r_written_integer (lv rfl hn) x0))))))))) (fun _ => pf_ret (hB := trivial))
  exact fv_of (d := d_text_row) rfl rfl h.r
theorem r_text_lot {n : Nat} (hn : 6 ≤ n) (x_0 : D) : FP (calls tab n) 7 [x_0] (m_text_lot x_0) := by
  obtain ⟨n, rfl⟩ : ∃ k, n = k + 1 := ⟨n - 1, by omega⟩
  have hn : 5 ≤ n := Nat.le_of_succ_le_succ hn
  have h : SQ (calls tab n) t_text_lot [] [.sh false x_0, .no, .no, .no, .no, .no] (m_text_lot x_0) (PF 1 I1 (fun _ _ => True)) := by
    unfold m_text_lot
    refine sq_if (t_not (t_val (xv_a (v_p1 (xv_a (xb_v (e_var (x := x_0)))))))) ?_ ?_
    · intro c648
      exact sq_retP (xb_v e_con) (fun _ => pf_ret (hB := trivial))
    intro c648
    refine sq_nil ?_
    refine sq_set (F' := fun a656 => [.sh false x_0, .sh false a656, .no, .no, .no, .no]) (v_mth (e_var (x := x_0)) (xv_a (xb_v e_con))) ?_
    intro a656
    refine sq_set (F' := fun a691 => [.sh false x_0, .sh false a656, .sh false a691, .no, .no, .no]) (v_ife (t_val (xv_a (v_p2 (xv_a (v_p2 (xv_a (v_p2 (xv_a (xb_v (e_var (x := a656)))) (xv_a (xb_v e_con)))) (xv_a (xb_v e_con)))) (xv_a (xb_v e_con))))) (xb_v (c1_b (v_p2 (xv_a (v_p2 (xv_a (xb_v (e_var (x := a656)))) (xv_a (xb_v e_con)))) (xv_a (xb_v e_con))) (fun x0 => r_written_integer (lv rfl hn) x0))) (xb_v e_con)) ?_
    intro a691
    refine sq_if (t_any (t_val (xv_a (v_p1 (xv_a (xb_v (e_var (x := a691))))))) (t_any (t_not (t_val (xv_a (xb_v (e_chain (xb_v e_con) (xb_v (e_var (x := a691))) (xb_v e_glo)))))) (t_val (xv_a (v_p2 (xv_a (v_p2 (xv_a (v_p1 (xv_a (xb_v (e_var (x := a656)))))) (xv_a (v_p2 (xv_a (xb_v (e_var (x := a691)))) (xv_a (xb_v e_con)))))) (xv_a (xb_v e_con))))))) ?_ ?_
    · intro c730
      exact sq_retP (xb_v e_con) (fun _ => pf_ret (hB := trivial))
    intro c730
    refine sq_nil ?_
    refine sq_new (F' := fun a732 => [.sh false x_0, .sh false a656, .sh false a691, .ow false a732, .no, .no]) (e_lst as_nil) ?_
    intro a732
    refine sq_kil (q1 := [.no, .sh false a656, .sh false a691, .ow false a732, .no, .no]) ?_ rfl
    refine sq_for (ρ := D) (R := (PF 1 I1 (fun _ _ => True))) (F := (fun s749 => [.no, .sh false a656, .sh false a691, .ow false s749, .no, .no])) (Ft := (fun s749 b752 => [.no, .sh false a656, .sh false a691, .ow false s749, .sh false b752, .no])) (fun a748 => a732) (fun x841 =>  x841) (i_rng3 (xb_v e_con) (v_p1 (xv_a (xb_v (e_var (x := a656))))) (v_p2 (xv_a (xb_v (e_var (x := a691)))) (xv_a (xb_v e_con)))) (fun s749 d750 => (xl_nm (F := fun z751 => [.no, .sh false a656, .sh false a691, .ow false s749, .sh false z751, .no]))) ?_ ?_ (fun _ _ h _ => h)
    · intro s749 b752
      refine sq_if (t_val (xv_a (v_p2 (xv_a (v_p2 (xv_a (xb_v (e_var (x := a656)))) (xv_a (xb_v (e_var (x := b752)))))) (xv_a (xb_v e_con))))) ?_ ?_
      · intro c766
        exact sq_retS (fun a767 => Fl.ret a767) (xb_v e_con) (fun _ => pbr (pf_ret (hB := trivial)))
      intro c766
      refine sq_nil ?_
      refine sq_app (x := fun a804 => s749) (bo := fun _ => false) (F' := fun a804 y805 => [.no, .sh false a656, .sh false a691, .ow false y805, .sh false b752, .no]) (v_p1 (xv_a (xn_v (e_lcM (Q0 := [.no, .sh false a656, .sh false a691, .ow false s749, .sh false b752, .no]) (i_seq (v_p3 (xv_a (xb_v (e_var (x := a656)))) (xv_a (v_p2 (xv_a (xb_v (e_var (x := b752)))) (xv_a (xb_v e_con)))) (xv_a (v_p2 (xv_a (v_p2 (xv_a (xb_v (e_var (x := b752)))) (xv_a (xb_v e_con)))) (xv_a (xb_v (e_var (x := a691)))))))) (fun d796 => tn1_of (Fp := fun b798 => [.no, .sh false a656, .sh false a691, .ow false s749, .sh false b752, .sh false b798]) (Fe := fun b798 _ => [.no, .sh false a656, .sh false a691, .ow false s749, .sh false b752, .sh false b798]) (xl_nm (F := fun z797 => [.no, .sh false a656, .sh false a691, .ow false s749, .sh false b752, .sh false z797])) (fun b798 => (xb_v (c1_b (xb_v (e_var (x := b798))) (fun x0 => r_text_row (lv rfl hn) x0))))))))) (fun _ => rfl) ?_
      intro a804 y805
      refine sq_kil (q1 := [.no, .sh false a656, .sh false a691, .ow false y805, .no, .no]) ?_ rfl
      exact sq_end (.inl rfl)
    intro s806
    refine sq_if (t_any (t_val (xv_a (v_p1 (xv_a (xb_v (c1_b (v_p1 (ea_own (x := s806))) (fun x0 => r_wrong_table (lv rfl hn) x0))))))) (t_val (xv_a (v_p2 (xv_a (v_p1 (xv_a (v_p2 (ea_own (x := s806)) (xv_a (xb_v e_con)))))) (xv_a (xb_v (e_var (x := a691)))))))) ?_ ?_
    · intro c834
      exact sq_retP (xb_v e_con) (fun _ => pf_ret (hB := trivial))
    intro c834
    refine sq_nil ?_
    exact sq_retP (xb_v (m1_b (v_p1 (ea_own (x := s806))) (fun x0 => r_Lot_init (lv rfl hn) x0))) (fun _ => pf_ret (hB := trivial))
  exact fv_of (d := d_text_lot) rfl rfl h.r
theorem r_Lot_read {n : Nat} (hn : 7 ≤ n) (x_0 x_1 : D) : FP (calls tab n) 221 [x_0, x_1] (m_Lot_read x_0 x_1) := by
  obtain ⟨n, rfl⟩ : ∃ k, n = k + 1 := ⟨n - 1, by omega⟩
  have hn : 6 ≤ n := Nat.le_of_succ_le_succ hn
  have h : SQ (calls tab n) t_Lot_read [] [.sh false x_0, .sh false x_1, .no] (m_Lot_read x_0 x_1) (PF 2 I1 (fun _ _ => True)) := by
    unfold m_Lot_read
    refine sq_set (F' := fun a843 => [.sh false x_0, .sh false x_1, .sh false a843]) (xb_v (c1_b (xb_v (e_var (x := x_1))) (fun x0 => r_text_lot (lv rfl hn) x0))) ?_
    intro a843
    refine sq_if (t_val (xv_a (v_p1 (xv_a (xb_v (e_var (x := a843))))))) ?_ ?_
    · intro c848
      exact sq_nev
    intro c848
    refine sq_nil ?_
    exact sq_retP (xb_v (e_var (x := a843))) (fun _ => pf_ret (hB := trivial))
  exact fv_of (d := d_Lot_read) rfl rfl h.r
theorem r__law_lines {n : Nat} (hn : 1 ≤ n) (x_0 : D) : FP (calls tab n) 1012 [x_0] (m__law_lines x_0) := by
  obtain ⟨n, rfl⟩ : ∃ k, n = k + 1 := ⟨n - 1, by omega⟩
  have hn : 0 ≤ n := Nat.le_of_succ_le_succ hn
  have h : SQ (calls tab n) t__law_lines [] [.sh false x_0, .no, .no, .no, .no] (m__law_lines x_0) (PF 1 I1 (fun _ _ => True)) := by
    unfold m__law_lines
    refine sq_set (F' := fun a872 => [.sh false x_0, .sh false a872, .no, .no, .no]) (xn_v (e_lst (as_one (v_p2 (xv_a (xb_v e_con)) (xv_a (v_p1 (xv_a (v_p1 (xv_a (v_p2 (xv_a (xb_v (e_var (x := x_0)))) (xv_a (xb_v e_con))))))))) as_nil))) ?_
    intro a872
    refine sq_forN (F := (fun s875 => [.sh false x_0, .sh false s875, .no, .no, .no])) (Ft := (fun s875 b878 => [.sh false x_0, .sh false s875, .sh false b878, .no, .no])) (fun a874 => a872) (i_seq (xb_v (e_var (x := x_0)))) (fun s875 d876 => (xl_nm (F := fun z877 => [.sh false x_0, .sh false s875, .sh false z877, .no, .no]))) ?_ ?_
    · intro s875 b878
      refine sq_set (F' := fun a914 => [.sh false x_0, .sh false a914, .sh false b878, .no, .no]) (v_p2 (xv_a (v_p2 (xv_a (xb_v (e_var (x := s875)))) (xv_a (xn_v (e_lst (as_one (xb_v e_con) as_nil)))))) (xv_a (xn_v (e_lcM (Q0 := [.sh false x_0, .sh false s875, .sh false b878, .no, .no]) (i_seq (xb_v (e_var (x := b878)))) (fun d890 => tn1_of (Fp := fun b892 => [.sh false x_0, .sh false s875, .sh false b878, .sh false b892, .no]) (Fe := fun b892 _ => [.sh false x_0, .sh false s875, .sh false b878, .sh false b892, .no]) (xl_nm (F := fun z891 => [.sh false x_0, .sh false s875, .sh false b878, .sh false z891, .no])) (fun b892 => (v_mth e_con (xv_a (xn_v (e_lcM (Q0 := [.sh false x_0, .sh false s875, .sh false b878, .sh false b892, .no]) (i_seq (xb_v (e_var (x := b892)))) (fun d894 => tn1_of (Fp := fun b896 => [.sh false x_0, .sh false s875, .sh false b878, .sh false b892, .sh false b896]) (Fe := fun b896 _ => [.sh false x_0, .sh false s875, .sh false b878, .sh false b892, .sh false b896]) (xl_nm (F := fun z895 => [.sh false x_0, .sh false s875, .sh false b878, .sh false b892, .sh false z895])) (fun b896 => (v_p1 (xv_a (xb_v (e_var (x := b896))))))))))))))))) ?_
      intro a914
      refine sq_kil (q1 := [.sh false x_0, .sh false a914, .no, .no, .no]) ?_ rfl
      exact sq_end (.inl rfl)
    intro s915
    exact sq_retP (xb_v (e_var (x := s915))) (fun _ => pf_ret (hB := trivial))
  exact fv_of (d := d__law_lines) rfl rfl h.r
theorem r__law_sheet {n : Nat} (hn : 2 ≤ n) (x_0 : D) : FP (calls tab n) 1013 [x_0] (m__law_sheet x_0) := by
  obtain ⟨n, rfl⟩ : ∃ k, n = k + 1 := ⟨n - 1, by omega⟩
  have hn : 1 ≤ n := Nat.le_of_succ_le_succ hn
  have h : SQ (calls tab n) t__law_sheet [] [.sh false x_0] (m__law_sheet x_0) (PF 1 I1 (fun _ _ => True)) := by
    unfold m__law_sheet
    exact sq_retP (v_mth e_con (xv_a (xb_v (c1_b (xb_v (e_var (x := x_0))) (fun x0 => r__law_lines (lv rfl hn) x0))))) (fun _ => pf_ret (hB := trivial))
  exact fv_of (d := d__law_sheet) rfl rfl h.r
theorem r__law_built {n : Nat} (hn : 8 ≤ n) (bo : Bool) (x_0 x_1 : D) : FLb (calls tab n) 1014 bo x_0 [x_1] (m__law_built x_0 x_1) := by
  obtain ⟨n, rfl⟩ : ∃ k, n = k + 1 := ⟨n - 1, by omega⟩
  have hn : 7 ≤ n := Nat.le_of_succ_le_succ hn
  have h : SQ (calls tab n) t__law_built [] [.ow bo x_0, .sh false x_1, .no] (m__law_built x_0 x_1) (PF 2 (fun y => y.1) (fun (y : D × D) q' => bo = true → q' = .ow true y.2 :: List.replicate 1 .no)) := by
    unfold m__law_built
    refine sq_set (F' := fun a927 => [.ow bo a927.2, .sh false x_1, .sh false a927.1]) (xb_v (cL1 (x := x_0) (F := (fun z926 => [.ow bo z926, .sh false x_1, .no])) (xb_v e_con) (fun x0 => r__law_cast (lv rfl hn) true x_0 x0))) ?_
    intro a927
    refine sq_if (t_val (xv_a (v_p2 (xv_a (xb_v (e_var (x := a927.1)))) (xv_a (xb_v e_con))))) ?_ ?_
    · intro c935
      exact sq_retS (fun a937 => (a937, a927.2)) (xb_v (m1_b (xb_v (e_var (x := x_1))) (fun x0 => r_Lot_init (lv rfl hn) x0))) (fun _ => pf_ret (hB := (fun h => by subst h; rfl)))
    intro c935
    refine sq_nil ?_
    exact sq_retS (fun a952 => (a952, a927.2)) (v_ife (t_val (xv_a (v_p2 (xv_a (xb_v (e_var (x := a927.1)))) (xv_a (xb_v e_con))))) (xb_v (mk1_b (xb_v (e_var (x := x_1))) (fun x0 => r_Lot_init (lv rfl hn) x0))) (xb_v (c2_b (xb_v e_con) (xb_v (c1_b (xb_v (e_var (x := x_1))) (fun x0 => r__law_sheet (lv rfl hn) x0))) (fun x0 x1 => r_Lot_read (lv rfl hn) x0 x1)))) (fun _ => pf_ret (hB := (fun h => by subst h; rfl)))
  exact fv_of (d := d__law_built) rfl rfl h.r
theorem r_check_lot {n : Nat} (hn : 1 ≤ n) (x_0 : D) : FP (calls tab n) 12 [x_0] (m_check_lot x_0) := by
  obtain ⟨n, rfl⟩ : ∃ k, n = k + 1 := ⟨n - 1, by omega⟩
  have hn : 0 ≤ n := Nat.le_of_succ_le_succ hn
  have h : SQ (calls tab n) t_check_lot [] [.sh false x_0] (m_check_lot x_0) (PF 1 I1 (fun _ _ => True)) := by
    unfold m_check_lot
    refine sq_if (t_not (t_val (xv_a (v_p1 (xv_a (xb_v (e_var (x := x_0)))))))) ?_ ?_
    · intro c959
      exact sq_nev
    intro c959
    refine sq_nil ?_
    exact sq_end (pf_nx (hB := trivial))
  exact fv_of (d := d_check_lot) rfl rfl h.r
theorem r_wrong_letter {n : Nat} (hn : 2 ≤ n) (x_0 x_1 : D) : FP (calls tab n) 37 [x_0, x_1] (m_wrong_letter x_0 x_1) := by
  obtain ⟨n, rfl⟩ : ∃ k, n = k + 1 := ⟨n - 1, by omega⟩
  have hn : 1 ≤ n := Nat.le_of_succ_le_succ hn
  have h : SQ (calls tab n) t_wrong_letter [] [.sh false x_0, .sh false x_1, .no, .no] (m_wrong_letter x_0 x_1) (PF 2 I1 (fun _ _ => True)) := by
    unfold m_wrong_letter
    refine sq_if (t_not (t_val (xv_a (v_p1 (xv_a (xb_v (e_var (x := x_1)))))))) ?_ ?_
    · intro c965
      exact sq_retP (v_p1 (xv_a (xb_v e_con))) (fun _ => pf_ret (hB := trivial))
    intro c965
    refine sq_nil ?_
    refine sq_for (ρ := D) (R := (PF 2 I1 (fun _ _ => True))) (F := (fun (s973 : Unit) => [.sh false x_0, .sh false x_1, .no, .no])) (Ft := (fun (s973 : Unit) b976 => [.sh false x_0, .sh false x_1, .sh false b976.1, .sh false b976.2])) (fun a972 => ()) (fun x1007 =>  x1007) (i_enm (xb_v (e_var (x := x_1)))) (fun (s973 : Unit) d974 => (xl_nn (F := fun z975 => [.sh false x_0, .sh false x_1, .sh false z975.1, .sh false z975.2]))) ?_ ?_ (fun _ _ h _ => h)
    · intro s973 b976
      refine sq_if (t_any (t_val (xv_a (v_p2 (xv_a (xb_v (e_var (x := b976.1)))) (xv_a (xb_v e_glo))))) (t_any (t_not (t_val (xv_a (xb_v (c1_b (xb_v (e_var (x := b976.2))) (fun x0 => r_is_integer (lv rfl hn) x0)))))) (t_not (t_val (xv_a (xb_v (e_chain (xb_v e_con) (xb_v (e_var (x := b976.2))) (v_p1 (xv_a (xb_v (e_fld (e_var (x := x_0))))))))))))) ?_ ?_
      · intro c1003
        exact sq_retS (fun a1004 => Fl.ret a1004) (xb_v (e_var (x := b976.1))) (fun _ => pbr (pf_ret (hB := trivial)))
      intro c1003
      refine sq_nil ?_
      refine sq_kil (q1 := [.sh false x_0, .sh false x_1, .no, .no]) ?_ rfl
      exact sq_end (.inl rfl)
    intro _
    exact sq_retP (xb_v e_con) (fun _ => pf_ret (hB := trivial))
  exact fv_of (d := d_wrong_letter) rfl rfl h.r
theorem r_check_word {n : Nat} (hn : 3 ≤ n) (x_0 x_1 : D) : FP (calls tab n) 48 [x_0, x_1] (m_check_word x_0 x_1) := by
  obtain ⟨n, rfl⟩ : ∃ k, n = k + 1 := ⟨n - 1, by omega⟩
  have hn : 2 ≤ n := Nat.le_of_succ_le_succ hn
  have h : SQ (calls tab n) t_check_word [] [.sh false x_0, .sh false x_1, .no] (m_check_word x_0 x_1) (PF 2 I1 (fun _ _ => True)) := by
    unfold m_check_word
    refine sq_set (F' := fun a1010 => [.sh false x_0, .sh false x_1, .sh false a1010]) (xb_v (c2_b (xb_v (e_var (x := x_0))) (xb_v (e_var (x := x_1))) (fun x0 x1 => r_wrong_letter (lv rfl hn) x0 x1))) ?_
    intro a1010
    refine sq_if (t_val (xv_a (v_p1 (xv_a (xb_v (e_var (x := a1010))))))) ?_ ?_
    · intro c1015
      exact sq_nev
    intro c1015
    refine sq_nil ?_
    exact sq_end (pf_nx (hB := trivial))
  exact fv_of (d := d_check_word) rfl rfl h.r
theorem r_unit {n : Nat} (hn : 1 ≤ n) (x_0 : D) : FP (calls tab n) 9 [x_0] (m_unit x_0) := by
  obtain ⟨n, rfl⟩ : ∃ k, n = k + 1 := ⟨n - 1, by omega⟩
  have hn : 0 ≤ n := Nat.le_of_succ_le_succ hn
  have h : SQ (calls tab n) t_unit [] [.sh false x_0, .no, .no] (m_unit x_0) (PF 1 I1 (fun _ _ => True)) := by
    unfold m_unit
    exact sq_retP (v_p1 (xv_a (xn_v (e_lcM (Q0 := [.sh false x_0, .no, .no]) (i_rng1 (xb_v (e_var (x := x_0)))) (fun d1018 => tn1_of (Fp := fun b1020 => [.sh false x_0, .sh false b1020, .no]) (Fe := fun b1020 _ => [.sh false x_0, .sh false b1020, .no]) (xl_nm (F := fun z1019 => [.sh false x_0, .sh false z1019, .no])) (fun b1020 => (v_p1 (xv_a (xn_v (e_lcM (Q0 := [.sh false x_0, .sh false b1020, .no]) (i_rng1 (xb_v (e_var (x := x_0)))) (fun d1023 => tn1_of (Fp := fun b1025 => [.sh false x_0, .sh false b1020, .sh false b1025]) (Fe := fun b1025 _ => [.sh false x_0, .sh false b1020, .sh false b1025]) (xl_nm (F := fun z1024 => [.sh false x_0, .sh false b1020, .sh false z1024])) (fun b1025 => (v_ife (t_val (xv_a (v_p2 (xv_a (xb_v (e_var (x := b1020)))) (xv_a (xb_v (e_var (x := b1025))))))) (xb_v e_con) (xb_v e_con)))))))))))))) (fun _ => pf_ret (hB := trivial))
  exact fv_of (d := d_unit) rfl rfl h.r
theorem r_times {n : Nat} (hn : 1 ≤ n) (x_0 x_1 : D) : FP (calls tab n) 10 [x_0, x_1] (m_times x_0 x_1) := by
  obtain ⟨n, rfl⟩ : ∃ k, n = k + 1 := ⟨n - 1, by omega⟩
  have hn : 0 ≤ n := Nat.le_of_succ_le_succ hn
  have h : SQ (calls tab n) t_times [] [.sh false x_0, .sh false x_1, .no, .no, .no, .no, .no] (m_times x_0 x_1) (PF 2 I1 (fun _ _ => True)) := by
    unfold m_times
    refine sq_set (F' := fun a1045 => [.sh false x_0, .sh false x_1, .sh false a1045, .no, .no, .no, .no]) (xn_v (e_zipS (xv_a (xb_v (e_var (x := x_1)))))) ?_
    intro a1045
    exact sq_retP (v_p1 (xv_a (xn_v (e_lcM (Q0 := [.sh false x_0, .sh false x_1, .sh false a1045, .no, .no, .no, .no]) (i_seq (xb_v (e_var (x := x_0)))) (fun d1047 => tn1_of (Fp := fun b1049 => [.sh false x_0, .sh false x_1, .sh false a1045, .sh false b1049, .no, .no, .no]) (Fe := fun b1049 _ => [.sh false x_0, .sh false x_1, .sh false a1045, .sh false b1049, .no, .no, .no]) (xl_nm (F := fun z1048 => [.sh false x_0, .sh false x_1, .sh false a1045, .sh false z1048, .no, .no, .no])) (fun b1049 => (v_p1 (xv_a (xn_v (e_lcM (Q0 := [.sh false x_0, .sh false x_1, .sh false a1045, .sh false b1049, .no, .no, .no]) (i_seq (xb_v (e_var (x := a1045)))) (fun d1051 => tn1_of (Fp := fun b1053 => [.sh false x_0, .sh false x_1, .sh false a1045, .sh false b1049, .sh false b1053, .no, .no]) (Fe := fun b1053 _ => [.sh false x_0, .sh false x_1, .sh false a1045, .sh false b1049, .sh false b1053, .no, .no]) (xl_nm (F := fun z1052 => [.sh false x_0, .sh false x_1, .sh false a1045, .sh false b1049, .sh false z1052, .no, .no])) (fun b1053 => (v_p1 (xv_a (xn_v (e_lcM (Q0 := [.sh false x_0, .sh false x_1, .sh false a1045, .sh false b1049, .sh false b1053, .no, .no]) (i_zip (xb_v (e_var (x := b1049))) (xb_v (e_var (x := b1053)))) (fun d1058 => tn1_of (Fp := fun b1060 => [.sh false x_0, .sh false x_1, .sh false a1045, .sh false b1049, .sh false b1053, .sh false b1060.1, .sh false b1060.2]) (Fe := fun b1060 _ => [.sh false x_0, .sh false x_1, .sh false a1045, .sh false b1049, .sh false b1053, .sh false b1060.1, .sh false b1060.2]) (xl_nn (F := fun z1059 => [.sh false x_0, .sh false x_1, .sh false a1045, .sh false b1049, .sh false b1053, .sh false z1059.1, .sh false z1059.2])) (fun b1060 => (v_p2 (xv_a (xb_v (e_var (x := b1060.1)))) (xv_a (xb_v (e_var (x := b1060.2))))))))))))))))))))))) (fun _ => pf_ret (hB := trivial))
  exact fv_of (d := d_times) rfl rfl h.r
theorem r_product_of {n : Nat} (hn : 2 ≤ n) (x_0 x_1 : D) : FP (calls tab n) 34 [x_0, x_1] (m_product_of x_0 x_1) := by
  obtain ⟨n, rfl⟩ : ∃ k, n = k + 1 := ⟨n - 1, by omega⟩
  have hn : 1 ≤ n := Nat.le_of_succ_le_succ hn
  have h : SQ (calls tab n) t_product_of [] [.sh false x_0, .sh false x_1, .no, .no] (m_product_of x_0 x_1) (PF 2 I1 (fun _ _ => True)) := by
    unfold m_product_of
    refine sq_set (F' := fun a1090 => [.sh false x_0, .sh false x_1, .sh false a1090, .no]) (xb_v (c1_b (v_p1 (xv_a (v_p2 (xv_a (xb_v (e_var (x := x_0)))) (xv_a (xb_v e_con))))) (fun x0 => r_unit (lv rfl hn) x0))) ?_
    intro a1090
    refine sq_forN (F := (fun s1093 => [.sh false x_0, .sh false x_1, .sh false s1093, .no])) (Ft := (fun s1093 b1096 => [.sh false x_0, .sh false x_1, .sh false s1093, .sh false b1096])) (fun a1092 => a1090) (i_seq (xb_v (e_var (x := x_1)))) (fun s1093 d1094 => (xl_nm (F := fun z1095 => [.sh false x_0, .sh false x_1, .sh false s1093, .sh false z1095]))) ?_ ?_
    · intro s1093 b1096
      refine sq_set (F' := fun a1105 => [.sh false x_0, .sh false x_1, .sh false a1105, .sh false b1096]) (xb_v (c2_b (xb_v (e_var (x := s1093))) (v_p2 (xv_a (xb_v (e_var (x := x_0)))) (xv_a (xb_v (e_var (x := b1096))))) (fun x0 x1 => r_times (lv rfl hn) x0 x1))) ?_
      intro a1105
      refine sq_kil (q1 := [.sh false x_0, .sh false x_1, .sh false a1105, .no]) ?_ rfl
      exact sq_end (.inl rfl)
    intro s1106
    exact sq_retP (xb_v (e_var (x := s1106))) (fun _ => pf_ret (hB := trivial))
  exact fv_of (d := d_product_of) rfl rfl h.r
theorem r_Lot_tables {n : Nat} (hn : 1 ≤ n) (x_0 : D) : FP (calls tab n) 200 [x_0] (m_Lot_tables x_0) := by
  obtain ⟨n, rfl⟩ : ∃ k, n = k + 1 := ⟨n - 1, by omega⟩
  have hn : 0 ≤ n := Nat.le_of_succ_le_succ hn
  have h : SQ (calls tab n) t_Lot_tables [] [.sh false x_0] (m_Lot_tables x_0) (PF 1 I1 (fun _ _ => True)) := by
    unfold m_Lot_tables
    exact sq_retP (xb_v (e_fld (e_var (x := x_0)))) (fun _ => pf_ret (hB := trivial))
  exact fv_of (d := d_Lot_tables) rfl rfl h.r
theorem r_product {n : Nat} (hn : 4 ≤ n) (x_0 x_1 : D) : FP (calls tab n) 58 [x_0, x_1] (m_product x_0 x_1) := by
  obtain ⟨n, rfl⟩ : ∃ k, n = k + 1 := ⟨n - 1, by omega⟩
  have hn : 3 ≤ n := Nat.le_of_succ_le_succ hn
  have h : SQ (calls tab n) t_product [] [.sh false x_0, .sh false x_1] (m_product x_0 x_1) (PF 2 I1 (fun _ _ => True)) := by
    unfold m_product
    refine sq_expr (xb_v (c1_b (xb_v (e_var (x := x_0))) (fun x0 => r_check_lot (lv rfl hn) x0))) ?_
    intro a1111
    refine sq_expr (xb_v (c2_b (xb_v (e_var (x := x_0))) (xb_v (e_var (x := x_1))) (fun x0 x1 => r_check_word (lv rfl hn) x0 x1))) ?_
    intro a1114
    exact sq_retP (xb_v (c2_b (xb_v (e_prop (e_var (x := x_0)) (fun x => r_Lot_tables (lv rfl hn) x))) (xb_v (e_var (x := x_1))) (fun x0 x1 => r_product_of (lv rfl hn) x0 x1))) (fun _ => pf_ret (hB := trivial))
  exact fv_of (d := d_product) rfl rfl h.r
theorem r_trace_of {n : Nat} (hn : 1 ≤ n) (x_0 : D) : FP (calls tab n) 11 [x_0] (m_trace_of x_0) := by
  obtain ⟨n, rfl⟩ : ∃ k, n = k + 1 := ⟨n - 1, by omega⟩
  have hn : 0 ≤ n := Nat.le_of_succ_le_succ hn
  have h : SQ (calls tab n) t_trace_of [] [.sh false x_0, .no, .no] (m_trace_of x_0) (PF 1 I1 (fun _ _ => True)) := by
    unfold m_trace_of
    exact sq_retP (v_p1 (xv_a (xn_v (e_lcM (Q0 := [.sh false x_0, .no, .no]) (i_enm (xb_v (e_var (x := x_0)))) (fun d1121 => tn1_of (Fp := fun b1123 => [.sh false x_0, .sh false b1123.1, .sh false b1123.2]) (Fe := fun b1123 _ => [.sh false x_0, .sh false b1123.1, .sh false b1123.2]) (xl_nn (F := fun z1122 => [.sh false x_0, .sh false z1122.1, .sh false z1122.2])) (fun b1123 => (v_p2 (xv_a (xb_v (e_var (x := b1123.2)))) (xv_a (xb_v (e_var (x := b1123.1))))))))))) (fun _ => pf_ret (hB := trivial))
  exact fv_of (d := d_trace_of) rfl rfl h.r
theorem r_trace {n : Nat} (hn : 4 ≤ n) (x_0 x_1 : D) : FP (calls tab n) 50 [x_0, x_1] (m_trace x_0 x_1) := by
  obtain ⟨n, rfl⟩ : ∃ k, n = k + 1 := ⟨n - 1, by omega⟩
  have hn : 3 ≤ n := Nat.le_of_succ_le_succ hn
  have h : SQ (calls tab n) t_trace [] [.sh false x_0, .sh false x_1] (m_trace x_0 x_1) (PF 2 I1 (fun _ _ => True)) := by
    unfold m_trace
    refine sq_expr (xb_v (c1_b (xb_v (e_var (x := x_0))) (fun x0 => r_check_lot (lv rfl hn) x0))) ?_
    intro a1136
    refine sq_expr (xb_v (c2_b (xb_v (e_var (x := x_0))) (xb_v (e_var (x := x_1))) (fun x0 x1 => r_check_word (lv rfl hn) x0 x1))) ?_
    intro a1139
    exact sq_retP (xb_v (c1_b (xb_v (c2_b (xb_v (e_prop (e_var (x := x_0)) (fun x => r_Lot_tables (lv rfl hn) x))) (xb_v (e_var (x := x_1))) (fun x0 x1 => r_product_of (lv rfl hn) x0 x1))) (fun x0 => r_trace_of (lv rfl hn) x0))) (fun _ => pf_ret (hB := trivial))
  exact fv_of (d := d_trace) rfl rfl h.r
theorem r__law_corner {n : Nat} (hn : 1 ≤ n) (x_0 : D) : FP (calls tab n) 1025 [x_0] (m__law_corner x_0) := by
  obtain ⟨n, rfl⟩ : ∃ k, n = k + 1 := ⟨n - 1, by omega⟩
  have hn : 0 ≤ n := Nat.le_of_succ_le_succ hn
  have h : SQ (calls tab n) t__law_corner [] [.sh false x_0, .no] (m__law_corner x_0) (PF 1 I1 (fun _ _ => True)) := by
    unfold m__law_corner
    exact sq_retP (v_p1 (xv_a (xn_v (e_lcM (Q0 := [.sh false x_0, .no]) (i_rng1 (v_p1 (xv_a (xb_v (e_var (x := x_0)))))) (fun d1150 => tn1_of (Fp := fun b1152 => [.sh false x_0, .sh false b1152]) (Fe := fun b1152 _ => [.sh false x_0, .sh false b1152]) (xl_nm (F := fun z1151 => [.sh false x_0, .sh false z1151])) (fun b1152 => (v_p2 (xv_a (v_p2 (xv_a (xb_v (e_var (x := x_0)))) (xv_a (xb_v (e_var (x := b1152)))))) (xv_a (xb_v (e_var (x := b1152))))))))))) (fun _ => pf_ret (hB := trivial))
  exact fv_of (d := d__law_corner) rfl rfl h.r
theorem r__law_right {n : Nat} (hn : 9 ≤ n) (bo : Bool) (x_0 : D) : FLb (calls tab n) 1026 bo x_0 [] (m__law_right x_0) := by
  obtain ⟨n, rfl⟩ : ∃ k, n = k + 1 := ⟨n - 1, by omega⟩
  have hn : 8 ≤ n := Nat.le_of_succ_le_succ hn
  have h : SQ (calls tab n) t__law_right [] [.ow bo x_0, .no, .no, .no, .no, .no, .no, .no, .no, .no, .no, .no, .no, .no, .no, .no, .no, .no, .no, .no] (m__law_right x_0) (PF 1 (fun y => y.1) (fun (y : D × D) q' => bo = true → q' = .ow true y.2 :: List.replicate 0 .no)) := by
    unfold m__law_right
    refine sq_for (ρ := D × D) (R := (PF 1 (fun y => y.1) (fun (y : D × D) q' => bo = true → q' = .ow true y.2 :: List.replicate 0 .no))) (F := (fun s1173 => [.ow bo s1173, .no, .no, .no, .no, .no, .no, .no, .no, .no, .no, .no, .no, .no, .no, .no, .no, .no, .no, .no])) (Ft := (fun s1173 b1176 => [.ow bo s1173, .sh false b1176, .no, .no, .no, .no, .no, .no, .no, .no, .no, .no, .no, .no, .no, .no, .no, .no, .no, .no])) (fun a1172 => x_0) (fun x1638 =>  x1638) (i_rng1 (xb_v e_con)) (fun s1173 d1174 => (xl_nm (F := fun z1175 => [.ow bo s1173, .sh false z1175, .no, .no, .no, .no, .no, .no, .no, .no, .no, .no, .no, .no, .no, .no, .no, .no, .no, .no]))) ?_ ?_ (fun _ _ h _ => h)
    · intro s1173 b1176
      refine sq_par2 (F' := fun a1194 a1207 => [.ow bo a1194.2, .sh false b1176, .no, .no, .no, .ow false a1207, .no, .no, .no, .sh false a1194.1, .no, .no, .no, .no, .no, .no, .no, .no, .no, .no]) (xq_b (xb_prm (V3 := (fun (z : D × D) => z.1)) (F3 := (fun (z1190 : D × D) => [.ow bo z1190.2, .sh false b1176, .no, .no, .no, .no, .no, .no, .no, .no, .no, .no, .no, .no, .no, .no, .no, .no, .no, .no])) (fun (a1188 : List D × D) (d1189 : D) => (d1189, a1188.2)) (xs_cons (V3 := (fun (z : List D × D) => z.1)) (F3 := (fun (z1184 : List D × D) => [.ow bo z1184.2, .sh false b1176, .no, .no, .no, .no, .no, .no, .no, .no, .no, .no, .no, .no, .no, .no, .no, .no, .no, .no])) (fun (a1177 : D) (t1183 : List D × D) => ((a1177 :: t1183.1), t1183.2)) (xb_v e_con) (fun a1177 => (xs_cons (V3 := (fun (z : List D × D) => z.1)) (F3 := (fun (z1182 : List D × D) => [.ow bo z1182.2, .sh false b1176, .no, .no, .no, .no, .no, .no, .no, .no, .no, .no, .no, .no, .no, .no, .no, .no, .no, .no])) (fun (a1178 : D × D) (t1181 : List D) => ((a1178.1 :: t1181), a1178.2)) (xb_v (cL1 (x := s1173) (F := (fun z1180 => [.ow bo z1180, .sh false b1176, .no, .no, .no, .no, .no, .no, .no, .no, .no, .no, .no, .no, .no, .no, .no, .no, .no, .no])) (xb_v e_con) (fun x0 => r__law_cast (lv rfl hn) true s1173 x0))) (fun a1178 => xs_nil)))))) (fun a1194 => (xq_n (e_lst (as_one (xb_v e_con) (as_one (xb_v e_con) (as_one (xb_v e_con) as_nil)))))) ?_
      intro a1194 a1207
      refine sq_set (F' := fun a1251 => [.ow bo a1251.2, .sh false b1176, .no, .sh false a1251.1, .no, .ow false a1207, .no, .no, .no, .sh false a1194.1, .no, .no, .no, .no, .no, .no, .no, .no, .no, .no]) (xv_prm (V3 := (fun (z : D × D) => z.1)) (F3 := (fun (z1244 : D × D) => [.ow bo z1244.2, .sh false b1176, .no, .no, .no, .ow false a1207, .no, .no, .no, .sh false a1194.1, .no, .no, .no, .no, .no, .no, .no, .no, .no, .no])) (fun (a1242 : List D × D) (d1243 : D) => (d1243, a1242.2)) (xs_cons (V3 := (fun (z : List D × D) => z.1)) (F3 := (fun (z1241 : List D × D) => [.ow bo z1241.2, .sh false b1176, .no, .no, .no, .ow false a1207, .no, .no, .no, .sh false a1194.1, .no, .no, .no, .no, .no, .no, .no, .no, .no, .no])) (fun (a1208 : D × D) (t1240 : List D) => ((a1208.1 :: t1240), a1208.2)) (xn_v (xn_lcS (V3 := (fun z => z.1)) (F3 := (fun z1239 => [.ow bo z1239.2, .sh false b1176, .no, .no, .no, .ow false a1207, .no, .no, .no, .sh false a1194.1, .no, .no, .no, .no, .no, .no, .no, .no, .no, .no])) (s0 := fun a1237 => a1194.2) (Q := (fun s1212 => [.ow bo s1212, .sh false b1176, .no, .no, .no, .ow false a1207, .no, .no, .no, .sh false a1194.1, .no, .no, .no, .no, .no, .no, .no, .no, .no, .no])) (Q0 := (fun s1212 => [.ow bo s1212, .sh false b1176, .no, .no, .no, .ow false a1207, .no, .no, .no, .sh false a1194.1, .no, .no, .no, .no, .no, .no, .no, .no, .no, .no])) (Fp := (fun b1214 s1212 => [.ow bo s1212, .sh false b1176, .no, .no, .no, .ow false a1207, .no, .no, .no, .sh false a1194.1, .no, .no, .no, .no, .no, .no, .no, .sh false b1214, .no, .no])) (Fe := (fun b1214 _ s1212 => [.ow bo s1212, .sh false b1176, .no, .no, .no, .ow false a1207, .no, .no, .no, .sh false a1194.1, .no, .no, .no, .no, .no, .no, .no, .sh false b1214, .no, .no])) (fun x1238 => (D.lst x1238.1, x1238.2)) (i_rng1 (xb_v (e_var (x := a1194.1)))) (fun d1211 s1212 => (xl_nm (F := fun z1213 => [.ow bo s1212, .sh false b1176, .no, .no, .no, .ow false a1207, .no, .no, .no, .sh false a1194.1, .no, .no, .no, .no, .no, .no, .no, .sh false z1213, .no, .no]))) (fun b1214 s1212 => (xv_prm (V3 := (fun (z : D × D) => z.1)) (F3 := (fun (z1230 : D × D) => [.ow bo z1230.2, .sh false b1176, .no, .no, .no, .ow false a1207, .no, .no, .no, .sh false a1194.1, .no, .no, .no, .no, .no, .no, .no, .sh false b1214, .no, .no])) (fun (a1228 : List D × D) (d1229 : D) => (d1229, a1228.2)) (xs_cons (V3 := (fun (z : List D × D) => z.1)) (F3 := (fun (z1227 : List D × D) => [.ow bo z1227.2, .sh false b1176, .no, .no, .no, .ow false a1207, .no, .no, .no, .sh false a1194.1, .no, .no, .no, .no, .no, .no, .no, .sh false b1214, .no, .no])) (fun (a1215 : D × D) (t1226 : List D) => ((a1215.1 :: t1226), a1215.2)) (xn_v (xn_lcS (V3 := (fun z => z.1)) (F3 := (fun z1225 => [.ow bo z1225.2, .sh false b1176, .no, .no, .no, .ow false a1207, .no, .no, .no, .sh false a1194.1, .no, .no, .no, .no, .no, .no, .no, .sh false b1214, .no, .no])) (s0 := fun a1223 => s1212) (Q := (fun s1219 => [.ow bo s1219, .sh false b1176, .no, .no, .no, .ow false a1207, .no, .no, .no, .sh false a1194.1, .no, .no, .no, .no, .no, .no, .no, .sh false b1214, .no, .no])) (Q0 := (fun s1219 => [.ow bo s1219, .sh false b1176, .no, .no, .no, .ow false a1207, .no, .no, .no, .sh false a1194.1, .no, .no, .no, .no, .no, .no, .no, .sh false b1214, .no, .no])) (Fp := (fun b1221 s1219 => [.ow bo s1219, .sh false b1176, .no, .no, .no, .ow false a1207, .no, .no, .no, .sh false a1194.1, .no, .no, .no, .no, .no, .no, .no, .sh false b1214, .no, .sh false b1221])) (Fe := (fun b1221 _ s1219 => [.ow bo s1219, .sh false b1176, .no, .no, .no, .ow false a1207, .no, .no, .no, .sh false a1194.1, .no, .no, .no, .no, .no, .no, .no, .sh false b1214, .no, .sh false b1221])) (fun x1224 => (D.lst x1224.1, x1224.2)) (i_rng1 (xb_v (e_var (x := a1194.1)))) (fun d1218 s1219 => (xl_nm (F := fun z1220 => [.ow bo s1219, .sh false b1176, .no, .no, .no, .ow false a1207, .no, .no, .no, .sh false a1194.1, .no, .no, .no, .no, .no, .no, .no, .sh false b1214, .no, .sh false z1220]))) (fun b1221 s1219 => (xb_v (cL0 (x := s1219) (F := (fun z1222 => [.ow bo z1222, .sh false b1176, .no, .no, .no, .ow false a1207, .no, .no, .no, .sh false a1194.1, .no, .no, .no, .no, .no, .no, .no, .sh false b1214, .no, .sh false b1221]))  (r__law_number (lv rfl hn) true s1219)))))) (fun a1215 => xs_nil)))))) (fun a1208 => xs_nil))) ?_
      intro a1251
      refine sq_set (F' := fun a1285 => [.ow bo a1251.2, .sh false b1176, .no, .sh false a1251.1, .sh false a1285, .ow false a1207, .no, .no, .no, .sh false a1194.1, .no, .no, .no, .no, .no, .no, .no, .no, .no, .no]) (xn_v (e_lst (as_one (xb_v (e_var (x := a1251.1))) (as_one (xb_v (c1_b (xb_v (e_var (x := a1194.1))) (fun x0 => r__law_one (lv rfl hn) x0))) (as_one (v_p2 (xv_a (xb_v (e_tup (as_one (v_p2 (xv_a (xb_v (e_tup (as_one (xb_v e_con) as_nil)))) (xv_a (xb_v (e_var (x := a1194.1))))) as_nil)))) (xv_a (xb_v (e_var (x := a1194.1))))) as_nil))))) ?_
      intro a1285
      refine sq_set (F' := fun a1302 => [.ow bo a1302.2.1, .sh false b1176, .no, .sh false a1251.1, .sh false a1285, .sh false a1302.1, .no, .no, .no, .sh false a1194.1, .no, .no, .no, .no, .no, .no, .no, .no, .no, .no]) (xn_v (xn_lcS (V3 := fun (w1297 : D × (D × D)) => w1297.1) (F3 := fun (w1297 : D × (D × D)) => [.ow bo w1297.2.1, .sh false b1176, .no, .sh false a1251.1, .sh false a1285, .ow false w1297.2.2, .no, .no, .no, .sh false a1194.1, .no, .no, .no, .no, .no, .no, .no, .no, .no, .no]) (s0 := fun a1300 => (a1251.2, a1207)) (Q := (fun (s1289 : D × D) => [.ow bo s1289.1, .sh false b1176, .no, .sh false a1251.1, .sh false a1285, .ow false s1289.2, .no, .no, .no, .sh false a1194.1, .no, .no, .no, .no, .no, .no, .no, .no, .no, .no])) (Q0 := (fun (s1289 : D × D) => [.ow bo s1289.1, .sh false b1176, .no, .sh false a1251.1, .sh false a1285, .ow false s1289.2, .no, .no, .no, .sh false a1194.1, .no, .no, .no, .no, .no, .no, .no, .no, .no, .no])) (Fp := (fun b1291 (s1289 : D × D) => [.ow bo s1289.1, .sh false b1176, .no, .sh false a1251.1, .sh false a1285, .ow false s1289.2, .no, .no, .no, .sh false a1194.1, .no, .no, .no, .no, .no, .no, .sh false b1291, .no, .no, .no])) (Fe := (fun b1291 _ (s1289 : D × D) => [.ow bo s1289.1, .sh false b1176, .no, .sh false a1251.1, .sh false a1285, .ow false s1289.2, .no, .no, .no, .sh false a1194.1, .no, .no, .no, .no, .no, .no, .sh false b1291, .no, .no, .no])) (fun x1301 => (D.lst x1301.1, x1301.2)) (i_rng1 (xb_v e_con)) (fun d1288 s1289 => (xl_nm (F := fun z1290 => [.ow bo s1289.1, .sh false b1176, .no, .sh false a1251.1, .sh false a1285, .ow false s1289.2, .no, .no, .no, .sh false a1194.1, .no, .no, .no, .no, .no, .no, .sh false z1290, .no, .no, .no]))) (fun b1291 s1289 => (xv_pop (i := 5) (bo := false) (L := fun _ => s1289.2) (V3 := fun (w1297 : D × (D × D)) => w1297.1) (F3 := fun (w1297 : D × (D × D)) => [.ow bo w1297.2.1, .sh false b1176, .no, .sh false a1251.1, .sh false a1285, .ow false w1297.2.2, .no, .no, .no, .sh false a1194.1, .no, .no, .no, .no, .no, .no, .sh false b1291, .no, .no, .no]) (fun (a1298 : D × D) (z1299 : D × D) => (z1299.1, (a1298.2, z1299.2))) (xb_v (cL1 (x := s1289.1) (F := (fun z1296 => [.ow bo z1296, .sh false b1176, .no, .sh false a1251.1, .sh false a1285, .ow false s1289.2, .no, .no, .no, .sh false a1194.1, .no, .no, .no, .no, .no, .no, .sh false b1291, .no, .no, .no])) (v_p1 (ea_own (x := s1289.2))) (fun x0 => r__law_cast (lv rfl hn) true s1289.1 x0))))))) ?_
      intro a1302
      refine sq_shr (q1 := [.ow bo a1302.2.1, .sh false b1176, .no, .sh false a1251.1, .sh false a1285, .sh false a1302.1, .no, .no, .no, .sh false a1194.1, .no, .no, .no, .no, .no, .no, .no, .no, .no, .no]) ?_ rfl
      refine sq_par2 (F' := fun a1319 a1325 => [.ow bo a1319.2, .sh false b1176, .no, .sh false a1251.1, .sh false a1285, .sh false a1302.1, .no, .no, .no, .sh false a1194.1, .sh false a1319.1, .sh false a1325, .no, .no, .no, .no, .no, .no, .no, .no]) (xq_b (cL1 (x := a1302.2.1) (F := (fun z1318 => [.ow bo z1318, .sh false b1176, .no, .sh false a1251.1, .sh false a1285, .sh false a1302.1, .no, .no, .no, .sh false a1194.1, .no, .no, .no, .no, .no, .no, .no, .no, .no, .no])) (v_p1 (xv_a (xn_v (e_lcM (Q0 := [.ow bo a1302.2.1, .sh false b1176, .no, .sh false a1251.1, .sh false a1285, .sh false a1302.1, .no, .no, .no, .sh false a1194.1, .no, .no, .no, .no, .no, .no, .no, .no, .no, .no]) (i_seq (xb_v (e_var (x := a1302.1)))) (fun d1304 => tn1_of (Fp := fun b1306 => [.ow bo a1302.2.1, .sh false b1176, .no, .sh false a1251.1, .sh false a1285, .sh false a1302.1, .no, .no, .no, .sh false a1194.1, .no, .no, .no, .no, .no, .no, .sh false b1306, .no, .no, .no]) (Fe := fun b1306 _ => [.ow bo a1302.2.1, .sh false b1176, .no, .sh false a1251.1, .sh false a1285, .sh false a1302.1, .no, .no, .no, .sh false a1194.1, .no, .no, .no, .no, .no, .no, .sh false b1306, .no, .no, .no]) (xl_nm (F := fun z1305 => [.ow bo a1302.2.1, .sh false b1176, .no, .sh false a1251.1, .sh false a1285, .sh false a1302.1, .no, .no, .no, .sh false a1194.1, .no, .no, .no, .no, .no, .no, .sh false z1305, .no, .no, .no])) (fun b1306 => (v_p2 (xv_a (xb_v (e_var (x := a1285)))) (xv_a (xb_v (e_var (x := b1306))))))))))) (fun x0 => r__law_built (lv rfl hn) true a1302.2.1 x0))) (fun a1319 => (xq_b (m1_b (xb_v (e_tup (as_one (xb_v (e_var (x := a1251.1))) as_nil))) (fun x0 => r_Lot_init (lv rfl hn) x0)))) ?_
      intro a1319 a1325
      refine sq_kil (q1 := [.ow bo a1319.2, .no, .no, .no, .sh false a1285, .sh false a1302.1, .no, .no, .no, .no, .sh false a1319.1, .sh false a1325, .no, .no, .no, .no, .no, .no, .no, .no]) ?_ rfl
      refine sq_for (ρ := D × D) (R := (PF 1 (fun y => y.1) (fun (y : D × D) q' => bo = true → q' = .ow true y.2 :: List.replicate 0 .no))) (F := (fun s1329 => [.ow bo s1329, .no, .no, .no, .sh false a1285, .sh false a1302.1, .no, .no, .no, .no, .sh false a1319.1, .sh false a1325, .no, .no, .no, .no, .no, .no, .no, .no])) (Ft := (fun s1329 b1332 => [.ow bo s1329, .no, .no, .no, .sh false a1285, .sh false a1302.1, .sh false b1332, .no, .no, .no, .sh false a1319.1, .sh false a1325, .no, .no, .no, .no, .no, .no, .no, .no])) (fun a1328 => a1319.2) (fun x1530 => Fl.ret x1530) (i_rng1 (xb_v e_con)) (fun s1329 d1330 => (xl_nm (F := fun z1331 => [.ow bo s1329, .no, .no, .no, .sh false a1285, .sh false a1302.1, .sh false z1331, .no, .no, .no, .sh false a1319.1, .sh false a1325, .no, .no, .no, .no, .no, .no, .no, .no]))) ?_ ?_ (fun _ _ h i => ⟨h, i⟩)
      · intro s1329 b1332
        refine sq_set (F' := fun a1419 => [.ow bo a1419.2, .no, .no, .no, .sh false a1285, .sh false a1302.1, .sh false b1332, .no, .no, .no, .sh false a1319.1, .sh false a1325, .sh false a1419.1, .no, .no, .no, .no, .no, .no, .no]) (xv_prm (V3 := (fun (z : D × D) => z.1)) (F3 := (fun (z1412 : D × D) => [.ow bo z1412.2, .no, .no, .no, .sh false a1285, .sh false a1302.1, .sh false b1332, .no, .no, .no, .sh false a1319.1, .sh false a1325, .no, .no, .no, .no, .no, .no, .no, .no])) (fun (a1410 : List D × D) (d1411 : D) => (d1411, a1410.2)) (xs_cons (V3 := (fun (z : List D × D) => z.1)) (F3 := (fun (z1409 : List D × D) => [.ow bo z1409.2, .no, .no, .no, .sh false a1285, .sh false a1302.1, .sh false b1332, .no, .no, .no, .sh false a1319.1, .sh false a1325, .no, .no, .no, .no, .no, .no, .no, .no])) (fun (a1333 : D × D) (t1408 : List D) => ((a1333.1 :: t1408), a1333.2)) (xn_v (xn_lcS (V3 := (fun z => z.1)) (F3 := (fun z1407 => [.ow bo z1407.2, .no, .no, .no, .sh false a1285, .sh false a1302.1, .sh false b1332, .no, .no, .no, .sh false a1319.1, .sh false a1325, .no, .no, .no, .no, .no, .no, .no, .no])) (s0 := fun a1405 => s1329) (Q := (fun s1337 => [.ow bo s1337, .no, .no, .no, .sh false a1285, .sh false a1302.1, .sh false b1332, .no, .no, .no, .sh false a1319.1, .sh false a1325, .no, .no, .no, .no, .no, .no, .no, .no])) (Q0 := (fun s1337 => [.ow bo s1337, .no, .no, .no, .sh false a1285, .sh false a1302.1, .sh false b1332, .no, .no, .no, .sh false a1319.1, .sh false a1325, .no, .no, .no, .no, .no, .no, .no, .no])) (Fp := (fun b1339 s1337 => [.ow bo s1337, .no, .no, .no, .sh false a1285, .sh false a1302.1, .sh false b1332, .no, .no, .no, .sh false a1319.1, .sh false a1325, .no, .no, .no, .no, .sh false b1339, .no, .no, .no])) (Fe := (fun b1339 _ s1337 => [.ow bo s1337, .no, .no, .no, .sh false a1285, .sh false a1302.1, .sh false b1332, .no, .no, .no, .sh false a1319.1, .sh false a1325, .no, .no, .no, .no, .sh false b1339, .no, .no, .no])) (fun x1406 => (D.lst x1406.1, x1406.2)) (i_rng1 (xb_v e_con)) (fun d1336 s1337 => (xl_nm (F := fun z1338 => [.ow bo s1337, .no, .no, .no, .sh false a1285, .sh false a1302.1, .sh false b1332, .no, .no, .no, .sh false a1319.1, .sh false a1325, .no, .no, .no, .no, .sh false z1338, .no, .no, .no]))) (fun b1339 s1337 => (xb_v (callLi (F := (fun z1404 => [.ow bo z1404, .no, .no, .no, .sh false a1285, .sh false a1302.1, .sh false b1332, .no, .no, .no, .sh false a1319.1, .sh false a1325, .no, .no, .no, .no, .sh false b1339, .no, .no, .no])) (g := fun p => on1 (m__law_any_of p)) (x0 := s1337) (xg_v (V3 := (fun (z : List D × D) => z.1.map Ga.v)) (F3 := (fun (z1402 : List D × D) => [.ow bo z1402.2, .no, .no, .no, .sh false a1285, .sh false a1302.1, .sh false b1332, .no, .no, .no, .sh false a1319.1, .sh false a1325, .no, .no, .no, .no, .sh false b1339, .no, .no, .no])) (fun (a1400 : D × D) (t1401 : List D) => ((a1400.1 :: t1401), a1400.2)) (xv_prm (V3 := (fun (z : D × D) => z.1)) (F3 := (fun (z1393 : D × D) => [.ow bo z1393.2, .no, .no, .no, .sh false a1285, .sh false a1302.1, .sh false b1332, .no, .no, .no, .sh false a1319.1, .sh false a1325, .no, .no, .no, .no, .sh false b1339, .no, .no, .no])) (fun (a1391 : List D × D) (d1392 : D) => (d1392, a1391.2)) (xs_cons (V3 := (fun (z : List D × D) => z.1)) (F3 := (fun (z1390 : List D × D) => [.ow bo z1390.2, .no, .no, .no, .sh false a1285, .sh false a1302.1, .sh false b1332, .no, .no, .no, .sh false a1319.1, .sh false a1325, .no, .no, .no, .no, .sh false b1339, .no, .no, .no])) (fun (a1340 : D) (t1389 : List D × D) => ((a1340 :: t1389.1), t1389.2)) (xn_v (e_lst (as_one (xb_v e_con) (as_one (xb_v e_con) (as_one (xb_v e_con) (as_one (xb_v e_con) (as_one (xb_v e_con) (as_one (xb_v e_con) (as_one (xb_v e_con) as_nil))))))))) (fun a1340 => (xs_cons (V3 := (fun (z : List D × D) => z.1)) (F3 := (fun (z1388 : List D × D) => [.ow bo z1388.2, .no, .no, .no, .sh false a1285, .sh false a1302.1, .sh false b1332, .no, .no, .no, .sh false a1319.1, .sh false a1325, .no, .no, .no, .no, .sh false b1339, .no, .no, .no])) (fun (a1369 : D × D) (t1387 : List D) => ((a1369.1 :: t1387), a1369.2)) (xv_prm (V3 := (fun (z : D × D) => z.1)) (F3 := (fun (z1380 : D × D) => [.ow bo z1380.2, .no, .no, .no, .sh false a1285, .sh false a1302.1, .sh false b1332, .no, .no, .no, .sh false a1319.1, .sh false a1325, .no, .no, .no, .no, .sh false b1339, .no, .no, .no])) (fun (a1378 : List D × D) (d1379 : D) => (d1379, a1378.2)) (xs_cons (V3 := (fun (z : List D × D) => z.1)) (F3 := (fun (z1377 : List D × D) => [.ow bo z1377.2, .no, .no, .no, .sh false a1285, .sh false a1302.1, .sh false b1332, .no, .no, .no, .sh false a1319.1, .sh false a1325, .no, .no, .no, .no, .sh false b1339, .no, .no, .no])) (fun (a1370 : D) (t1376 : List D × D) => ((a1370 :: t1376.1), t1376.2)) (xb_v e_con) (fun a1370 => (xs_cons (V3 := (fun (z : List D × D) => z.1)) (F3 := (fun (z1375 : List D × D) => [.ow bo z1375.2, .no, .no, .no, .sh false a1285, .sh false a1302.1, .sh false b1332, .no, .no, .no, .sh false a1319.1, .sh false a1325, .no, .no, .no, .no, .sh false b1339, .no, .no, .no])) (fun (a1371 : D × D) (t1374 : List D) => ((a1371.1 :: t1374), a1371.2)) (xb_v (cL1 (x := s1337) (F := (fun z1373 => [.ow bo z1373, .no, .no, .no, .sh false a1285, .sh false a1302.1, .sh false b1332, .no, .no, .no, .sh false a1319.1, .sh false a1325, .no, .no, .no, .no, .sh false b1339, .no, .no, .no])) (xb_v e_con) (fun x0 => r__law_cast (lv rfl hn) true s1337 x0))) (fun a1371 => xs_nil))))) (fun a1369 => xs_nil))))) (fun a1400 => xg_nilV)) (fun y => ⟨_, rfl, fun _ => rfl⟩) (fun p => on1_ok (R := fun l m => FLb _ _ true p l m) (fun _ => trivial) (fun x0 => r__law_any_of (lv rfl hn) true p x0)) rfl))))) (fun a1333 => xs_nil))) ?_
        intro a1419
        refine sq_set (F' := fun a1437 => [.ow bo a1437.2, .no, .no, .no, .sh false a1285, .sh false a1302.1, .sh false b1332, .no, .no, .no, .sh false a1319.1, .sh false a1325, .sh false a1437.1, .no, .no, .no, .no, .no, .no, .no]) (xv_prm (V3 := (fun (z : D × D) => z.1)) (F3 := (fun (z1430 : D × D) => [.ow bo z1430.2, .no, .no, .no, .sh false a1285, .sh false a1302.1, .sh false b1332, .no, .no, .no, .sh false a1319.1, .sh false a1325, .sh false a1419.1, .no, .no, .no, .no, .no, .no, .no])) (fun (a1428 : List D × D) (d1429 : D) => (d1429, a1428.2)) (xs_cons (V3 := (fun (z : List D × D) => z.1)) (F3 := (fun (z1427 : List D × D) => [.ow bo z1427.2, .no, .no, .no, .sh false a1285, .sh false a1302.1, .sh false b1332, .no, .no, .no, .sh false a1319.1, .sh false a1325, .sh false a1419.1, .no, .no, .no, .no, .no, .no, .no])) (fun (a1420 : D) (t1426 : List D × D) => ((a1420 :: t1426.1), t1426.2)) (xb_v (e_var (x := a1419.1))) (fun a1420 => (xs_cons (V3 := (fun (z : List D × D) => z.1)) (F3 := (fun (z1425 : List D × D) => [.ow bo z1425.2, .no, .no, .no, .sh false a1285, .sh false a1302.1, .sh false b1332, .no, .no, .no, .sh false a1319.1, .sh false a1325, .sh false a1419.1, .no, .no, .no, .no, .no, .no, .no])) (fun (a1421 : D × D) (t1424 : List D) => ((a1421.1 :: t1424), a1421.2)) (xb_v (cL1 (x := a1419.2) (F := (fun z1423 => [.ow bo z1423, .no, .no, .no, .sh false a1285, .sh false a1302.1, .sh false b1332, .no, .no, .no, .sh false a1319.1, .sh false a1325, .sh false a1419.1, .no, .no, .no, .no, .no, .no, .no])) (xb_v e_con) (fun x0 => r__law_cast (lv rfl hn) true a1419.2 x0))) (fun a1421 => xs_nil))))) ?_
        intro a1437
        refine sq_set (F' := fun a1452 => [.ow bo a1437.2, .no, .no, .no, .sh false a1285, .sh false a1302.1, .sh false b1332, .no, .no, .no, .sh false a1319.1, .sh false a1325, .sh false a1437.1, .sh false a1452, .no, .no, .no, .no, .no, .no]) (v_p1 (xv_a (xn_v (e_lcM (Q0 := [.ow bo a1437.2, .no, .no, .no, .sh false a1285, .sh false a1302.1, .sh false b1332, .no, .no, .no, .sh false a1319.1, .sh false a1325, .sh false a1437.1, .no, .no, .no, .no, .no, .no, .no]) (i_seq (xb_v (e_var (x := a1437.1)))) (fun d1439 => tn1_of (Fp := fun b1441 => [.ow bo a1437.2, .no, .no, .no, .sh false a1285, .sh false a1302.1, .sh false b1332, .no, .no, .no, .sh false a1319.1, .sh false a1325, .sh false a1437.1, .no, .no, .no, .no, .no, .sh false b1441, .no]) (Fe := fun b1441 _ => [.ow bo a1437.2, .no, .no, .no, .sh false a1285, .sh false a1302.1, .sh false b1332, .no, .no, .no, .sh false a1319.1, .sh false a1325, .sh false a1437.1, .no, .no, .no, .no, .no, .sh false b1441, .no]) (xl_nm (F := fun z1440 => [.ow bo a1437.2, .no, .no, .no, .sh false a1285, .sh false a1302.1, .sh false b1332, .no, .no, .no, .sh false a1319.1, .sh false a1325, .sh false a1437.1, .no, .no, .no, .no, .no, .sh false z1440, .no])) (fun b1441 => (v_p2 (xv_a (xb_v (e_var (x := a1302.1)))) (xv_a (xb_v (e_var (x := b1441))))))))))) ?_
        intro a1452
        refine sq_set (F' := fun a1470 => [.ow bo a1437.2, .no, .no, .no, .sh false a1285, .sh false a1302.1, .sh false b1332, .no, .no, .no, .sh false a1319.1, .sh false a1325, .sh false a1437.1, .sh false a1452, .sh false a1470, .no, .no, .no, .no, .no]) (v_p1 (xv_a (xn_v (e_lcF (Q0 := [.ow bo a1437.2, .no, .no, .no, .sh false a1285, .sh false a1302.1, .sh false b1332, .no, .no, .no, .sh false a1319.1, .sh false a1325, .sh false a1437.1, .sh false a1452, .no, .no, .no, .no, .no, .no]) (i_seq (xb_v (e_var (x := a1437.1)))) (fun d1454 => tn_of (Fp := fun b1456 => [.ow bo a1437.2, .no, .no, .no, .sh false a1285, .sh false a1302.1, .sh false b1332, .no, .no, .no, .sh false a1319.1, .sh false a1325, .sh false a1437.1, .sh false a1452, .no, .no, .no, .no, .sh false b1456, .no]) (Fe := fun b1456 _ => [.ow bo a1437.2, .no, .no, .no, .sh false a1285, .sh false a1302.1, .sh false b1332, .no, .no, .no, .sh false a1319.1, .sh false a1325, .sh false a1437.1, .sh false a1452, .no, .no, .no, .no, .sh false b1456, .no]) (xl_nm (F := fun z1455 => [.ow bo a1437.2, .no, .no, .no, .sh false a1285, .sh false a1302.1, .sh false b1332, .no, .no, .no, .sh false a1319.1, .sh false a1325, .sh false a1437.1, .sh false a1452, .no, .no, .no, .no, .sh false z1455, .no])) (fun b1456 => (t_val (xv_a (v_p2 (xv_a (xb_v (e_var (x := b1456)))) (xv_a (xb_v e_con)))))) (fun b1456 => (xb_v (e_var (x := b1456))))))))) ?_
        intro a1470
        refine sq_set (F' := fun a1498 => [.ow bo a1437.2, .no, .no, .no, .sh false a1285, .sh false a1302.1, .sh false b1332, .no, .no, .no, .sh false a1319.1, .sh false a1325, .sh false a1437.1, .sh false a1452, .sh false a1470, .sh false a1498, .no, .no, .no, .no]) (v_ife (t_val (xv_a (v_p2 (xv_a (xb_v e_con)) (xv_a (xb_v (e_var (x := a1437.1))))))) (xb_v (c2_b (xb_v (e_var (x := a1325))) (v_p2 (xv_a (xb_v (e_tup (as_one (xb_v e_con) as_nil)))) (xv_a (xb_v (e_var (x := a1470))))) (fun x0 x1 => r_product (lv rfl hn) x0 x1))) (v_p2 (xv_a (xb_v (e_var (x := a1285)))) (xv_a (xb_v e_con)))) ?_
        intro a1498
        refine sq_if (t_any (t_val (xv_a (v_p2 (xv_a (v_p1 (xv_a (xb_v (c2_b (xb_v (e_var (x := a1319.1))) (xb_v (e_var (x := a1452))) (fun x0 x1 => r_product (lv rfl hn) x0 x1)))))) (xv_a (v_p1 (xv_a (xb_v (e_var (x := a1498))))))))) (t_val (xv_a (v_p2 (xv_a (xb_v (c2_b (xb_v (e_var (x := a1319.1))) (xb_v (e_var (x := a1452))) (fun x0 x1 => r_trace (lv rfl hn) x0 x1)))) (xv_a (xb_v (c1_b (xb_v (e_var (x := a1498))) (fun x0 => r__law_corner (lv rfl hn) x0)))))))) ?_ ?_
        · intro c1527
          exact sq_retS (fun a1528 => Fl.ret (a1528, a1437.2)) (xb_v e_con) (fun _ => pbr (pf_ret (hB := (fun h => by subst h; rfl))))
        intro c1527
        refine sq_nil ?_
        refine sq_kil (q1 := [.ow bo a1437.2, .no, .no, .no, .sh false a1285, .sh false a1302.1, .no, .no, .no, .no, .sh false a1319.1, .sh false a1325, .no, .no, .no, .no, .no, .no, .no, .no]) ?_ rfl
        exact sq_end (.inl rfl)
      intro s1529
      refine sq_kil (q1 := [.ow bo s1529, .no, .no, .no, .no, .no, .no, .no, .no, .no, .no, .no, .no, .no, .no, .no, .no, .no, .no, .no]) ?_ rfl
      exact sq_end (.inl rfl)
    intro s1531
    refine sq_par2 (F' := fun a1533 a1535 => [.ow bo a1535.2, .no, .no, .no, .no, .no, .no, .sh false a1533.1, .sh false a1535.1, .no, .no, .no, .no, .no, .no, .no, .no, .no, .no, .no]) (xq_b (cL0 (x := s1531) (F := (fun z1532 => [.ow bo z1532, .no, .no, .no, .no, .no, .no, .no, .no, .no, .no, .no, .no, .no, .no, .no, .no, .no, .no, .no]))  (r__law_number (lv rfl hn) true s1531))) (fun a1533 => (xq_b (cL0 (x := a1533.2) (F := (fun z1534 => [.ow bo z1534, .no, .no, .no, .no, .no, .no, .no, .no, .no, .no, .no, .no, .no, .no, .no, .no, .no, .no, .no]))  (r__law_number (lv rfl hn) true a1533.2)))) ?_
    intro a1533 a1535
    refine sq_set (F' := fun a1561 => [.ow bo a1535.2, .no, .sh false a1561, .no, .no, .no, .no, .sh false a1533.1, .sh false a1535.1, .no, .no, .no, .no, .no, .no, .no, .no, .no, .no, .no]) (xb_v (m1_b (xb_v (e_tup (as_one (xb_v (e_tup (as_one (xb_v (e_tup (as_one (xb_v (e_var (x := a1533.1))) as_nil))) as_nil))) (as_one (xb_v (e_tup (as_one (xb_v (e_tup (as_one (xb_v (e_var (x := a1535.1))) as_nil))) as_nil))) as_nil)))) (fun x0 => r_Lot_init (lv rfl hn) x0))) ?_
    intro a1561
    exact sq_retS (fun a1636 => (a1636, a1535.2)) (xb_v (e_and (b_p2 (xv_a (xb_v (c2_b (xb_v (e_var (x := a1561))) (xb_v (e_tup (as_one (xb_v e_con) (as_one (xb_v e_con) (as_one (xb_v e_con) (as_one (xb_v e_con) (as_one (xb_v e_con) as_nil))))))) (fun x0 x1 => r_product (lv rfl hn) x0 x1)))) (xv_a (xb_v (e_tup (as_one (xb_v (e_tup (as_one (v_p2 (xv_a (v_p2 (xv_a (v_p2 (xv_a (v_p2 (xv_a (xb_v (e_var (x := a1533.1)))) (xv_a (xb_v (e_var (x := a1533.1)))))) (xv_a (xb_v (e_var (x := a1535.1)))))) (xv_a (xb_v (e_var (x := a1535.1)))))) (xv_a (xb_v (e_var (x := a1535.1))))) as_nil))) as_nil))))) (b_p2 (xv_a (xb_v (c2_b (xb_v (e_var (x := a1561))) (xb_v (e_tup (as_one (xb_v e_con) as_nil))) (fun x0 x1 => r_trace (lv rfl hn) x0 x1)))) (xv_a (xb_v (e_var (x := a1535.1))))))) (fun _ => pf_ret (hB := (fun h => by subst h; rfl)))
  exact fv_of (d := d__law_right) rfl rfl h.r
theorem r__law_begun {n : Nat} (hn : 1 ≤ n) (x_0 x_1 : D) : FPN (calls tab n) 1027 [x_0, x_1] (m__law_begun x_0 x_1) := by
  obtain ⟨n, rfl⟩ : ∃ k, n = k + 1 := ⟨n - 1, by omega⟩
  have hn : 0 ≤ n := Nat.le_of_succ_le_succ hn
  have h : SQ (calls tab n) t__law_begun [] [.sh false x_0, .sh false x_1, .no, .no, .no] (m__law_begun x_0 x_1) (PFN 2 I1 (fun _ _ => True)) := by
    unfold m__law_begun
    refine sq_set (F' := fun a1657 => [.sh false x_0, .sh false x_1, .sh false a1657, .no, .no]) (v_ife (t_val (xv_a (v_p2 (xv_a (xb_v (e_var (x := x_1)))) (xv_a (v_p1 (xv_a (xb_v (e_var (x := x_0))))))))) (v_p2 (xv_a (xb_v (e_var (x := x_0)))) (xv_a (xb_v (e_var (x := x_1))))) (xb_v e_con)) ?_
    intro a1657
    refine sq_set (F' := fun a1670 => [.sh false x_0, .sh false x_1, .sh false a1657, .sh false a1670, .no]) (v_p2 (xv_a (xb_v e_con)) (xv_a (v_p2 (xv_a (xb_v e_con)) (xv_a (xb_v (e_var (x := x_1))))))) ?_
    intro a1670
    refine sq_forN (F := (fun s1679 => [.sh false x_0, .sh false x_1, .sh false a1657, .sh false s1679, .no])) (Ft := (fun s1679 b1682 => [.sh false x_0, .sh false x_1, .sh false a1657, .sh false s1679, .sh false b1682])) (fun a1678 => a1670) (i_seq (v_p2 (xv_a (xb_v (e_var (x := x_0)))) (xv_a (xb_v e_con)))) (fun s1679 d1680 => (xl_nm (F := fun z1681 => [.sh false x_0, .sh false x_1, .sh false a1657, .sh false s1679, .sh false z1681]))) ?_ ?_
    · intro s1679 b1682
      refine sq_set (F' := fun a1716 => [.sh false x_0, .sh false x_1, .sh false a1657, .sh false a1716, .sh false b1682]) (v_p2 (xv_a (v_p1 (xv_a (v_p2 (xv_a (v_p2 (xv_a (v_p2 (xv_a (xb_v (e_var (x := s1679)))) (xv_a (xb_v e_con)))) (xv_a (v_p2 (xv_a (xb_v (e_var (x := b1682)))) (xv_a (xb_v e_con)))))) (xv_a (xb_v e_con)))))) (xv_a (xb_v e_con))) ?_
      intro a1716
      refine sq_kil (q1 := [.sh false x_0, .sh false x_1, .sh false a1657, .sh false a1716, .no]) ?_ rfl
      exact sq_end (.inl rfl)
    intro s1717
    exact sq_retWP (e_lst (as_one (v_ife (t_any (t_val (xv_a (v_p2 (xv_a (xb_v (e_var (x := a1657)))) (xv_a (xb_v e_con))))) (t_val (xv_a (v_p2 (xv_a (xb_v (e_var (x := a1657)))) (xv_a (v_p2 (xv_a (xb_v e_con)) (xv_a (xb_v e_con)))))))) (v_p1 (xv_a (xb_v (e_var (x := a1657))))) (xb_v e_con)) (as_one (v_p2 (xv_a (v_p1 (xv_a (v_p2 (xv_a (v_p2 (xv_a (v_p2 (xv_a (xb_v (e_var (x := s1717)))) (xv_a (xb_v e_con)))) (xv_a (v_p2 (xv_a (xb_v (e_var (x := a1657)))) (xv_a (xb_v (e_var (x := a1657)))))))) (xv_a (v_p2 (xv_a (xb_v e_con)) (xv_a (xb_v (e_var (x := x_1)))))))))) (xv_a (xb_v e_con))) (as_one (xb_v e_con) as_nil)))) (fun _ => pfn_ret (hB := trivial))
  exact fn_of (d := d__law_begun) rfl rfl h.r
theorem r_law {n : Nat} (hn : 10 ≤ n) (x_0 : D) : FP (calls tab n) 1028 [x_0] (m_law x_0) := by
  obtain ⟨n, rfl⟩ : ∃ k, n = k + 1 := ⟨n - 1, by omega⟩
  have hn : 9 ≤ n := Nat.le_of_succ_le_succ hn
  have h : SQ (calls tab n) t_law [] [.sh false x_0, .no] (m_law x_0) (PF 1 I1 (fun _ _ => True)) := by
    unfold m_law
    exact sq_retP (v_p1 (xv_a (xn_v (e_lcM (Q0 := [.sh false x_0, .no]) (i_rng1 (v_p2 (xv_a (xb_v e_con)) (xv_a (v_p2 (xv_a (v_p1 (xv_a (xb_v (e_var (x := x_0)))))) (xv_a (xb_v e_con)))))) (fun d1815 => tn1_of (Fp := fun b1817 => [.sh false x_0, .sh false b1817]) (Fe := fun b1817 _ => [.sh false x_0, .sh false b1817]) (xl_nm (F := fun z1816 => [.sh false x_0, .sh false z1816])) (fun b1817 => (xb_v (c_O (c2_n (xb_v (e_var (x := x_0))) (xb_v (e_var (x := b1817))) (fun x0 x1 => r__law_begun (lv rfl hn) x0 x1)) (fun x => r__law_right (lv rfl hn) false x))))))))) (fun _ => pf_ret (hB := trivial))
  exact fv_of (d := d_law) rfl rfl h.r
end M

set_option Elab.async false
set_option linter.all false
set_option maxRecDepth 100000
set_option maxHeartbeats 8000000
namespace M
open PySem L2 PyProof.Rows SlX
/-- the plain law -/
def Plain : Prop := ∀ ns : List Int, ns.length ≤ 63 → (∀ z ∈ ns, Builtin.Int.intBits z ≤ 1048576) → m_law (scr ns) = .ok (.bl true)
theorem all_mk (plain : Plain) {w : World} {K : PySem.W.Frag} {h : Heap} {mg : Str → Option Value} {fa a_is_integer0 a_are_integers0 a_is_table0 a_wrong_table0 i_Lot0 a__law_cast0 a__law_any_of0 a__law_number0 a__law_one0 a_written_integer0 a_text_row0 a_text_lot0 a_Lot_read0 a__law_lines0 a__law_sheet0 a__law_built0 a_check_lot0 a_wrong_letter0 a_check_word0 a_unit0 a_times0 a_product_of0 a_Lot_tables0 a_product0 a_trace_of0 a_trace0 a__law_corner0 a__law_right0 a__law_begun0 a_law0 C_Lot p_Lot_read p_Lot_tables sp_Lot_own_tables : Addr} (X : K.In h) (G : h.Ns mainGlobals mg) (hfa : mg "law" = some (.ref fa))
    {oc_is_integer kV_is_integer dc_is_integer pm_is_integer cd_is_integer ct_is_integer : Value} {od_is_integer an_is_integer : Option Addr} {sl_is_integer : Array (Option Value)}
    {oc_are_integers kV_are_integers dc_are_integers pm_are_integers cd_are_integers ct_are_integers : Value} {od_are_integers an_are_integers : Option Addr} {sl_are_integers : Array (Option Value)}
    {oc_is_table kV_is_table dc_is_table pm_is_table cd_is_table ct_is_table : Value} {od_is_table an_is_table : Option Addr} {sl_is_table : Array (Option Value)}
    {oc_wrong_table kV_wrong_table dc_wrong_table pm_wrong_table cd_wrong_table ct_wrong_table : Value} {od_wrong_table an_wrong_table : Option Addr} {sl_wrong_table : Array (Option Value)}
    {oc_Lot_init kV_Lot_init dc_Lot_init pm_Lot_init cd_Lot_init ct_Lot_init : Value} {od_Lot_init an_Lot_init : Option Addr} {sl_Lot_init : Array (Option Value)}
    {oc__law_cast kV__law_cast dc__law_cast pm__law_cast cd__law_cast ct__law_cast : Value} {od__law_cast an__law_cast : Option Addr} {sl__law_cast : Array (Option Value)}
    {oc__law_any_of kV__law_any_of dc__law_any_of pm__law_any_of cd__law_any_of ct__law_any_of : Value} {od__law_any_of an__law_any_of : Option Addr} {sl__law_any_of : Array (Option Value)}
    {oc__law_number kV__law_number dc__law_number pm__law_number cd__law_number ct__law_number : Value} {od__law_number an__law_number : Option Addr} {sl__law_number : Array (Option Value)}
    {oc__law_one kV__law_one dc__law_one pm__law_one cd__law_one ct__law_one : Value} {od__law_one an__law_one : Option Addr} {sl__law_one : Array (Option Value)}
    {oc_written_integer kV_written_integer dc_written_integer pm_written_integer cd_written_integer ct_written_integer : Value} {od_written_integer an_written_integer : Option Addr} {sl_written_integer : Array (Option Value)}
    {oc_text_row kV_text_row dc_text_row pm_text_row cd_text_row ct_text_row : Value} {od_text_row an_text_row : Option Addr} {sl_text_row : Array (Option Value)}
    {oc_text_lot kV_text_lot dc_text_lot pm_text_lot cd_text_lot ct_text_lot : Value} {od_text_lot an_text_lot : Option Addr} {sl_text_lot : Array (Option Value)}
    {oc_Lot_read kV_Lot_read dc_Lot_read pm_Lot_read cd_Lot_read ct_Lot_read : Value} {od_Lot_read an_Lot_read : Option Addr} {sl_Lot_read : Array (Option Value)}
    {oc__law_lines kV__law_lines dc__law_lines pm__law_lines cd__law_lines ct__law_lines : Value} {od__law_lines an__law_lines : Option Addr} {sl__law_lines : Array (Option Value)}
    {oc__law_sheet kV__law_sheet dc__law_sheet pm__law_sheet cd__law_sheet ct__law_sheet : Value} {od__law_sheet an__law_sheet : Option Addr} {sl__law_sheet : Array (Option Value)}
    {oc__law_built kV__law_built dc__law_built pm__law_built cd__law_built ct__law_built : Value} {od__law_built an__law_built : Option Addr} {sl__law_built : Array (Option Value)}
    {oc_check_lot kV_check_lot dc_check_lot pm_check_lot cd_check_lot ct_check_lot : Value} {od_check_lot an_check_lot : Option Addr} {sl_check_lot : Array (Option Value)}
    {oc_wrong_letter kV_wrong_letter dc_wrong_letter pm_wrong_letter cd_wrong_letter ct_wrong_letter : Value} {od_wrong_letter an_wrong_letter : Option Addr} {sl_wrong_letter : Array (Option Value)}
    {oc_check_word kV_check_word dc_check_word pm_check_word cd_check_word ct_check_word : Value} {od_check_word an_check_word : Option Addr} {sl_check_word : Array (Option Value)}
    {oc_unit kV_unit dc_unit pm_unit cd_unit ct_unit : Value} {od_unit an_unit : Option Addr} {sl_unit : Array (Option Value)}
    {oc_times kV_times dc_times pm_times cd_times ct_times : Value} {od_times an_times : Option Addr} {sl_times : Array (Option Value)}
    {oc_product_of kV_product_of dc_product_of pm_product_of cd_product_of ct_product_of : Value} {od_product_of an_product_of : Option Addr} {sl_product_of : Array (Option Value)}
    {oc_Lot_tables kV_Lot_tables dc_Lot_tables pm_Lot_tables cd_Lot_tables ct_Lot_tables : Value} {od_Lot_tables an_Lot_tables : Option Addr} {sl_Lot_tables : Array (Option Value)}
    {oc_product kV_product dc_product pm_product cd_product ct_product : Value} {od_product an_product : Option Addr} {sl_product : Array (Option Value)}
    {oc_trace_of kV_trace_of dc_trace_of pm_trace_of cd_trace_of ct_trace_of : Value} {od_trace_of an_trace_of : Option Addr} {sl_trace_of : Array (Option Value)}
    {oc_trace kV_trace dc_trace pm_trace cd_trace ct_trace : Value} {od_trace an_trace : Option Addr} {sl_trace : Array (Option Value)}
    {oc__law_corner kV__law_corner dc__law_corner pm__law_corner cd__law_corner ct__law_corner : Value} {od__law_corner an__law_corner : Option Addr} {sl__law_corner : Array (Option Value)}
    {oc__law_right kV__law_right dc__law_right pm__law_right cd__law_right ct__law_right : Value} {od__law_right an__law_right : Option Addr} {sl__law_right : Array (Option Value)}
    {oc__law_begun kV__law_begun dc__law_begun pm__law_begun cd__law_begun ct__law_begun : Value} {od__law_begun an__law_begun : Option Addr} {sl__law_begun : Array (Option Value)}
    {oc_law kV_law dc_law pm_law cd_law ct_law : Value} {od_law an_law : Option Addr} {sl_law : Array (Option Value)}
    {rest_Lot_read rest_Lot_tables : List Value}
    {t_DIGITS t_MOST_LETTERS t_MOST_NUMBER t_MOST_SIZE t_MOST_TABLES : Tok}
    (aC_Lot : PySem.W.nsIn K mainGlobals "Lot" = some (some (.ref C_Lot)))
    (a_is_integer : PySem.W.nsIn K mainGlobals "is_integer" = some (some (.ref a_is_integer0)))
    (l_is_integer : K.lookup a_is_integer0 = some ⟨oc_is_integer, od_is_integer, .func (PySem.W.fnOf "is_integer" "is_integer" (defArgs s_is_integer) (defBody s_is_integer) (defScope s_is_integer) .none kV_is_integer dc_is_integer pm_is_integer an_is_integer cd_is_integer ct_is_integer), sl_is_integer⟩)
    (c_is_integer : PySem.W.codeIn K cd_is_integer "is_integer" = true)
    (k_is_integer : PySem.W.keepIn K (.ref a_is_integer0) = true)
    (a_are_integers : PySem.W.nsIn K mainGlobals "are_integers" = some (some (.ref a_are_integers0)))
    (l_are_integers : K.lookup a_are_integers0 = some ⟨oc_are_integers, od_are_integers, .func (PySem.W.fnOf "are_integers" "are_integers" (defArgs s_are_integers) (defBody s_are_integers) (defScope s_are_integers) .none kV_are_integers dc_are_integers pm_are_integers an_are_integers cd_are_integers ct_are_integers), sl_are_integers⟩)
    (c_are_integers : PySem.W.codeIn K cd_are_integers "are_integers" = true)
    (k_are_integers : PySem.W.keepIn K (.ref a_are_integers0) = true)
    (a_is_table : PySem.W.nsIn K mainGlobals "is_table" = some (some (.ref a_is_table0)))
    (l_is_table : K.lookup a_is_table0 = some ⟨oc_is_table, od_is_table, .func (PySem.W.fnOf "is_table" "is_table" (defArgs s_is_table) (defBody s_is_table) (defScope s_is_table) .none kV_is_table dc_is_table pm_is_table an_is_table cd_is_table ct_is_table), sl_is_table⟩)
    (c_is_table : PySem.W.codeIn K cd_is_table "is_table" = true)
    (k_is_table : PySem.W.keepIn K (.ref a_is_table0) = true)
    (a_wrong_table : PySem.W.nsIn K mainGlobals "wrong_table" = some (some (.ref a_wrong_table0)))
    (l_wrong_table : K.lookup a_wrong_table0 = some ⟨oc_wrong_table, od_wrong_table, .func (PySem.W.fnOf "wrong_table" "wrong_table" (defArgs s_wrong_table) (defBody s_wrong_table) (defScope s_wrong_table) .none kV_wrong_table dc_wrong_table pm_wrong_table an_wrong_table cd_wrong_table ct_wrong_table), sl_wrong_table⟩)
    (c_wrong_table : PySem.W.codeIn K cd_wrong_table "wrong_table" = true)
    (k_wrong_table : PySem.W.keepIn K (.ref a_wrong_table0) = true)
    (a_Lot_init : PySem.W.findIn K (.ref C_Lot) "__init__" = some (some (.ref i_Lot0)))
    (l_Lot_init : K.lookup i_Lot0 = some ⟨oc_Lot_init, od_Lot_init, .func (PySem.W.fnOf "__init__" "Lot.__init__" (defArgs s_Lot_init) (defBody s_Lot_init) (defScope s_Lot_init) .none kV_Lot_init dc_Lot_init pm_Lot_init an_Lot_init cd_Lot_init ct_Lot_init), sl_Lot_init⟩)
    (c_Lot_init : PySem.W.codeIn K cd_Lot_init "Lot.__init__" = true)
    (k_Lot_init : PySem.W.keepIn K (.ref i_Lot0) = true)
    (a__law_cast : PySem.W.nsIn K mainGlobals "_law_cast" = some (some (.ref a__law_cast0)))
    (l__law_cast : K.lookup a__law_cast0 = some ⟨oc__law_cast, od__law_cast, .func (PySem.W.fnOf "_law_cast" "_law_cast" (defArgs s__law_cast) (defBody s__law_cast) (defScope s__law_cast) .none kV__law_cast dc__law_cast pm__law_cast an__law_cast cd__law_cast ct__law_cast), sl__law_cast⟩)
    (c__law_cast : PySem.W.codeIn K cd__law_cast "_law_cast" = true)
    (k__law_cast : PySem.W.keepIn K (.ref a__law_cast0) = true)
    (a__law_any_of : PySem.W.nsIn K mainGlobals "_law_any_of" = some (some (.ref a__law_any_of0)))
    (l__law_any_of : K.lookup a__law_any_of0 = some ⟨oc__law_any_of, od__law_any_of, .func (PySem.W.fnOf "_law_any_of" "_law_any_of" (defArgs s__law_any_of) (defBody s__law_any_of) (defScope s__law_any_of) .none kV__law_any_of dc__law_any_of pm__law_any_of an__law_any_of cd__law_any_of ct__law_any_of), sl__law_any_of⟩)
    (c__law_any_of : PySem.W.codeIn K cd__law_any_of "_law_any_of" = true)
    (k__law_any_of : PySem.W.keepIn K (.ref a__law_any_of0) = true)
    (a__law_number : PySem.W.nsIn K mainGlobals "_law_number" = some (some (.ref a__law_number0)))
    (l__law_number : K.lookup a__law_number0 = some ⟨oc__law_number, od__law_number, .func (PySem.W.fnOf "_law_number" "_law_number" (defArgs s__law_number) (defBody s__law_number) (defScope s__law_number) .none kV__law_number dc__law_number pm__law_number an__law_number cd__law_number ct__law_number), sl__law_number⟩)
    (c__law_number : PySem.W.codeIn K cd__law_number "_law_number" = true)
    (k__law_number : PySem.W.keepIn K (.ref a__law_number0) = true)
    (a__law_one : PySem.W.nsIn K mainGlobals "_law_one" = some (some (.ref a__law_one0)))
    (l__law_one : K.lookup a__law_one0 = some ⟨oc__law_one, od__law_one, .func (PySem.W.fnOf "_law_one" "_law_one" (defArgs s__law_one) (defBody s__law_one) (defScope s__law_one) .none kV__law_one dc__law_one pm__law_one an__law_one cd__law_one ct__law_one), sl__law_one⟩)
    (c__law_one : PySem.W.codeIn K cd__law_one "_law_one" = true)
    (k__law_one : PySem.W.keepIn K (.ref a__law_one0) = true)
    (a_written_integer : PySem.W.nsIn K mainGlobals "written_integer" = some (some (.ref a_written_integer0)))
    (l_written_integer : K.lookup a_written_integer0 = some ⟨oc_written_integer, od_written_integer, .func (PySem.W.fnOf "written_integer" "written_integer" (defArgs s_written_integer) (defBody s_written_integer) (defScope s_written_integer) .none kV_written_integer dc_written_integer pm_written_integer an_written_integer cd_written_integer ct_written_integer), sl_written_integer⟩)
    (c_written_integer : PySem.W.codeIn K cd_written_integer "written_integer" = true)
    (k_written_integer : PySem.W.keepIn K (.ref a_written_integer0) = true)
    (a_text_row : PySem.W.nsIn K mainGlobals "text_row" = some (some (.ref a_text_row0)))
    (l_text_row : K.lookup a_text_row0 = some ⟨oc_text_row, od_text_row, .func (PySem.W.fnOf "text_row" "text_row" (defArgs s_text_row) (defBody s_text_row) (defScope s_text_row) .none kV_text_row dc_text_row pm_text_row an_text_row cd_text_row ct_text_row), sl_text_row⟩)
    (c_text_row : PySem.W.codeIn K cd_text_row "text_row" = true)
    (k_text_row : PySem.W.keepIn K (.ref a_text_row0) = true)
    (a_text_lot : PySem.W.nsIn K mainGlobals "text_lot" = some (some (.ref a_text_lot0)))
    (l_text_lot : K.lookup a_text_lot0 = some ⟨oc_text_lot, od_text_lot, .func (PySem.W.fnOf "text_lot" "text_lot" (defArgs s_text_lot) (defBody s_text_lot) (defScope s_text_lot) .none kV_text_lot dc_text_lot pm_text_lot an_text_lot cd_text_lot ct_text_lot), sl_text_lot⟩)
    (c_text_lot : PySem.W.codeIn K cd_text_lot "text_lot" = true)
    (k_text_lot : PySem.W.keepIn K (.ref a_text_lot0) = true)
    (rd_Lot_read : PySem.W.readsIn K C_Lot (.type "type") = true)
    (ga_Lot_read : PySem.W.specialIn K (.ref C_Lot) "__getattribute__" = some (some (.builtin "type.__getattribute__")))
    (a_Lot_read : PySem.W.findCls K (.ref C_Lot) (.type "type") "read" = some (.get (.builtin "classmethod.__get__") (.ref p_Lot_read) .none (.ref C_Lot)))
    (r_Lot_read : PySem.W.recIn K p_Lot_read "classmethod" = some (.ref a_Lot_read0 :: rest_Lot_read))
    (fi_Lot_read : PySem.W.fnIn K a_Lot_read0 = true)
    (l_Lot_read : K.lookup a_Lot_read0 = some ⟨oc_Lot_read, od_Lot_read, .func (PySem.W.fnOf "read" "Lot.read" (defArgs s_Lot_read) (defBody s_Lot_read) (defScope s_Lot_read) .none kV_Lot_read dc_Lot_read pm_Lot_read an_Lot_read cd_Lot_read ct_Lot_read), sl_Lot_read⟩)
    (c_Lot_read : PySem.W.codeIn K cd_Lot_read "Lot.read" = true)
    (k_Lot_read : PySem.W.keepIn K (.ref a_Lot_read0) = true)
    (a__law_lines : PySem.W.nsIn K mainGlobals "_law_lines" = some (some (.ref a__law_lines0)))
    (l__law_lines : K.lookup a__law_lines0 = some ⟨oc__law_lines, od__law_lines, .func (PySem.W.fnOf "_law_lines" "_law_lines" (defArgs s__law_lines) (defBody s__law_lines) (defScope s__law_lines) .none kV__law_lines dc__law_lines pm__law_lines an__law_lines cd__law_lines ct__law_lines), sl__law_lines⟩)
    (c__law_lines : PySem.W.codeIn K cd__law_lines "_law_lines" = true)
    (k__law_lines : PySem.W.keepIn K (.ref a__law_lines0) = true)
    (a__law_sheet : PySem.W.nsIn K mainGlobals "_law_sheet" = some (some (.ref a__law_sheet0)))
    (l__law_sheet : K.lookup a__law_sheet0 = some ⟨oc__law_sheet, od__law_sheet, .func (PySem.W.fnOf "_law_sheet" "_law_sheet" (defArgs s__law_sheet) (defBody s__law_sheet) (defScope s__law_sheet) .none kV__law_sheet dc__law_sheet pm__law_sheet an__law_sheet cd__law_sheet ct__law_sheet), sl__law_sheet⟩)
    (c__law_sheet : PySem.W.codeIn K cd__law_sheet "_law_sheet" = true)
    (k__law_sheet : PySem.W.keepIn K (.ref a__law_sheet0) = true)
    (a__law_built : PySem.W.nsIn K mainGlobals "_law_built" = some (some (.ref a__law_built0)))
    (l__law_built : K.lookup a__law_built0 = some ⟨oc__law_built, od__law_built, .func (PySem.W.fnOf "_law_built" "_law_built" (defArgs s__law_built) (defBody s__law_built) (defScope s__law_built) .none kV__law_built dc__law_built pm__law_built an__law_built cd__law_built ct__law_built), sl__law_built⟩)
    (c__law_built : PySem.W.codeIn K cd__law_built "_law_built" = true)
    (k__law_built : PySem.W.keepIn K (.ref a__law_built0) = true)
    (a_check_lot : PySem.W.nsIn K mainGlobals "check_lot" = some (some (.ref a_check_lot0)))
    (l_check_lot : K.lookup a_check_lot0 = some ⟨oc_check_lot, od_check_lot, .func (PySem.W.fnOf "check_lot" "check_lot" (defArgs s_check_lot) (defBody s_check_lot) (defScope s_check_lot) .none kV_check_lot dc_check_lot pm_check_lot an_check_lot cd_check_lot ct_check_lot), sl_check_lot⟩)
    (c_check_lot : PySem.W.codeIn K cd_check_lot "check_lot" = true)
    (k_check_lot : PySem.W.keepIn K (.ref a_check_lot0) = true)
    (a_wrong_letter : PySem.W.nsIn K mainGlobals "wrong_letter" = some (some (.ref a_wrong_letter0)))
    (l_wrong_letter : K.lookup a_wrong_letter0 = some ⟨oc_wrong_letter, od_wrong_letter, .func (PySem.W.fnOf "wrong_letter" "wrong_letter" (defArgs s_wrong_letter) (defBody s_wrong_letter) (defScope s_wrong_letter) .none kV_wrong_letter dc_wrong_letter pm_wrong_letter an_wrong_letter cd_wrong_letter ct_wrong_letter), sl_wrong_letter⟩)
    (c_wrong_letter : PySem.W.codeIn K cd_wrong_letter "wrong_letter" = true)
    (k_wrong_letter : PySem.W.keepIn K (.ref a_wrong_letter0) = true)
    (a_check_word : PySem.W.nsIn K mainGlobals "check_word" = some (some (.ref a_check_word0)))
    (l_check_word : K.lookup a_check_word0 = some ⟨oc_check_word, od_check_word, .func (PySem.W.fnOf "check_word" "check_word" (defArgs s_check_word) (defBody s_check_word) (defScope s_check_word) .none kV_check_word dc_check_word pm_check_word an_check_word cd_check_word ct_check_word), sl_check_word⟩)
    (c_check_word : PySem.W.codeIn K cd_check_word "check_word" = true)
    (k_check_word : PySem.W.keepIn K (.ref a_check_word0) = true)
    (a_unit : PySem.W.nsIn K mainGlobals "unit" = some (some (.ref a_unit0)))
    (l_unit : K.lookup a_unit0 = some ⟨oc_unit, od_unit, .func (PySem.W.fnOf "unit" "unit" (defArgs s_unit) (defBody s_unit) (defScope s_unit) .none kV_unit dc_unit pm_unit an_unit cd_unit ct_unit), sl_unit⟩)
    (c_unit : PySem.W.codeIn K cd_unit "unit" = true)
    (k_unit : PySem.W.keepIn K (.ref a_unit0) = true)
    (a_times : PySem.W.nsIn K mainGlobals "times" = some (some (.ref a_times0)))
    (l_times : K.lookup a_times0 = some ⟨oc_times, od_times, .func (PySem.W.fnOf "times" "times" (defArgs s_times) (defBody s_times) (defScope s_times) .none kV_times dc_times pm_times an_times cd_times ct_times), sl_times⟩)
    (c_times : PySem.W.codeIn K cd_times "times" = true)
    (k_times : PySem.W.keepIn K (.ref a_times0) = true)
    (a_product_of : PySem.W.nsIn K mainGlobals "product_of" = some (some (.ref a_product_of0)))
    (l_product_of : K.lookup a_product_of0 = some ⟨oc_product_of, od_product_of, .func (PySem.W.fnOf "product_of" "product_of" (defArgs s_product_of) (defBody s_product_of) (defScope s_product_of) .none kV_product_of dc_product_of pm_product_of an_product_of cd_product_of ct_product_of), sl_product_of⟩)
    (c_product_of : PySem.W.codeIn K cd_product_of "product_of" = true)
    (k_product_of : PySem.W.keepIn K (.ref a_product_of0) = true)
    (a_Lot_tables : PySem.W.findIn K (.ref C_Lot) "tables" = some (some (.ref p_Lot_tables)))
    (e_Lot_tables : PySem.W.specialIn K (.ref p_Lot_tables) "__get__" = some (some (.builtin "property.__get__")))
    (t_Lot_tables : PySem.W.takesIn K (.ref p_Lot_tables) = some true)
    (r_Lot_tables : PySem.W.recIn K p_Lot_tables "property" = some (.ref a_Lot_tables0 :: rest_Lot_tables))
    (l_Lot_tables : K.lookup a_Lot_tables0 = some ⟨oc_Lot_tables, od_Lot_tables, .func (PySem.W.fnOf "tables" "Lot.tables" (defArgs s_Lot_tables) (defBody s_Lot_tables) (defScope s_Lot_tables) .none kV_Lot_tables dc_Lot_tables pm_Lot_tables an_Lot_tables cd_Lot_tables ct_Lot_tables), sl_Lot_tables⟩)
    (c_Lot_tables : PySem.W.codeIn K cd_Lot_tables "Lot.tables" = true)
    (k_Lot_tables : PySem.W.keepIn K (.ref a_Lot_tables0) = true)
    (a_product : PySem.W.nsIn K mainGlobals "product" = some (some (.ref a_product0)))
    (l_product : K.lookup a_product0 = some ⟨oc_product, od_product, .func (PySem.W.fnOf "product" "product" (defArgs s_product) (defBody s_product) (defScope s_product) .none kV_product dc_product pm_product an_product cd_product ct_product), sl_product⟩)
    (c_product : PySem.W.codeIn K cd_product "product" = true)
    (k_product : PySem.W.keepIn K (.ref a_product0) = true)
    (a_trace_of : PySem.W.nsIn K mainGlobals "trace_of" = some (some (.ref a_trace_of0)))
    (l_trace_of : K.lookup a_trace_of0 = some ⟨oc_trace_of, od_trace_of, .func (PySem.W.fnOf "trace_of" "trace_of" (defArgs s_trace_of) (defBody s_trace_of) (defScope s_trace_of) .none kV_trace_of dc_trace_of pm_trace_of an_trace_of cd_trace_of ct_trace_of), sl_trace_of⟩)
    (c_trace_of : PySem.W.codeIn K cd_trace_of "trace_of" = true)
    (k_trace_of : PySem.W.keepIn K (.ref a_trace_of0) = true)
    (a_trace : PySem.W.nsIn K mainGlobals "trace" = some (some (.ref a_trace0)))
    (l_trace : K.lookup a_trace0 = some ⟨oc_trace, od_trace, .func (PySem.W.fnOf "trace" "trace" (defArgs s_trace) (defBody s_trace) (defScope s_trace) .none kV_trace dc_trace pm_trace an_trace cd_trace ct_trace), sl_trace⟩)
    (c_trace : PySem.W.codeIn K cd_trace "trace" = true)
    (k_trace : PySem.W.keepIn K (.ref a_trace0) = true)
    (a__law_corner : PySem.W.nsIn K mainGlobals "_law_corner" = some (some (.ref a__law_corner0)))
    (l__law_corner : K.lookup a__law_corner0 = some ⟨oc__law_corner, od__law_corner, .func (PySem.W.fnOf "_law_corner" "_law_corner" (defArgs s__law_corner) (defBody s__law_corner) (defScope s__law_corner) .none kV__law_corner dc__law_corner pm__law_corner an__law_corner cd__law_corner ct__law_corner), sl__law_corner⟩)
    (c__law_corner : PySem.W.codeIn K cd__law_corner "_law_corner" = true)
    (k__law_corner : PySem.W.keepIn K (.ref a__law_corner0) = true)
    (a__law_right : PySem.W.nsIn K mainGlobals "_law_right" = some (some (.ref a__law_right0)))
    (l__law_right : K.lookup a__law_right0 = some ⟨oc__law_right, od__law_right, .func (PySem.W.fnOf "_law_right" "_law_right" (defArgs s__law_right) (defBody s__law_right) (defScope s__law_right) .none kV__law_right dc__law_right pm__law_right an__law_right cd__law_right ct__law_right), sl__law_right⟩)
    (c__law_right : PySem.W.codeIn K cd__law_right "_law_right" = true)
    (k__law_right : PySem.W.keepIn K (.ref a__law_right0) = true)
    (a__law_begun : PySem.W.nsIn K mainGlobals "_law_begun" = some (some (.ref a__law_begun0)))
    (l__law_begun : K.lookup a__law_begun0 = some ⟨oc__law_begun, od__law_begun, .func (PySem.W.fnOf "_law_begun" "_law_begun" (defArgs s__law_begun) (defBody s__law_begun) (defScope s__law_begun) .none kV__law_begun dc__law_begun pm__law_begun an__law_begun cd__law_begun ct__law_begun), sl__law_begun⟩)
    (c__law_begun : PySem.W.codeIn K cd__law_begun "_law_begun" = true)
    (k__law_begun : PySem.W.keepIn K (.ref a__law_begun0) = true)
    (a_law : PySem.W.nsIn K mainGlobals "law" = some (some (.ref a_law0)))
    (l_law : K.lookup a_law0 = some ⟨oc_law, od_law, .func (PySem.W.fnOf "law" "law" (defArgs s_law) (defBody s_law) (defScope s_law) .none kV_law dc_law pm_law an_law cd_law ct_law), sl_law⟩)
    (c_law : PySem.W.codeIn K cd_law "law" = true)
    (k_law : PySem.W.keepIn K (.ref a_law0) = true)
    (if_Lot : PySem.W.isFn K (.ref i_Lot0) = true)
    (mk_Lot : PySem.W.makesIn K C_Lot = true)
    (kc_Lot : PySem.W.keepIn K (.ref C_Lot) = true)
    (pg_Lot : PySem.W.plainGet K C_Lot Str.empty = true)
    (ic_Lot : PySem.W.isClsIn K C_Lot = true)
    (po_Lot : PySem.W.plainOver K C_Lot = true)
    (sa_Lot : PySem.W.findIn K (.ref C_Lot) "__setattr__" = some (some (.builtin "object.__setattr__")))
    (ca_Lot : PySem.W.findIn K (.ref C_Lot) "__class__" = some (some (.builtin "object.__class__")))
    (cm_Lot : PySem.W.mroIn K C_Lot (.type "object") = some true)
    (sf_Lot_own_tables : PySem.W.findIn K (.ref C_Lot) "own_tables" = some (some (.ref sp_Lot_own_tables)))
    (sg_Lot_own_tables : PySem.W.specialIn K (.ref sp_Lot_own_tables) "__get__" = some (some (.builtin "member_descriptor.__get__")))
    (st_Lot_own_tables : PySem.W.takesIn K (.ref sp_Lot_own_tables) = some true)
    (sy_Lot_own_tables : PySem.W.typeIn K (.ref sp_Lot_own_tables) = some (.type "member_descriptor"))
    (sx_Lot_own_tables : PySem.W.slotIn K sp_Lot_own_tables C_Lot = some 0)
    (kt_Lot_int : PySem.W.kitOne K (.ref C_Lot) (.type "int") = some false)
    (kt_Lot_str : PySem.W.kitOne K (.ref C_Lot) (.type "str") = some false)
    (kt_Lot_tuple : PySem.W.kitOne K (.ref C_Lot) (.type "tuple") = some false)
    (kt_Lot_list : PySem.W.kitOne K (.ref C_Lot) (.type "list") = some false)
    (kt_Lot_bool : PySem.W.kitOne K (.ref C_Lot) (.type "bool") = some false)
    (kb_Lot_int : PySem.W.kitOne K (.type "int") (.ref C_Lot) = some false)
    (kb_Lot_str : PySem.W.kitOne K (.type "str") (.ref C_Lot) = some false)
    (kb_Lot_tuple : PySem.W.kitOne K (.type "tuple") (.ref C_Lot) = some false)
    (kb_Lot_list : PySem.W.kitOne K (.type "list") (.ref C_Lot) = some false)
    (kb_Lot_bool : PySem.W.kitOne K (.type "bool") (.ref C_Lot) = some false)
    (kb_Lot_NoneType : PySem.W.kitOne K (.type "NoneType") (.ref C_Lot) = some false)
    (kb_Lot_dict : PySem.W.kitOne K (.type "dict") (.ref C_Lot) = some false)
    (kc_Lot_Lot : PySem.W.kitOne K (.ref C_Lot) (.ref C_Lot) = some true)
    (cn : PySem.W.specialIn K (.builtin "object.__class__") "__get__" = some (some (.builtin "getset_descriptor.__get__")))
    (ct : PySem.W.takesIn K (.builtin "object.__class__") = some true)
    (n_abs : PySem.W.nsIn K mainGlobals "abs" = some none)
    (n_all : PySem.W.nsIn K mainGlobals "all" = some none)
    (n_bool : PySem.W.nsIn K mainGlobals "bool" = some none)
    (n_divmod : PySem.W.nsIn K mainGlobals "divmod" = some none)
    (n_enumerate : PySem.W.nsIn K mainGlobals "enumerate" = some none)
    (n_int : PySem.W.nsIn K mainGlobals "int" = some none)
    (n_isinstance : PySem.W.nsIn K mainGlobals "isinstance" = some none)
    (n_len : PySem.W.nsIn K mainGlobals "len" = some none)
    (n_list : PySem.W.nsIn K mainGlobals "list" = some none)
    (n_max : PySem.W.nsIn K mainGlobals "max" = some none)
    (n_min : PySem.W.nsIn K mainGlobals "min" = some none)
    (n_range : PySem.W.nsIn K mainGlobals "range" = some none)
    (n_repr : PySem.W.nsIn K mainGlobals "repr" = some none)
    (n_str : PySem.W.nsIn K mainGlobals "str" = some none)
    (n_sum : PySem.W.nsIn K mainGlobals "sum" = some none)
    (n_tuple : PySem.W.nsIn K mainGlobals "tuple" = some none)
    (n_zip : PySem.W.nsIn K mainGlobals "zip" = some none)
    (x_DIGITS : PySem.W.nsIn K mainGlobals "DIGITS" = some (some (.str "0123456789" t_DIGITS)))
    (x_MOST_LETTERS : PySem.W.nsIn K mainGlobals "MOST_LETTERS" = some (some (.int 40 t_MOST_LETTERS)))
    (x_MOST_NUMBER : PySem.W.nsIn K mainGlobals "MOST_NUMBER" = some (some (.int 1000000 t_MOST_NUMBER)))
    (x_MOST_SIZE : PySem.W.nsIn K mainGlobals "MOST_SIZE" = some (some (.int 4 t_MOST_SIZE)))
    (x_MOST_TABLES : PySem.W.nsIn K mainGlobals "MOST_TABLES" = some (some (.int 3 t_MOST_TABLES)))
    : ∃ fd : FuncData, (∀ (s : Shared) (v : Value), BindsTo s fd ⟨[v], []⟩ [("_law_script", v)]) ∧ ∀ base : Heap, K.In base → base.Ns mainGlobals mg → (∀ p ∈ ([] : List (Addr × Addr)), LamX.TabB base mg p.1 p.2) → FnA PySem.Challenge.rw_alltriangular_k17_whole_units_and_zeros.prog w K mg base (L2.CX PySem.Challenge.rw_alltriangular_k17_whole_units_and_zeros.prog w) (4 * lvl + 4) fa fd ["_law_script"] (spLaw K ([] : List (Addr × Str))) := by
  have e := hfa.symm.trans (PySem.W.mg_of X G a_law)
  cases e
  let cs0 : List (Addr × Addr) := ([] : List (Addr × Addr))
  let T0 : List (Addr × Str) := ([] : List (Addr × Str))
  let C : Nat → Addr := fun i => if i = 0 then C_Lot else 0
  have F_is_integer := fun_mk (st := s_is_integer) l_is_integer c_is_integer k_is_integer
  have B_is_integer := F_is_integer.binds (ps := ["value"]) fun _ _ _ _ _ _ us hl => match us, hl with | [_], _ => rfl
  have F_are_integers := fun_mk (st := s_are_integers) l_are_integers c_are_integers k_are_integers
  have B_are_integers := F_are_integers.binds (ps := ["value", "many"]) fun _ _ _ _ _ _ us hl => match us, hl with | [_, _], _ => rfl
  have F_is_table := fun_mk (st := s_is_table) l_is_table c_is_table k_is_table
  have B_is_table := F_is_table.binds (ps := ["value"]) fun _ _ _ _ _ _ us hl => match us, hl with | [_], _ => rfl
  have F_wrong_table := fun_mk (st := s_wrong_table) l_wrong_table c_wrong_table k_wrong_table
  have B_wrong_table := F_wrong_table.binds (ps := ["value"]) fun _ _ _ _ _ _ us hl => match us, hl with | [_], _ => rfl
  have F_Lot_init := fun_mk (st := s_Lot_init) l_Lot_init c_Lot_init k_Lot_init
  have B_Lot_init := F_Lot_init.binds (ps := ["self", "tables"]) fun _ _ _ _ _ _ us hl => match us, hl with | [_, _], _ => rfl
  have F__law_cast := fun_mk (st := s__law_cast) l__law_cast c__law_cast k__law_cast
  have B__law_cast := F__law_cast.binds (ps := ["_law_pail", "_law_many"]) fun _ _ _ _ _ _ us hl => match us, hl with | [_, _], _ => rfl
  have F__law_any_of := fun_mk (st := s__law_any_of) l__law_any_of c__law_any_of k__law_any_of
  have B__law_any_of := F__law_any_of.binds (ps := ["_law_pail", "_law_some"]) fun _ _ _ _ _ _ us hl => match us, hl with | [_, _], _ => rfl
  have F__law_number := fun_mk (st := s__law_number) l__law_number c__law_number k__law_number
  have B__law_number := F__law_number.binds (ps := ["_law_pail"]) fun _ _ _ _ _ _ us hl => match us, hl with | [_], _ => rfl
  have F__law_one := fun_mk (st := s__law_one) l__law_one c__law_one k__law_one
  have B__law_one := F__law_one.binds (ps := ["_law_size"]) fun _ _ _ _ _ _ us hl => match us, hl with | [_], _ => rfl
  have F_written_integer := fun_mk (st := s_written_integer) l_written_integer c_written_integer k_written_integer
  have B_written_integer := F_written_integer.binds (ps := ["word"]) fun _ _ _ _ _ _ us hl => match us, hl with | [_], _ => rfl
  have F_text_row := fun_mk (st := s_text_row) l_text_row c_text_row k_text_row
  have B_text_row := F_text_row.binds (ps := ["line"]) fun _ _ _ _ _ _ us hl => match us, hl with | [_], _ => rfl
  have F_text_lot := fun_mk (st := s_text_lot) l_text_lot c_text_lot k_text_lot
  have B_text_lot := F_text_lot.binds (ps := ["value"]) fun _ _ _ _ _ _ us hl => match us, hl with | [_], _ => rfl
  have F_Lot_read := fun_mk (st := s_Lot_read) l_Lot_read c_Lot_read k_Lot_read
  have B_Lot_read := F_Lot_read.binds (ps := ["cls", "text"]) fun _ _ _ _ _ _ us hl => match us, hl with | [_, _], _ => rfl
  have F__law_lines := fun_mk (st := s__law_lines) l__law_lines c__law_lines k__law_lines
  have B__law_lines := F__law_lines.binds (ps := ["_law_grids"]) fun _ _ _ _ _ _ us hl => match us, hl with | [_], _ => rfl
  have F__law_sheet := fun_mk (st := s__law_sheet) l__law_sheet c__law_sheet k__law_sheet
  have B__law_sheet := F__law_sheet.binds (ps := ["_law_grids"]) fun _ _ _ _ _ _ us hl => match us, hl with | [_], _ => rfl
  have F__law_built := fun_mk (st := s__law_built) l__law_built c__law_built k__law_built
  have B__law_built := F__law_built.binds (ps := ["_law_pail", "_law_grids"]) fun _ _ _ _ _ _ us hl => match us, hl with | [_, _], _ => rfl
  have F_check_lot := fun_mk (st := s_check_lot) l_check_lot c_check_lot k_check_lot
  have B_check_lot := F_check_lot.binds (ps := ["value"]) fun _ _ _ _ _ _ us hl => match us, hl with | [_], _ => rfl
  have F_wrong_letter := fun_mk (st := s_wrong_letter) l_wrong_letter c_wrong_letter k_wrong_letter
  have B_wrong_letter := F_wrong_letter.binds (ps := ["lot", "value"]) fun _ _ _ _ _ _ us hl => match us, hl with | [_, _], _ => rfl
  have F_check_word := fun_mk (st := s_check_word) l_check_word c_check_word k_check_word
  have B_check_word := F_check_word.binds (ps := ["lot", "value"]) fun _ _ _ _ _ _ us hl => match us, hl with | [_, _], _ => rfl
  have F_unit := fun_mk (st := s_unit) l_unit c_unit k_unit
  have B_unit := F_unit.binds (ps := ["size"]) fun _ _ _ _ _ _ us hl => match us, hl with | [_], _ => rfl
  have F_times := fun_mk (st := s_times) l_times c_times k_times
  have B_times := F_times.binds (ps := ["one", "other"]) fun _ _ _ _ _ _ us hl => match us, hl with | [_, _], _ => rfl
  have F_product_of := fun_mk (st := s_product_of) l_product_of c_product_of k_product_of
  have B_product_of := F_product_of.binds (ps := ["tables", "word"]) fun _ _ _ _ _ _ us hl => match us, hl with | [_, _], _ => rfl
  have F_Lot_tables := fun_mk (st := s_Lot_tables) l_Lot_tables c_Lot_tables k_Lot_tables
  have B_Lot_tables := F_Lot_tables.binds (ps := ["self"]) fun _ _ _ _ _ _ us hl => match us, hl with | [_], _ => rfl
  have F_product := fun_mk (st := s_product) l_product c_product k_product
  have B_product := F_product.binds (ps := ["lot", "word"]) fun _ _ _ _ _ _ us hl => match us, hl with | [_, _], _ => rfl
  have F_trace_of := fun_mk (st := s_trace_of) l_trace_of c_trace_of k_trace_of
  have B_trace_of := F_trace_of.binds (ps := ["table"]) fun _ _ _ _ _ _ us hl => match us, hl with | [_], _ => rfl
  have F_trace := fun_mk (st := s_trace) l_trace c_trace k_trace
  have B_trace := F_trace.binds (ps := ["lot", "word"]) fun _ _ _ _ _ _ us hl => match us, hl with | [_, _], _ => rfl
  have F__law_corner := fun_mk (st := s__law_corner) l__law_corner c__law_corner k__law_corner
  have B__law_corner := F__law_corner.binds (ps := ["_law_grid"]) fun _ _ _ _ _ _ us hl => match us, hl with | [_], _ => rfl
  have F__law_right := fun_mk (st := s__law_right) l__law_right c__law_right k__law_right
  have B__law_right := F__law_right.binds (ps := ["_law_pail"]) fun _ _ _ _ _ _ us hl => match us, hl with | [_], _ => rfl
  have F__law_begun := fun_mk (st := s__law_begun) l__law_begun c__law_begun k__law_begun
  have B__law_begun := F__law_begun.binds (ps := ["_law_script", "_law_turn"]) fun _ _ _ _ _ _ us hl => match us, hl with | [_, _], _ => rfl
  have F_law := fun_mk (st := s_law) l_law c_law k_law
  have B_law := F_law.binds (ps := ["_law_script"]) fun _ _ _ _ _ _ us hl => match us, hl with | [_], _ => rfl
  have F : Facts K mg C cs0 T0 a_is_integer0 a_are_integers0 a_is_table0 a_wrong_table0 i_Lot0 a__law_cast0 a__law_any_of0 a__law_number0 a__law_one0 a_written_integer0 a_text_row0 a_text_lot0 a_Lot_read0 a__law_lines0 a__law_sheet0 a__law_built0 a_check_lot0 a_wrong_letter0 a_check_word0 a_unit0 a_times0 a_product_of0 a_Lot_tables0 a_product0 a_trace_of0 a_trace0 a__law_corner0 a__law_right0 a__law_begun0 fa := {
    d_is_integer := ⟨_, F_is_integer, B_is_integer⟩,
    g_is_integer := PySem.W.mg_of X G a_is_integer,
    k_is_integer := k_is_integer,
    d_are_integers := ⟨_, F_are_integers, B_are_integers⟩,
    g_are_integers := PySem.W.mg_of X G a_are_integers,
    k_are_integers := k_are_integers,
    d_is_table := ⟨_, F_is_table, B_is_table⟩,
    g_is_table := PySem.W.mg_of X G a_is_table,
    k_is_table := k_is_table,
    d_wrong_table := ⟨_, F_wrong_table, B_wrong_table⟩,
    g_wrong_table := PySem.W.mg_of X G a_wrong_table,
    k_wrong_table := k_wrong_table,
    d_Lot_init := ⟨_, F_Lot_init, B_Lot_init⟩,
    d__law_cast := ⟨_, F__law_cast, B__law_cast⟩,
    g__law_cast := PySem.W.mg_of X G a__law_cast,
    k__law_cast := k__law_cast,
    d__law_any_of := ⟨_, F__law_any_of, B__law_any_of⟩,
    g__law_any_of := PySem.W.mg_of X G a__law_any_of,
    k__law_any_of := k__law_any_of,
    d__law_number := ⟨_, F__law_number, B__law_number⟩,
    g__law_number := PySem.W.mg_of X G a__law_number,
    k__law_number := k__law_number,
    d__law_one := ⟨_, F__law_one, B__law_one⟩,
    g__law_one := PySem.W.mg_of X G a__law_one,
    k__law_one := k__law_one,
    d_written_integer := ⟨_, F_written_integer, B_written_integer⟩,
    g_written_integer := PySem.W.mg_of X G a_written_integer,
    k_written_integer := k_written_integer,
    d_text_row := ⟨_, F_text_row, B_text_row⟩,
    g_text_row := PySem.W.mg_of X G a_text_row,
    k_text_row := k_text_row,
    d_text_lot := ⟨_, F_text_lot, B_text_lot⟩,
    g_text_lot := PySem.W.mg_of X G a_text_lot,
    k_text_lot := k_text_lot,
    d_Lot_read := ⟨_, F_Lot_read, B_Lot_read⟩,
    cm_Lot_read := ⟨.type "type", p_Lot_read, ⟨rd_Lot_read, ga_Lot_read⟩, ⟨a_Lot_read, ⟨rest_Lot_read, r_Lot_read⟩, fi_Lot_read⟩⟩,
    d__law_lines := ⟨_, F__law_lines, B__law_lines⟩,
    g__law_lines := PySem.W.mg_of X G a__law_lines,
    k__law_lines := k__law_lines,
    d__law_sheet := ⟨_, F__law_sheet, B__law_sheet⟩,
    g__law_sheet := PySem.W.mg_of X G a__law_sheet,
    k__law_sheet := k__law_sheet,
    d__law_built := ⟨_, F__law_built, B__law_built⟩,
    g__law_built := PySem.W.mg_of X G a__law_built,
    k__law_built := k__law_built,
    d_check_lot := ⟨_, F_check_lot, B_check_lot⟩,
    g_check_lot := PySem.W.mg_of X G a_check_lot,
    k_check_lot := k_check_lot,
    d_wrong_letter := ⟨_, F_wrong_letter, B_wrong_letter⟩,
    g_wrong_letter := PySem.W.mg_of X G a_wrong_letter,
    k_wrong_letter := k_wrong_letter,
    d_check_word := ⟨_, F_check_word, B_check_word⟩,
    g_check_word := PySem.W.mg_of X G a_check_word,
    k_check_word := k_check_word,
    d_unit := ⟨_, F_unit, B_unit⟩,
    g_unit := PySem.W.mg_of X G a_unit,
    k_unit := k_unit,
    d_times := ⟨_, F_times, B_times⟩,
    g_times := PySem.W.mg_of X G a_times,
    k_times := k_times,
    d_product_of := ⟨_, F_product_of, B_product_of⟩,
    g_product_of := PySem.W.mg_of X G a_product_of,
    k_product_of := k_product_of,
    d_Lot_tables := ⟨_, F_Lot_tables, B_Lot_tables⟩,
    p_Lot_tables := ⟨p_Lot_tables, a_Lot_tables, e_Lot_tables, t_Lot_tables, rest_Lot_tables, r_Lot_tables⟩,
    d_product := ⟨_, F_product, B_product⟩,
    g_product := PySem.W.mg_of X G a_product,
    k_product := k_product,
    d_trace_of := ⟨_, F_trace_of, B_trace_of⟩,
    g_trace_of := PySem.W.mg_of X G a_trace_of,
    k_trace_of := k_trace_of,
    d_trace := ⟨_, F_trace, B_trace⟩,
    g_trace := PySem.W.mg_of X G a_trace,
    k_trace := k_trace,
    d__law_corner := ⟨_, F__law_corner, B__law_corner⟩,
    g__law_corner := PySem.W.mg_of X G a__law_corner,
    k__law_corner := k__law_corner,
    d__law_right := ⟨_, F__law_right, B__law_right⟩,
    g__law_right := PySem.W.mg_of X G a__law_right,
    k__law_right := k__law_right,
    d__law_begun := ⟨_, F__law_begun, B__law_begun⟩,
    g__law_begun := PySem.W.mg_of X G a__law_begun,
    k__law_begun := k__law_begun,
    d_law := ⟨_, F_law, B_law⟩,
    g_law := PySem.W.mg_of X G a_law,
    k_law := k_law,
    dk_Lot_tables := ⟨_, F_Lot_init, kb_of F_Lot_init fun _ _ _ _ _ _ us ws h1 h2 => match us, ws, h1, h2 with | [_], [_], _, _ => rfl⟩,
    m_Lot := ⟨mk_Lot, a_Lot_init, if_Lot, kc_Lot⟩,
    h_Lot := PySem.W.mg_of X G aC_Lot,
    s_Lot_own_tables := ⟨sp_Lot_own_tables, sf_Lot_own_tables, sg_Lot_own_tables, st_Lot_own_tables, sy_Lot_own_tables, sx_Lot_own_tables, by decide⟩,
    co := ⟨fun i hi => match i, hi with | 0, _ => ⟨pg_Lot, ic_Lot, po_Lot, sa_Lot⟩, fun i hi => match i, hi with | 0, _ => ⟨ca_Lot, cn, ct, cm_Lot⟩, fun i hi t ht => match i, hi with | 0, _ => (by simp only [List.mem_cons, List.mem_nil_iff, or_false] at ht; rcases ht with rfl | rfl | rfl | rfl | rfl <;> first | exact kt_Lot_int | exact kt_Lot_str | exact kt_Lot_tuple | exact kt_Lot_list | exact kt_Lot_bool), fun i hi t ht => match i, hi with | 0, _ => (by simp only [List.mem_cons, List.mem_nil_iff, or_false] at ht; rcases ht with rfl | rfl | rfl | rfl | rfl | rfl | rfl <;> first | exact kb_Lot_int | exact kb_Lot_str | exact kb_Lot_tuple | exact kb_Lot_list | exact kb_Lot_bool | exact kb_Lot_NoneType | exact kb_Lot_dict), fun i j hi hj => match i, j, hi, hj with | 0, 0, _, _ => kc_Lot_Lot⟩,
    n_abs := PySem.W.mg_none_of X G n_abs,
    n_all := PySem.W.mg_none_of X G n_all,
    n_bool := PySem.W.mg_none_of X G n_bool,
    n_divmod := PySem.W.mg_none_of X G n_divmod,
    n_enumerate := PySem.W.mg_none_of X G n_enumerate,
    n_int := PySem.W.mg_none_of X G n_int,
    n_isinstance := PySem.W.mg_none_of X G n_isinstance,
    n_len := PySem.W.mg_none_of X G n_len,
    n_list := PySem.W.mg_none_of X G n_list,
    n_max := PySem.W.mg_none_of X G n_max,
    n_min := PySem.W.mg_none_of X G n_min,
    n_range := PySem.W.mg_none_of X G n_range,
    n_repr := PySem.W.mg_none_of X G n_repr,
    n_str := PySem.W.mg_none_of X G n_str,
    n_sum := PySem.W.mg_none_of X G n_sum,
    n_tuple := PySem.W.mg_none_of X G n_tuple,
    n_zip := PySem.W.mg_none_of X G n_zip,
    x_DIGITS := ⟨_, PySem.W.mg_of X G x_DIGITS⟩,
    x_MOST_LETTERS := ⟨_, PySem.W.mg_of X G x_MOST_LETTERS⟩,
    x_MOST_NUMBER := ⟨_, PySem.W.mg_of X G x_MOST_NUMBER⟩,
    x_MOST_SIZE := ⟨_, PySem.W.mg_of X G x_MOST_SIZE⟩,
    x_MOST_TABLES := ⟨_, PySem.W.mg_of X G x_MOST_TABLES⟩ }
  refine ⟨_, fun s v => .of_eq rfl, fun base _ _ TB => (fno_next (W := Wj PySem.Challenge.rw_alltriangular_k17_whole_units_and_zeros.prog w K mg base C T0 lvl) (j := lvl) (f := 1028) (d := d_law) (ps := ["_law_script"]) rfl rfl F_law sc_law rfl rfl (b_law (lev F TB lvl))).imp fun vs H Q E h => law_of (Z := Zj K C T0) (t := tab) (J := lvl + 1) (f := 1028) (fun ns h1 h2 => by have z := r_law (n := lvl + 1) (Nat.le_refl _) (scr ns); unfold FP FV at z; rw [plain ns h1 h2] at z; obtain ⟨r, q, e, rfl, _⟩ := z; exact ⟨q, e⟩) h⟩
theorem walk (plain : Plain) {q : Program} {loose : List Str} {XP : (Str → Option Value) → Heap → Prop} {YP : World → Heap → Prop} {d : DefRec} {K : Params → PySem.W.Frag} (hn : PySem.Challenge.rw_alltriangular_k17_whole_units_and_zeros.most = some 63) (hdf : d.params.defaults = [])
    {cs0 : List (Addr × Addr)} {T0 : List (Addr × Str)} (hT0 : ∀ p ∈ T0, p.1 ∈ cs0.map (·.2)) (hY : ∀ (w : World) (h : Heap), YP w h → (K w.params).In h)
    (hcs : ∀ (w : World) (h : Heap), YP w h → CsOk (K w.params) h cs0) (ks : ∀ w : World, (K w.params).lookup sysModules = none) (him : importsNone q = true)
    (F : ∀ (w : World) (mg : Str → Option Value) (fa : Addr) (h : Heap), (K w.params).In h → h.Ns mainGlobals mg → mg d.name = some (.ref fa) →
      ∃ fd : FuncData, (∀ (s : Shared) (u : Value), BindsTo s fd ⟨[u], []⟩ [("_law_script", u)]) ∧ ∀ base : Heap, (K w.params).In base → base.Ns mainGlobals mg → (∀ p ∈ cs0, LamX.TabB base mg p.1 p.2) → FnA PySem.Challenge.rw_alltriangular_k17_whole_units_and_zeros.prog w (K w.params) mg base (L2.CX PySem.Challenge.rw_alltriangular_k17_whole_units_and_zeros.prog w) (4 * lvl + 4) fa fd ["_law_script"] (spLaw (K w.params) T0)) :
    PySem.W.WalkO q loose XP YP PySem.Challenge.rw_alltriangular_k17_whole_units_and_zeros.row.toRowW d [] (fun f vs => PySem.call f vs) :=
  walk_ofA (n := 63) (k := 4 * lvl + 4) (x := "_law_script") (CX := fun w => L2.CX PySem.Challenge.rw_alltriangular_k17_whole_units_and_zeros.prog w) (sp := fun w => spLaw (K w.params) T0) hn (by decide) hdf ⟨rfl, by decide, by decide⟩ hY hcs ks him F (fun w H a ns hl hb hT hO hS => ⟨a, ns, rfl, hS, hl, hb, ⟨fun p hp => LamX.TabS.nil (by obtain ⟨c, hc, e⟩ := List.mem_map.mp (hT0 p hp); rw [← e]; exact hT c hc), hO, ks w⟩, fun _ => rfl⟩) fun w H s e s2 z => by
    obtain ⟨_, _, _, _, _, _, _, _, _, _, _, _, z⟩ := z
    exact z
end M

set_option Elab.async false
set_option linter.all false
set_option maxRecDepth 100000
set_option maxHeartbeats 4000000
/-! k17: the plain law. -/
namespace M
open PySem
theorem mapS_inv {τ σ : Type} {f : D → σ → Mo (D × σ)} {h : τ → D} {N : Nat} (J : List τ → σ → Prop) : ∀ {xs : List D} {acc : List τ} {s : σ}, J acc s → (∀ x ∈ xs, ∀ acc s, acc.length < N → J acc s → ∃ v s', f x s = .ok (h v, s') ∧ J (acc ++ [v]) s') → acc.length + xs.length ≤ N → ∃ vs : List τ, ∃ s', mapS f xs s = .ok (vs.map h, s') ∧ J (acc ++ vs) s' ∧ vs.length = xs.length
  | [], acc, s, j, _, _ => ⟨[], s, rfl, by simpa using j, rfl⟩
  | x :: xs, acc, s, j, st, hN => by
    rw [List.length_cons] at hN
    obtain ⟨v, s1, e1, j1⟩ := st x (List.mem_cons_self ..) acc s (by omega) j
    obtain ⟨vs, s2, e2, j2, l2⟩ := mapS_inv J (xs := xs) j1 (fun y hy => st y (List.mem_cons_of_mem _ hy)) (by rw [List.length_append, List.length_singleton]; omega)
    exact ⟨v :: vs, s2, by rw [mapS, e1, ok_bind, e2]; rfl, by rw [List.append_assoc] at j2; exact j2, by rw [List.length_cons, l2, List.length_cons]⟩
theorem mapSL_ibind {τ σ γ : Type} {f : D → σ → Mo (D × σ)} {c : List D × σ → Mo γ} {xs : List D} {s : σ} (G : Mo γ → Prop) (h : τ → D) (J : List τ → σ → Prop) (hl : xs.length ≤ sizeLine) (j : J [] s)
    (st : ∀ x ∈ xs, ∀ acc s, acc.length < xs.length → J acc s → ∃ v s', f x s = .ok (h v, s') ∧ J (acc ++ [v]) s') (fin : ∀ (vs : List τ) s', vs.length = xs.length → J vs s' → G (c (vs.map h, s'))) : G (mapSL f xs s >>= c) := by
  obtain ⟨vs, s', e, j', l⟩ := mapS_inv (N := xs.length) J j st (by simp)
  unfold mapSL
  rw [if_pos hl, e]
  exact fin vs s' l j'
theorem shaped_liK (r : List Int) : SeqAt.shaped (.list (r.map PyData.int)) = true := by
  unfold SeqAt.shaped
  rw [PyData.canLay0, cl_ints]
  have : (PyData.list (r.map PyData.int)).depth ≤ 64 := by rw [PyData.depth, dp_ints]; decide
  rw [decide_eq_true this]; rfl
theorem shapedL_ints (l : List Int) : shapedL (l.map D.int) = some (l.map PyData.int) := by
  unfold shapedL
  rw [py_ints]
  show (if SeqAt.shaped (.list (l.map PyData.int)) = true then some (l.map PyData.int) else none) = _
  rw [shaped_liK]; rfl
theorem any_intsK (z : Int) : ∀ r : List Int, ((r.map PyData.int).any fun y => PyData.eqv y (.int z)) = decide (z ∈ r)
  | [] => rfl
  | a :: r => by
    rw [List.map_cons, List.any_cons, any_intsK z r]
    show (a == z || _) = _
    by_cases h : a = z
    · subst h; simp
    · have h' : ¬ z = a := fun q => h q.symm
      simp [h, h']
theorem p_notInT {z : Int} {l : List Int} : prm .notIn [.int z, .tup (l.map D.int)] = .ok (.bl (!decide (z ∈ l))) := prm_of (fl := false) (by
  have e : inD (.int z) (.tup (l.map D.int)) = some (decide (z ∈ l)) := by
    show (match shapedD (.int z), shapedL (l.map D.int) with | some p, some ps => some (ps.any fun y => PyData.eqv y p) | _, _ => none) = _
    rw [shapedL_ints]
    show some ((l.map PyData.int).any fun y => PyData.eqv y (.int z)) = _
    rw [any_intsK]
  show (inD (.int z) (.tup (l.map D.int))).map (fun c => (false, D.bl (!c))) = _
  rw [e]; rfl)
theorem firstAt_ints {x : Int} : ∀ {O : List Int} {k : Nat}, x ∈ O → firstAt (.int x) (O.map PyData.int) k = some (k + O.idxOf x)
  | a :: O, k, h => by
    rw [List.map_cons]
    unfold firstAt
    have ev : PyData.eqv (.int a) (.int x) = (a == x) := rfl
    rw [ev]
    by_cases e : a = x
    · subst e
      rw [if_pos (show (a == a) = true by simp)]; simp
    · have hm : x ∈ O := by rcases List.mem_cons.mp h with q | q; exact absurd q.symm e; exact q
      rw [if_neg (show ¬ (a == x) = true by simpa using e), firstAt_ints hm, List.idxOf_cons, show (a == x) = false by simpa using e]
      simp; omega
theorem p_index {x : Int} {O : List Int} (h : x ∈ O) : prm .index [.lst (O.map D.int), .int x] = .ok (.int ((O.idxOf x : Nat) : Int)) := prm_of (fl := false) (by
  have e : shapedD (.int x) = some (.int x) := rfl
  simp only [evP, shapedL_ints, e, firstAt_ints h, Nat.zero_add]
  rfl)
theorem p_mulG {d : D} {k : Nat} (h : k ≤ 1000) : prm .mul [.tup [d], .int (k : Nat)] = .ok (.tup (List.replicate k d)) := prm_of (fl := false) (by
  show (if (k : Int) ≤ 1000 ∧ [d].length ≤ 1000 ∧ [d] ≠ [] ∧ (0 : Int) ≤ k then some (false, D.tup (List.replicate (k : Int).toNat [d]).flatten) else none) = _
  rw [if_pos ⟨by omega, by simp, by simp, by omega⟩]
  congr 3
  rw [Int.toNat_natCast]
  induction k with
  | zero => rfl
  | succ k ih => rw [List.replicate_succ, List.flatten_cons, ih (by omega), List.replicate_succ]; rfl)
theorem cut_toK {xs : List D} {i : Nat} : cutL xs none (some (i : Int)) = xs.take i := by
  unfold cutL
  rw [HT.sIx_none, HT.sIx_nat, List.drop_zero, Nat.sub_zero, List.take_eq_take_iff]; omega
theorem p_toTK {xs : List D} {i : Nat} : prm (.slo false true) [.tup xs, .int (i : Nat)] = .ok (.tup (xs.take i)) := prm_of (fl := false) (by
  show some (false, D.tup (cutL xs none (some (i : Int)))) = _
  rw [cut_toK])
theorem p_toLK {xs : List D} {i : Nat} : prm (.slo false true) [.lst xs, .int (i : Nat)] = .ok (.lst (xs.take i)) := prm_of (fl := true) (by
  show some (true, D.lst (cutL xs none (some (i : Int)))) = _
  rw [cut_toK])
theorem on1_k {α : Type} {f : D → Mo α} {a : D} : on1 f [a] = f a := nr rfl
theorem popM_at {L : List Int} {i : Nat} (h : i < L.length) (hl : L.length ≤ 1000) : popM (.lst (L.map D.int)) (.int (i : Nat)) = .ok (.int L[i], .lst ((L.eraseIdx i).map D.int)) := by
  have h1 : popIx (L.map D.int).length ((i : Nat) : Int) = some i := by
    unfold popIx L2.ixN
    rw [if_pos (by rw [List.length_map]; omega), if_pos (by omega), List.length_map]
    simp [h]
  have h2 : (L.map D.int)[i]? = some (.int L[i]) := by rw [List.getElem?_map, List.getElem?_eq_getElem h]; rfl
  rw [popM_ok h1 h2]
  congr 3
  apply List.ext_getElem?
  intro j
  simp only [List.getElem?_eraseIdx, List.getElem?_map]
  split <;> rfl
theorem erase_perm : ∀ {L : List Int} {i : Nat} (h : i < L.length), (L[i] :: L.eraseIdx i).Perm L
  | a :: L, 0, _ => List.Perm.refl _
  | a :: L, i + 1, h => (List.Perm.swap a _ _).trans (List.Perm.cons a (erase_perm (by simpa using h)))
/-! ### products -/
section
variable {m : Nat} {A : Tb}
def zT (m : Nat) : Tb := List.replicate m (List.replicate m 0)
theorem sq_z : Sq m (zT m) := ⟨by simp [zT], fun r hr => by rw [List.eq_of_mem_replicate hr]; simp⟩
theorem ent_z {i j : Nat} (hi : i < m) (hj : j < m) : ent (zT m) i j = 0 := by
  unfold ent zT
  rw [List.getD_eq_getElem?_getD, List.getD_eq_getElem?_getD]
  simp [hi, hj]
theorem sg_zeroK {n : Nat} {f : Nat → Int} (h : ∀ k, k < n → f k = 0) : sg n f = 0 := by
  induction n with
  | zero => rfl
  | succ n ih => rw [sg, ih fun k hk => h k (by omega), h n (by omega)]; rfl
theorem mul_z (hA : Sq m A) : mulT m A (zT m) = zT m := by
  refine tb_ext (sq_mul hA) sq_z fun i j hi hj => ?_
  rw [ent_mul hA sq_z hi hj, ent_z hi hj, sg_zeroK fun k hk => by rw [ent_z hk hj, Int.mul_zero]]
theorem z_mul (hA : Sq m A) : mulT m (zT m) A = zT m := by
  refine tb_ext (sq_mul sq_z) sq_z fun i j hi hj => ?_
  rw [ent_mul sq_z hA hi hj, ent_z hi hj, sg_zeroK fun k hk => by rw [ent_z hi hk, Int.zero_mul]]
def tO (m : Nat) (A : Tb) (x : Int) : Tb := if x = 0 then A else if x = 1 then unitT m else zT m
theorem sq_tO (hA : Sq m A) {x : Int} : Sq m (tO m A x) := by
  unfold tO
  split
  · exact hA
  · split
    · exact sq_unit m
    · exact sq_z
theorem fold_z (hA : Sq m A) : ∀ w : List Int, w.foldl (fun acc x => mulT m acc (tO m A x)) (zT m) = zT m
  | [] => rfl
  | x :: w => by rw [List.foldl_cons, z_mul (sq_tO hA), fold_z hA w]
theorem fold_tO (hA : Sq m A) : ∀ (w : List Int) (acc : Tb), Sq m acc → (∀ x ∈ w, x = 0 ∨ x = 1 ∨ x = 2) → w.foldl (fun acc x => mulT m acc (tO m A x)) acc = if 2 ∈ w then zT m else (List.replicate (w.filter fun x => decide (x = 0)).length (0 : Int)).foldl (fun acc _ => mulT m acc A) acc
  | [], acc, h, _ => by simp
  | x :: w, acc, h, hx => by
    have hw := fun y hy => hx y (List.mem_cons_of_mem _ hy)
    rw [List.foldl_cons]
    rcases hx x (List.mem_cons_self ..) with rfl | rfl | rfl
    · rw [show tO m A 0 = A from rfl, fold_tO hA w _ (sq_mul h) hw, List.filter_cons_of_pos (by decide), List.length_cons, List.replicate_succ, List.foldl_cons]
      simp
    · rw [show tO m A 1 = unitT m from rfl, mul_unit h, fold_tO hA w _ h hw, List.filter_cons_of_neg (by decide)]
      simp
    · rw [show tO m A 2 = zT m from rfl, mul_z h, fold_z hA w, if_pos (List.mem_cons_self ..)]
theorem prod_idx {O w : List Int} {f : Int → Tb} (h : ∀ x ∈ w, x ∈ O) : prodT m (O.map f) (w.map fun x => ((O.idxOf x : Nat) : Int)) = w.foldl (fun acc x => mulT m acc (f x)) (unitT m) := by
  unfold prodT
  rw [List.foldl_map]
  have key : ∀ (w : List Int) (acc : Tb), (∀ x ∈ w, x ∈ O) → w.foldl (fun x y => mulT m x ((O.map f).getD (((O.idxOf y : Nat) : Int)).toNat [])) acc = w.foldl (fun acc x => mulT m acc (f x)) acc := by
    intro w
    induction w with
    | nil => intro acc _; rfl
    | cons x w ih =>
      intro acc hx
      rw [List.foldl_cons, List.foldl_cons]
      have hm := hx x (List.mem_cons_self ..)
      have hl := List.idxOf_lt_length_of_mem hm
      have e : (O.map f).getD (((O.idxOf x : Nat) : Int)).toNat [] = f x := by
        rw [Int.toNat_natCast, List.getD_eq_getElem?_getD, List.getElem?_map, List.getElem?_eq_getElem hl, List.getElem_idxOf hl]; rfl
      rw [e, ih _ fun y hy => hx y (List.mem_cons_of_mem _ hy)]
  exact key w _ h
theorem prod_one (n : Nat) : prodT m [A] (List.replicate n 0) = (List.replicate n (0 : Int)).foldl (fun acc _ => mulT m acc A) (unitT m) := by
  unfold prodT
  have key : ∀ (n : Nat) (acc : Tb), (List.replicate n (0 : Int)).foldl (fun acc i => mulT m acc ([A].getD i.toNat [])) acc = (List.replicate n (0 : Int)).foldl (fun acc _ => mulT m acc A) acc := by
    intro n
    induction n with
    | zero => intro acc; rfl
    | succ n ih => intro acc; rw [List.replicate_succ, List.foldl_cons, List.foldl_cons, ih]; rfl
  exact key n _
theorem tO_ok (h : TbOk m A) (x : Int) : TbOk m (tO m A x) := by
  unfold tO
  split
  · exact h
  · split
    · refine ⟨h.lo, h.hi, (sq_unit m).len, (sq_unit m).row, fun r hr x hx => ?_⟩
      have := bd_unit m r hr x hx
      omega
    · refine ⟨h.lo, h.hi, sq_z.len, sq_z.row, fun r hr x hx => ?_⟩
      rw [List.eq_of_mem_replicate hr] at hx
      rw [List.eq_of_mem_replicate hx]
      decide
theorem m_corner' (hm : m ≤ 10000) (hA : Sq m A) : m__law_corner (dT A) = .ok (.int (traceT A)) := by
  unfold m__law_corner
  simp only [ok_bind, len_dT, hA.len, o_rng (show m ≤ 1000000 by omega)]
  rw [mapL_ok (h := fun (i : Nat) => D.int i) (g := fun (i : Nat) => D.int (ent A i i)) (sz (by simp; omega)) (fun i hi => by
    have hi := List.mem_range.mp hi
    simp only [ok_bind, p_ent hA hi, p_ent2 hA hi hi])]
  simp only [ok_bind]
  have e : ((List.range m).map fun (i : Nat) => D.int (ent A i i)) = ((List.range m).map fun (i : Nat) => ent A i i).map D.int := by rw [List.map_map]; rfl
  rw [e, p_sum, tr_sg hA, ← sum_sg]
end
theorem m_anyL {k : Nat} {p : D} {l : List Int} (h : Pl k p) (hk : k ≤ 1000000) (h0 : l ≠ []) (hl : l.length ≤ 1000) : ∃ z ∈ l, ∃ p', m__law_any_of p (.lst (l.map D.int)) = .ok (.int z, p') ∧ Pl (k + 1) p' := by
  obtain ⟨d, hd, p', e, h'⟩ := m_any (l := l.map D.int) h hk (by simpa using h0) (by rw [List.length_map]; omega)
  obtain ⟨z, hz, rfl⟩ := List.mem_map.mp hd
  exact ⟨z, hz, p', e, h'⟩
theorem len_tupI {l : List Int} : prm .len [.tup (l.map D.int)] = .ok (.int (l.length : Nat)) := by rw [p_lenT, List.length_map]
/-- one turn: a lot of three, its words -/
theorem k17_words {m k : Nat} {A : Tb} {O : List Int} {p : D} (tA : TbOk m A) (hO : O.Perm [0, 1, 2]) (hk : k ≤ 900000) (h : Pl k p) :
    ∃ s', (mapSL (fun v88 v89 => (m__law_cast v89 (.int 2) >>= fun v108 => prm .add [.int 6, v108.1] >>= fun v112 => prm (.slo false true) [.lst [.int 0, .int 0, .int 0, .int 1, .int 1, .int 1, .int 2], v112] >>= fun v117 => m__law_any_of v108.2 v117)) ((List.range 16).map fun (i : Nat) => D.int i) p >>= fun v121 => prm .tuple [.lst v121.1] >>= fun v125 => m__law_cast v121.2 (.int 17) >>= fun v129 => prm (.slo false true) [v125, v129.1] >>= fun v133 =>
      itemsM v133 >>= fun v136 => mapL (fun v137 => prm .index [.lst (O.map D.int), v137]) v136 >>= fun v141 => prm .tuple [.lst v141] >>= fun v142 => itemsM v133 >>= fun v144 => filL (fun v145 => prm .eq [v145, .int 0] >>= fun v149 => tru v149 >>= fun v150 => if v150 then .ok (some v145) else .ok none) v144 >>= fun v152 => prm .len [.lst v152] >>= fun v153 =>
      prm .notIn [.int 2, v133] >>= fun v156 => tru v156 >>= fun v157 => (if v157 then prm .mul [.tup [.int 0], v153] >>= fun v163 => m_product (dO [A]) v163 else prm .idx [.lst [dT A, dT (unitT m), dT (zT m)], .int 2]) >>= fun v166 =>
      m_product (dO (O.map (tO m A))) v142 >>= fun v169 => prm .repr [v169] >>= fun v170 => prm .repr [v166] >>= fun v172 => prm .ne [v170, v172] >>= fun v173 => tru v173 >>= fun v174 => (if v174 then .ok true else m_trace (dO (O.map (tO m A))) v142 >>= fun v177 => m__law_corner v166 >>= fun v179 => prm .ne [v177, v179] >>= fun v180 => tru v180) >>= fun v181 => if v181 then Mo.ok (Fl.ret (D.bl false, v129.2)) else Mo.ok (Fl.nx v129.2)) = (Mo.ok (Fl.nx s') : Mo (Fl D (D × D))) ∧ Pl (k + 40) s' := by
  have hA := tb_sq tA
  have hi := tA.hi
  have oL : ∀ x, x ∈ O ↔ x = 0 ∨ x = 1 ∨ x = 2 := fun x => by rw [hO.mem_iff]; simp
  have lO : O.length = 3 := hO.length_eq
  refine mapSL_ibind (fun (r : Mo (Fl D (D × D))) => ∃ s', r = .ok (.nx s') ∧ Pl (k + 40) s') D.int (fun acc s => Pl (k + 2 * acc.length) s ∧ ∀ x ∈ acc, x = 0 ∨ x = 1 ∨ x = 2) (sz (by simp)) ⟨h.mono (by simp), by simp⟩ (fun x _ acc s hn js => ?_) (fun W s hl js => ?_)
  · simp at hn
    obtain ⟨c, p1, e1, hc, h1⟩ := m_cast (m := 2) js.1 (by omega) ⟨by decide, by decide⟩
    obtain ⟨c, rfl⟩ : ∃ c' : Nat, c = (c' : Int) := ⟨c.toNat, by omega⟩
    have ec : (6 : Int) + (c : Int) = ((6 + c : Nat) : Int) := by omega
    obtain ⟨z, hz, p2, e2, h2⟩ := m_anyL (l := ([0, 0, 0, 1, 1, 1, 2] : List Int).take (6 + c)) h1 (by omega) (by simp) (by simp; omega)
    have hz' := List.mem_of_mem_take hz
    refine ⟨z, p2, ?_, h2.mono (by simp; omega), fun y hy => ?_⟩
    · have e3 : (D.lst (([D.int 0, D.int 0, D.int 0, D.int 1, D.int 1, D.int 1, D.int 2] : List D).take (6 + c))) = .lst ((([0, 0, 0, 1, 1, 1, 2] : List Int).take (6 + c)).map D.int) := by rw [List.map_take]; rfl
      simp only [e1, ok_bind, p_add, ec, p_toLK, e3, e2]
    · rcases List.mem_append.mp hy with q | q
      · exact js.2 y q
      · rw [List.mem_singleton] at q; subst q; simpa using hz'
  · have lW : W.length = 16 := by simpa using hl
    obtain ⟨c, p1, e1, hc, h1⟩ := m_cast (m := 17) js.1 (by omega) ⟨by decide, by decide⟩
    obtain ⟨c, rfl⟩ : ∃ c' : Nat, c = (c' : Int) := ⟨c.toNat, by omega⟩
    have hw : ∀ x ∈ W.take c, x = 0 ∨ x = 1 ∨ x = 2 := fun x hx => js.2 x (List.mem_of_mem_take hx)
    have lw : (W.take c).length ≤ 16 := by rw [List.length_take]; omega
    have et : (D.tup ((W.map D.int).take c)) = .tup ((W.take c).map D.int) := by rw [List.map_take]
    generalize W.take c = w at *
    have mi : mapL (fun v137 => prm .index [.lst (O.map D.int), v137]) (w.map D.int) = .ok ((w.map fun x => ((O.idxOf x : Nat) : Int)).map D.int) := by
      rw [mapL_ok (h := D.int) (g := fun x => D.int ((O.idxOf x : Nat) : Int)) (sz (by omega)) (fun x hx => p_index ((oL x).mpr (hw x hx))), List.map_map]; rfl
    have fi : filL (fun v145 => prm .eq [v145, .int 0] >>= fun v149 => tru v149 >>= fun v150 => if v150 then .ok (some v145) else .ok none) (w.map D.int) = .ok ((w.filter fun x => decide (x = 0)).map D.int) := by
      unfold filL
      rw [if_pos (by rw [List.length_map]; exact sz (by omega))]
      have key : ∀ w : List Int, filA (fun v145 => prm .eq [v145, .int 0] >>= fun v149 => tru v149 >>= fun v150 => if v150 then .ok (some v145) else .ok none) (w.map D.int) = .ok ((w.filter fun x => decide (x = 0)).map D.int) := by
        intro w
        induction w with
        | nil => rfl
        | cons x w ih =>
          rw [List.map_cons, filA, ih]
          simp only [p_eq, ok_bind, tru_bl]
          by_cases q : x = 0
          · rw [if_pos (by simpa using q), List.filter_cons_of_pos (by simpa using q)]; rfl
          · rw [if_neg (by simpa using q), List.filter_cons_of_neg (by simpa using q)]; rfl
      rw [key]; rfl
    have lotO : LotOk m (O.map (tO m A)) := ⟨fun z => by have := congrArg List.length z; rw [List.length_map, List.length_nil] at this; omega, by rw [List.length_map]; omega, fun B hB => by
      obtain ⟨x, _, rfl⟩ := List.mem_map.mp hB
      exact tO_ok tA x⟩
    have lotA : LotOk m [A] := ⟨by simp, by simp, fun B hB => by rw [List.mem_singleton] at hB; subst hB; exact tA⟩
    have w1 : WordOk (O.map (tO m A)) (w.map fun x => ((O.idxOf x : Nat) : Int)) := ⟨by rw [List.length_map]; omega, fun x hx => by
      obtain ⟨y, hy, rfl⟩ := List.mem_map.mp hx
      have := List.idxOf_lt_length_of_mem ((oL y).mpr (hw y hy))
      rw [List.length_map]; omega⟩
    have nl : (w.filter fun x => decide (x = 0)).length ≤ 16 := Nat.le_trans (List.length_filter_le _ _) lw
    have w2 : WordOk [A] (List.replicate (w.filter fun x => decide (x = 0)).length 0) := ⟨by simp; omega, fun x hx => by rw [List.eq_of_mem_replicate hx]; simp⟩
    have pr1 := m_prod lotO w1
    have tr1 := m_tr lotO (show m ≤ 100000 by omega) w1
    have pr2 := m_prod lotA w2
    have eq1 := prod_idx (m := m) (f := tO m A) (O := O) (w := w) fun x hx => (oL x).mpr (hw x hx)
    rw [fold_tO hA w _ (sq_unit m) hw, ← prod_one] at eq1
    have rr : Rp 2 10100 (dT (prodT m (O.map (tO m A)) (w.map fun x => ((O.idxOf x : Nat) : Int)))) := by
      have s1 : Sq m (prodT m (O.map (tO m A)) (w.map fun x => ((O.idxOf x : Nat) : Int))) := sq_prod _
      refine rp_dT (by rw [s1.len]; omega) (fun r hr => by rw [s1.row r hr]; omega) fun r hr x hx => ?_
      have := bd_prod lotO _ w1.ix r hr x hx
      refine Nat.lt_of_lt_of_le this (Nat.pow_le_pow_right (by decide) ?_)
      rw [List.length_map]; omega
    have due : (if (!decide (2 ∈ w)) = true then m_product (dO [A]) (dR (List.replicate (w.filter fun x => decide (x = 0)).length 0)) else prm .idx [.lst [dT A, dT (unitT m), dT (zT m)], .int 2]) = .ok (dT (prodT m (O.map (tO m A)) (w.map fun x => ((O.idxOf x : Nat) : Int)))) := by
      rw [eq1]
      by_cases q : 2 ∈ w
      · rw [if_neg (by simpa using q), if_pos q, p_idx2L]
      · rw [if_pos (by simpa using q), if_neg q, pr2]
    have mz : prm .mul [.tup [.int 0], .int ((w.filter fun x => decide (x = 0)).length : Nat)] = .ok (dR (List.replicate (w.filter fun x => decide (x = 0)).length 0)) := by
      rw [p_mulG (by omega)]
      unfold dR
      rw [List.map_replicate]
    have et2 : itemsM (.tup (w.map D.int)) = .ok (w.map D.int) := itemsM_tup
    have pr1' : m_product (dO (O.map (tO m A))) (.tup ((w.map fun x => ((O.idxOf x : Nat) : Int)).map D.int)) = _ := pr1
    have tr1' : m_trace (dO (O.map (tO m A))) (.tup ((w.map fun x => ((O.idxOf x : Nat) : Int)).map D.int)) = _ := tr1
    have ct := m_corner' (m := m) (show m ≤ 10000 by omega) (sq_prod (m := m) (ts := O.map (tO m A)) (w.map fun x => ((O.idxOf x : Nat) : Int)))
    simp only [p_tupleL, ok_bind, e1, p_toTK, et, et2, mi, fi, p_lenL, List.length_map, p_notInT, tru_bl, mz, due, pr1', p_reprB rr (by decide) (by decide), p_reprNe rr, tr1', ct, p_ne, Bool.false_eq_true, if_false, decide_true, Bool.not_true]
    exact ⟨p1, by simp, h1.mono (by omega)⟩
theorem m_right {p : D} (h : Pl 0 p) : ∃ p', m__law_right p = .ok (.bl true, p') := by
  have l3 : lstM [D.int 0, D.int 1, D.int 2] = .ok (.lst (([0, 1, 2] : List Int).map D.int)) := lst_ok (sz (by simp))
  have l7 : lstM [D.int 0, D.int 0, D.int 0, D.int 1, D.int 1, D.int 1, D.int 2] = .ok (.lst [D.int 0, D.int 0, D.int 0, D.int 1, D.int 1, D.int 1, D.int 2]) := lst_ok (sz (by simp))
  have o5 : optM (rng1F [.int 5]) = .ok ((List.range 5).map fun (i : Nat) => D.int i) := o_rng (m := 5) (by decide)
  have o3 : optM (rng1F [.int 3]) = .ok ((List.range 3).map fun (i : Nat) => D.int i) := o_rng (m := 3) (by decide)
  have o16 : optM (rng1F [.int 16]) = .ok ((List.range 16).map fun (i : Nat) => D.int i) := o_rng (m := 16) (by decide)
  unfold m__law_right
  simp only [ok_bind, o5, bind_bind]
  refine foldB_bind (h := fun (i : Nat) => D.int i) (fun (r : Mo (D × D)) => ∃ p' : D, r = .ok (D.bl true, p')) (fun n s => Pl (300 * n) s) h (fun x hx n p hn hp => ?_) (fun s hs => ?_)
  · simp at hn
    obtain ⟨c, p1, e1, hc, h1⟩ := m_cast (m := 4) hp (by omega) ⟨by decide, by decide⟩
    obtain ⟨m, hm⟩ : ∃ m : Nat, (1 : Int) + c = (m : Int) := ⟨(1 + c).toNat, by omega⟩
    have hm1 : 1 ≤ m ∧ m ≤ 4 := by omega
    have or : optM (rng1F [.int (m : Nat)]) = .ok ((List.range m).map fun (i : Nat) => D.int i) := o_rng (by omega)
    simp only [e1, ok_bind, pV_add, hm, l3, or, bind_bind]
    refine mapSL_ibind (fun (r : Mo (Fl D (D × D))) => ∃ s', r = .ok (.nx s') ∧ Pl (300 * (n + 1)) s') dR (fun (acc : List (List Int)) s => Pl (300 * n + 1 + 8 * acc.length) s ∧ ∀ r ∈ acc, r.length = m ∧ ∀ x ∈ r, -1000000 ≤ x ∧ x ≤ 1000000) (sz (by simp; omega)) ⟨h1.mono (by simp), by simp⟩ (fun x _ acc s hn js => ?_) (fun A s hl js => ?_)
    · simp at hn
      refine mapSL_ibind (fun (r : Mo (D × D)) => ∃ v s', r = .ok (dR v, s') ∧ Pl (300 * n + 1 + 8 * (acc ++ [v]).length) s' ∧ ∀ r ∈ acc ++ [v], r.length = m ∧ ∀ x ∈ r, -1000000 ≤ x ∧ x ≤ 1000000) D.int (fun (a : List Int) s => Pl (300 * n + 1 + 8 * acc.length + 2 * a.length) s ∧ ∀ x ∈ a, -1000000 ≤ x ∧ x ≤ 1000000) (sz (by simp; omega)) ⟨js.1.mono (by simp), by simp⟩ (fun x _ a s hn2 j2 => ?_) (fun v s hl j2 => ?_)
      · simp at hn2
        obtain ⟨z, p2, e2, hz, h2⟩ := m_number j2.1 (by omega)
        refine ⟨z, p2, by simp only [e2], h2.mono (by simp; omega), fun y hy => ?_⟩
        rcases List.mem_append.mp hy with q | q
        · exact j2.2 y q
        · rw [List.mem_singleton] at q; subst q; exact hz
      · have lv : v.length = m := by simpa using hl
        refine ⟨v, s, by simp only [ok_bind, p_tupleL]; rfl, j2.1.mono (by simp; omega), fun r hr => ?_⟩
        rcases List.mem_append.mp hr with q | q
        · exact js.2 r q
        · rw [List.mem_singleton] at q; subst q; exact ⟨lv, j2.2⟩
    · have lA : A.length = m := by simpa using hl
      have tA : TbOk m A := ⟨hm1.1, hm1.2, lA, fun r hr => (js.2 r hr).1, fun r hr => (js.2 r hr).2⟩
      have hs1 := js.1
      have m1 := m_one (m := m) (by omega)
      have tA' : D.tup (A.map dR) = dT A := rfl
      have zz : D.tup (List.replicate m (D.tup (List.replicate m (D.int 0)))) = dT (zT m) := by
        unfold dT zT dR
        rw [List.map_replicate, List.map_replicate]
      have mk : 300 * n + 1 + 8 * A.length ≤ 300 * n + 33 := by omega
      have hs2 := hs1.mono mk
      simp only [ok_bind, p_tupleL, tA', m1, tup1, p_mulG (show m ≤ 1000 by omega), zz, lst3, o3, bind_bind]
      refine mapSL_ibind (σ := D × D) (fun (r : Mo (Fl D (D × D))) => ∃ s', r = .ok (.nx s') ∧ Pl (300 * (n + 1)) s') D.int (fun (acc : List Int) s => Pl (300 * n + 33 + acc.length) s.1 ∧ ∃ L : List Int, s.2 = .lst (L.map D.int) ∧ (acc ++ L).Perm [0, 1, 2]) (sz (by simp)) ⟨hs2.mono (by simp), [0, 1, 2], rfl, List.Perm.refl _⟩ (fun x _ acc s hn3 j3 => ?_) (fun O s hl3 j3 => ?_)
      · simp at hn3
        obtain ⟨q1, L, q2, q3⟩ := j3
        obtain ⟨s1, s2⟩ := s
        cases q2
        have ll := q3.length_eq
        rw [List.length_append] at ll
        simp at ll
        obtain ⟨i, p3, e3, hi, h3⟩ := m_cast (m := (L.length : Nat)) q1 (by omega) ⟨by omega, by omega⟩
        obtain ⟨i, rfl⟩ : ∃ i' : Nat, i = (i' : Int) := ⟨i.toNat, by omega⟩
        have hil : i < L.length := by omega
        refine ⟨L[i], (p3, .lst ((L.eraseIdx i).map D.int)), ?_, h3.mono (by simp; omega), L.eraseIdx i, rfl, ?_⟩
        · simp only [ok_bind, p_lenL, List.length_map, e3, popM_at hil (show L.length ≤ 1000 by omega)]
        · rw [List.append_assoc]
          exact ((erase_perm hil).append_left acc).trans q3
      · have lO : O.length = 3 := by simpa using hl3
        obtain ⟨q1, L, q2, q3⟩ := j3
        have ll := q3.length_eq
        rw [List.length_append] at ll
        simp at ll
        have L0 : L = [] := List.eq_nil_of_length_eq_zero (by omega)
        subst L0
        rw [List.append_nil] at q3
        rw [lO] at q1
        obtain ⟨s1, s2⟩ := s
        have oL : ∀ x, x ∈ O → x = 0 ∨ x = 1 ∨ x = 2 := fun x hx => by have := q3.mem_iff.mp hx; simpa using this
        have mt : mapL (fun v71 => prm .idx [.lst [dT A, dT (unitT m), dT (zT m)], v71]) (O.map D.int) = .ok ((O.map (tO m A)).map dT) := by
          rw [mapL_ok (h := D.int) (g := fun x => dT (tO m A x)) (sz (by omega)) (fun x hx => by
            rcases oL x hx with rfl | rfl | rfl
            · exact p_idx0L
            · exact p_idx1L
            · exact p_idx2L), List.map_map]; rfl
        have lotO : LotOk m (O.map (tO m A)) := ⟨fun z => by have := congrArg List.length z; rw [List.length_map, List.length_nil] at this; omega, by rw [List.length_map]; omega, fun B hB => by
          obtain ⟨x, _, rfl⟩ := List.mem_map.mp hB
          exact tO_ok tA x⟩
        have lotA : LotOk m [A] := ⟨by simp, by simp, fun B hB => by rw [List.mem_singleton] at hB; subst hB; exact tA⟩
        obtain ⟨p4, e4, h4⟩ := m_built lotO q1 (by omega)
        have e4' : m__law_built s1 (.tup ((O.map (tO m A)).map dT)) = .ok (dO (O.map (tO m A)), p4) := e4
        have li : m_Lot_init (.tup [dT A]) = .ok [.tup [dT A]] := m_Lot lotA
        have dA : D.ins 0 [.tup [dT A]] = dO [A] := rfl
        simp only [ok_bind, itemsM_lst, mt, p_tupleL, e4', li, dA, bind_bind]
        refine foldB_bind (h := fun (i : Nat) => D.int i) (fun (r : Mo (Fl D (D × D))) => ∃ s', r = .ok (.nx s') ∧ Pl (300 * (n + 1)) s') (fun n2 s => Pl (300 * n + 40 + 40 * n2) s) (h4.mono (by omega)) (fun x hx n2 s hn4 hs4 => ?_) (fun s hs4 => ?_)
        · simp at hn4
          obtain ⟨s', e5, h5⟩ := k17_words (k := 300 * n + 40 + 40 * n2) (O := O) tA q3 (by omega) hs4
          refine ⟨s', ?_, h5.mono (by omega)⟩
          simp only [l7, o16, ok_bind, on1_k, bind_bind]
          exact e5
        · exact ⟨s, rfl, hs4.mono (by simp; omega)⟩
  · have hs : Pl 1500 s := hs.mono (by simp)
    obtain ⟨a, p1, e1, ha, h1⟩ := m_number hs (by decide)
    obtain ⟨b, p2, e2, hb, h2⟩ := m_number h1 (by decide)
    simp only [Fl.on, ok_bind, e1, e2]
    have lotS : LotOk 1 [[[a]], [[b]]] := ⟨by simp, by simp, fun B hB => by
      simp only [List.mem_cons, List.not_mem_nil, or_false] at hB
      rcases hB with rfl | rfl
      · exact ⟨by decide, by decide, rfl, by simp, by simpa using ha⟩
      · exact ⟨by decide, by decide, rfl, by simp, by simpa using hb⟩⟩
    have li : m_Lot_init (.tup [.tup [.tup [.int a]], .tup [.tup [.int b]]]) = .ok [.tup [.tup [.tup [.int a]], .tup [.tup [.int b]]]] := m_Lot lotS
    have dS : D.ins 0 [.tup [.tup [.tup [.int a]], .tup [.tup [.int b]]]] = dO [[[a]], [[b]]] := rfl
    have t5 : ∀ a b c d e : D, tupM [a, b, c, d, e] = .ok (.tup [a, b, c, d, e]) := fun a b c d e => tup_ok (sz (by simp))
    have pr : m_product (dO [[[a]], [[b]]]) (.tup [.int 0, .int 1, .int 1, .int 0, .int 1]) = .ok (dT (prodT 1 [[[a]], [[b]]] [0, 1, 1, 0, 1])) := m_prod (w := [0, 1, 1, 0, 1]) lotS ⟨by simp, by simp⟩
    have tr : m_trace (dO [[[a]], [[b]]]) (.tup [.int 1]) = .ok (.int (traceT (prodT 1 [[[a]], [[b]]] [1]))) := m_tr (w := [1]) lotS (by decide) ⟨by simp, by simp⟩
    have ep : prodT 1 [[[a]], [[b]]] [0, 1, 1, 0, 1] = [[a * a * b * b * b]] := by
      have e : prodT 1 [[[a]], [[b]]] [0, 1, 1, 0, 1] = [[a * b * b * a * b]] := by simp [prodT, unitT, mulT, colsT, dot, List.range_succ]
      rw [e]
      have : a * b * b * a * b = a * a * b * b * b := by ac_rfl
      rw [this]
    have et : traceT (prodT 1 [[[a]], [[b]]] [1]) = b := by simp [prodT, unitT, mulT, colsT, dot, List.range_succ, traceT, diag]
    have bnd : ∀ z : Int, -1000000 ≤ z ∧ z ≤ 1000000 → z.natAbs < 2 ^ 20 := fun z h => by
      have e : (2 : Nat) ^ 20 = 1048576 := by decide
      omega
    have mm : ∀ {x y : Int} {p q : Nat}, x.natAbs < 2 ^ p → y.natAbs < 2 ^ q → (x * y).natAbs < 2 ^ (p + q) := fun h1 h2 => by
      rw [Int.natAbs_mul, Nat.pow_add]
      exact Nat.mul_lt_mul'' h1 h2
    have b1 := mm (bnd a ha) (bnd a ha)
    have b2 := mm b1 (bnd b hb)
    have b3 := mm b2 (bnd b hb)
    have c1 : prm .mul [.int a, .int a] = .ok (.int (a * a)) := p_mul (by decide) (bnd a ha) (bnd a ha)
    have c2 : prm .mul [.int (a * a), .int b] = .ok (.int (a * a * b)) := p_mul (by decide) b1 (bnd b hb)
    have c3 : prm .mul [.int (a * a * b), .int b] = .ok (.int (a * a * b * b)) := p_mul (by decide) b2 (bnd b hb)
    have c4 : prm .mul [.int (a * a * b * b), .int b] = .ok (.int (a * a * b * b * b)) := p_mul (by decide) b3 (bnd b hb)
    have e9 : prmV .eq [dT [[a * a * b * b * b]], .tup [.tup [.int (a * a * b * b * b)]]] = .ok (.bl true) := by
      rw [show D.tup [.tup [.int (a * a * b * b * b)]] = dT [[a * a * b * b * b]] from rfl, pV_eqT]; simp
    simp only [tup1, tup2, ok_bind, li, dS, t5, pr, ep, c1, c2, c3, c4, e9, isB_bl, if_true, tr, et, pV_eq, decide_true]
    exact ⟨_, rfl⟩
theorem plain : ∀ ns : List Int, ns.length ≤ 63 → (∀ z ∈ ns, Builtin.Int.intBits z ≤ 1048576) → m_law (.lst (ns.map D.int)) = .ok (.bl true) := fun ns hn hb => by
  unfold m_law
  simp only [ok_bind, p_lenL, List.length_map, p_min2, p_max2]
  refine (cases_ok (c := 5) (by decide) hn fun k hk => ?_)
  obtain ⟨p, e1, h1⟩ := m_begun (k := k) hn hb hk
  obtain ⟨p', e2⟩ := m_right h1
  simp only [ok_bind, e1, e2]
end M

open PySem PySem.W PyProof.Rows
set_option maxRecDepth 100000 in
set_option maxHeartbeats 0 in
theorem PySem.Challenge.cw_alltriangular_k17_whole_units_and_zeros_holds : PySem.Challenge.rw_alltriangular_k17_whole_units_and_zeros.Holds := by
  w_on; o_law; k_head; (case hw => w_witness2)
  k_fill
  refine M.walk (cs0 := []) (T0 := []) M.plain rfl rfl (fun _ z => nomatch z) (fun w h Y => PySem.W.kIn_of Y) (fun w h Y => ⟨fun _ z => (nomatch z), fun _ z => (nomatch z), fun _ z => (nomatch z)⟩) (fun w => by kernel_rfl) (by kernel_rfl) ?F
  case F =>
    intro w mg fa h KX G hmg
    refine' M.all_mk M.plain KX G hmg ?aC_Lot ?a_is_integer ?l_is_integer ?c_is_integer ?k_is_integer ?a_are_integers ?l_are_integers ?c_are_integers ?k_are_integers ?a_is_table ?l_is_table ?c_is_table ?k_is_table ?a_wrong_table ?l_wrong_table ?c_wrong_table ?k_wrong_table ?a_Lot_init ?l_Lot_init ?c_Lot_init ?k_Lot_init ?a__law_cast ?l__law_cast ?c__law_cast ?k__law_cast ?a__law_any_of ?l__law_any_of ?c__law_any_of ?k__law_any_of ?a__law_number ?l__law_number ?c__law_number ?k__law_number ?a__law_one ?l__law_one ?c__law_one ?k__law_one ?a_written_integer ?l_written_integer ?c_written_integer ?k_written_integer ?a_text_row ?l_text_row ?c_text_row ?k_text_row ?a_text_lot ?l_text_lot ?c_text_lot ?k_text_lot ?rd_Lot_read ?ga_Lot_read ?a_Lot_read ?r_Lot_read ?fi_Lot_read ?l_Lot_read ?c_Lot_read ?k_Lot_read ?a__law_lines ?l__law_lines ?c__law_lines ?k__law_lines ?a__law_sheet ?l__law_sheet ?c__law_sheet ?k__law_sheet ?a__law_built ?l__law_built ?c__law_built ?k__law_built ?a_check_lot ?l_check_lot ?c_check_lot ?k_check_lot ?a_wrong_letter ?l_wrong_letter ?c_wrong_letter ?k_wrong_letter ?a_check_word ?l_check_word ?c_check_word ?k_check_word ?a_unit ?l_unit ?c_unit ?k_unit ?a_times ?l_times ?c_times ?k_times ?a_product_of ?l_product_of ?c_product_of ?k_product_of ?a_Lot_tables ?e_Lot_tables ?t_Lot_tables ?r_Lot_tables ?l_Lot_tables ?c_Lot_tables ?k_Lot_tables ?a_product ?l_product ?c_product ?k_product ?a_trace_of ?l_trace_of ?c_trace_of ?k_trace_of ?a_trace ?l_trace ?c_trace ?k_trace ?a__law_corner ?l__law_corner ?c__law_corner ?k__law_corner ?a__law_right ?l__law_right ?c__law_right ?k__law_right ?a__law_begun ?l__law_begun ?c__law_begun ?k__law_begun ?a_law ?l_law ?c_law ?k_law ?if_Lot ?mk_Lot ?kc_Lot ?pg_Lot ?ic_Lot ?po_Lot ?sa_Lot ?ca_Lot ?cm_Lot ?sf_Lot_own_tables ?sg_Lot_own_tables ?st_Lot_own_tables ?sy_Lot_own_tables ?sx_Lot_own_tables ?kt_Lot_int ?kt_Lot_str ?kt_Lot_tuple ?kt_Lot_list ?kt_Lot_bool ?kb_Lot_int ?kb_Lot_str ?kb_Lot_tuple ?kb_Lot_list ?kb_Lot_bool ?kb_Lot_NoneType ?kb_Lot_dict ?kc_Lot_Lot ?cn ?ct ?n_abs ?n_all ?n_bool ?n_divmod ?n_enumerate ?n_int ?n_isinstance ?n_len ?n_list ?n_max ?n_min ?n_range ?n_repr ?n_str ?n_sum ?n_tuple ?n_zip ?x_DIGITS ?x_MOST_LETTERS ?x_MOST_NUMBER ?x_MOST_SIZE ?x_MOST_TABLES
    (case aC_Lot => k_is)
    (case a_is_integer => k_is)
    (case l_is_integer => k_is)
    (case c_is_integer => k_is)
    (case k_is_integer => k_is)
    (case a_are_integers => k_is)
    (case l_are_integers => k_is)
    (case c_are_integers => k_is)
    (case k_are_integers => k_is)
    (case a_is_table => k_is)
    (case l_is_table => k_is)
    (case c_is_table => k_is)
    (case k_is_table => k_is)
    (case a_wrong_table => k_is)
    (case l_wrong_table => k_is)
    (case c_wrong_table => k_is)
    (case k_wrong_table => k_is)
    (case a_Lot_init => k_is)
    (case l_Lot_init => k_is)
    (case c_Lot_init => k_is)
    (case k_Lot_init => k_is)
    (case a__law_cast => k_is)
    (case l__law_cast => k_is)
    (case c__law_cast => k_is)
    (case k__law_cast => k_is)
    (case a__law_any_of => k_is)
    (case l__law_any_of => k_is)
    (case c__law_any_of => k_is)
    (case k__law_any_of => k_is)
    (case a__law_number => k_is)
    (case l__law_number => k_is)
    (case c__law_number => k_is)
    (case k__law_number => k_is)
    (case a__law_one => k_is)
    (case l__law_one => k_is)
    (case c__law_one => k_is)
    (case k__law_one => k_is)
    (case a_written_integer => k_is)
    (case l_written_integer => k_is)
    (case c_written_integer => k_is)
    (case k_written_integer => k_is)
    (case a_text_row => k_is)
    (case l_text_row => k_is)
    (case c_text_row => k_is)
    (case k_text_row => k_is)
    (case a_text_lot => k_is)
    (case l_text_lot => k_is)
    (case c_text_lot => k_is)
    (case k_text_lot => k_is)
    (case rd_Lot_read => k_is)
    (case ga_Lot_read => k_is)
    (case a_Lot_read => k_is)
    (case r_Lot_read => k_is)
    (case fi_Lot_read => k_is)
    (case l_Lot_read => k_is)
    (case c_Lot_read => k_is)
    (case k_Lot_read => k_is)
    (case a__law_lines => k_is)
    (case l__law_lines => k_is)
    (case c__law_lines => k_is)
    (case k__law_lines => k_is)
    (case a__law_sheet => k_is)
    (case l__law_sheet => k_is)
    (case c__law_sheet => k_is)
    (case k__law_sheet => k_is)
    (case a__law_built => k_is)
    (case l__law_built => k_is)
    (case c__law_built => k_is)
    (case k__law_built => k_is)
    (case a_check_lot => k_is)
    (case l_check_lot => k_is)
    (case c_check_lot => k_is)
    (case k_check_lot => k_is)
    (case a_wrong_letter => k_is)
    (case l_wrong_letter => k_is)
    (case c_wrong_letter => k_is)
    (case k_wrong_letter => k_is)
    (case a_check_word => k_is)
    (case l_check_word => k_is)
    (case c_check_word => k_is)
    (case k_check_word => k_is)
    (case a_unit => k_is)
    (case l_unit => k_is)
    (case c_unit => k_is)
    (case k_unit => k_is)
    (case a_times => k_is)
    (case l_times => k_is)
    (case c_times => k_is)
    (case k_times => k_is)
    (case a_product_of => k_is)
    (case l_product_of => k_is)
    (case c_product_of => k_is)
    (case k_product_of => k_is)
    (case a_Lot_tables => k_is)
    (case e_Lot_tables => k_is)
    (case t_Lot_tables => k_is)
    (case r_Lot_tables => k_is)
    (case l_Lot_tables => k_is)
    (case c_Lot_tables => k_is)
    (case k_Lot_tables => k_is)
    (case a_product => k_is)
    (case l_product => k_is)
    (case c_product => k_is)
    (case k_product => k_is)
    (case a_trace_of => k_is)
    (case l_trace_of => k_is)
    (case c_trace_of => k_is)
    (case k_trace_of => k_is)
    (case a_trace => k_is)
    (case l_trace => k_is)
    (case c_trace => k_is)
    (case k_trace => k_is)
    (case a__law_corner => k_is)
    (case l__law_corner => k_is)
    (case c__law_corner => k_is)
    (case k__law_corner => k_is)
    (case a__law_right => k_is)
    (case l__law_right => k_is)
    (case c__law_right => k_is)
    (case k__law_right => k_is)
    (case a__law_begun => k_is)
    (case l__law_begun => k_is)
    (case c__law_begun => k_is)
    (case k__law_begun => k_is)
    (case a_law => k_is)
    (case l_law => k_is)
    (case c_law => k_is)
    (case k_law => k_is)
    (case if_Lot => k_is)
    (case mk_Lot => k_is)
    (case kc_Lot => k_is)
    (case pg_Lot => k_is)
    (case ic_Lot => k_is)
    (case po_Lot => k_is)
    (case sa_Lot => k_is)
    (case ca_Lot => k_is)
    (case cm_Lot => k_is)
    (case sf_Lot_own_tables => k_is)
    (case sg_Lot_own_tables => k_is)
    (case st_Lot_own_tables => k_is)
    (case sy_Lot_own_tables => k_is)
    (case sx_Lot_own_tables => k_is)
    (case kt_Lot_int => kit_is)
    (case kt_Lot_str => kit_is)
    (case kt_Lot_tuple => kit_is)
    (case kt_Lot_list => kit_is)
    (case kt_Lot_bool => kit_is)
    (case kb_Lot_int => kit_is)
    (case kb_Lot_str => kit_is)
    (case kb_Lot_tuple => kit_is)
    (case kb_Lot_list => kit_is)
    (case kb_Lot_bool => kit_is)
    (case kb_Lot_NoneType => kit_is)
    (case kb_Lot_dict => kit_is)
    (case kc_Lot_Lot => kit_is)
    (case cn => k_is)
    (case ct => k_is)
    (case n_abs => k_is)
    (case n_all => k_is)
    (case n_bool => k_is)
    (case n_divmod => k_is)
    (case n_enumerate => k_is)
    (case n_int => k_is)
    (case n_isinstance => k_is)
    (case n_len => k_is)
    (case n_list => k_is)
    (case n_max => k_is)
    (case n_min => k_is)
    (case n_range => k_is)
    (case n_repr => k_is)
    (case n_str => k_is)
    (case n_sum => k_is)
    (case n_tuple => k_is)
    (case n_zip => k_is)
    (case x_DIGITS => k_is)
    (case x_MOST_LETTERS => k_is)
    (case x_MOST_NUMBER => k_is)
    (case x_MOST_SIZE => k_is)
    (case x_MOST_TABLES => k_is)
