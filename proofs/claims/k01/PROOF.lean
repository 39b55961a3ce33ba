import PyProof.Rows.All
import Wide.All
import OpenK.AllK
import Wide.FinOn
import HandS.ForMost
import HandS.IsInst
import HandS.TupAny
import HandS.TupMul
import HandS.Walk
import HandS.Zip
import HandS.Flow
import HandS.Wide
import HandS.Exc
import HandS.Slots
import HandS.SlotsOwn
import HandS.WordsExc
import HandS.Star
import HandS.Text
import HandS.RaiseMore
import HandS.FStr
import HandS.Style
import HandS.MakeKwOnly
import HandS.ClsMeth
import HandS.OwnEq
import HandS.Lambda
import HandS.EndTab
import HandS.HotCalls
import HandS.ExcInit
import KE.GoesEnum
import HandS.SortKw
import KE.KDictZip
import HandS.EndBits
import HandS.SetFor
import HandS.Strs
import HandS.SortInts
import PyProof.Rows.SetFrom
import KE.KExcIs
import HandS.ExcIs
import KE.KExcInit
import KE.KTryMore
import HandS.ExcValue
import PyProof.StrOps2
import HandS.Codes
import PySem.Challenge.RW_alltriangular_k01_limits_and_errors
set_option Elab.async false
set_option linter.all false
set_option maxRecDepth 100000
/-! A0: data, syntax, evaluator. -/
namespace M
open PySem

/-- data: lists by value -/
inductive D where
  | non | bl (b : Bool) | int (i : Int) | str (s : Str)
  | tup (xs : List D) | lst (xs : List D)
  | ins (c : Nat) (fs : List D)
  | cls (c : Nat)
  | exn (c : Nat) (fs : List D)
  | dct (kvs : List (Str × Int))
  | dik (kvs : List (Int × Str))
  deriving Inhabited

mutual
def D.py : D → Option PyData
  | .non => some .none
  | .bl b => some (.bool b)
  | .int i => some (.int i)
  | .str s => some (.str s)
  | .tup xs => match D.pys xs with | some ys => some (.tuple ys) | none => none
  | .lst xs => match D.pys xs with | some ys => some (.list ys) | none => none
  | .ins _ _ => none
  | .cls _ => none
  | .exn _ _ => none
  | .dct kvs => some (.dict (kvs.map fun p => (.str p.1, .int p.2)))
  | .dik _ => none
def D.pys : List D → Option (List PyData)
  | [] => some []
  | x :: xs => match D.py x, D.pys xs with | some y, some ys => some (y :: ys) | _, _ => none
end

/-- a slot of a frame: unset; shared (never written); owned (the one way to this list). bor: the caller's -/
inductive Slot where
  | no | sh (bor : Bool) (d : D) | ow (bor : Bool) (d : D) | pin
  deriving Inhabited
abbrev Fm := List Slot
def Slot.isBor : Slot → Bool
  | .no => false | .sh b _ => b | .ow b _ => b | .pin => true
def Slot.isOw : Slot → Bool
  | .ow _ _ => true | _ => false

/-- what an expression gives: a shared value, a new list (owned by none as yet), or the slot that holds an owned one -/
inductive RV where
  | val (d : D) | new (d : D) | slot (i : Nat)

inductive Res (α : Type) where
  | ok (a : α) (r : Fm) | exc (c : Nat) (ds : List D) (r : Fm) | bad

inductive SRes where
  | nx (r : Fm) | ret (v : RV) (r : Fm) | brk (r : Fm) | cnt (r : Fm) | exc (c : Nat) (ds : List D) (r : Fm) | bad

/-- primitives -/
inductive P where
  | add | sub | mul | fdiv | mod | pow | neg
  | lt | le | gt | ge | eq | ne | isN | notN
  | idx | slo (lo hi : Bool)
  | len | abs | int | tuple | list | sum | all | any | max1 | min1 | max2 | min2 | divmod
  | isi (t : String) | isiC (c : Nat)
  | strI | join | split
  | addI | mulI | repr | isIn | notIn | revL | index | intT
  | asStr | asLen | asTru | asBl | notBl | asIns (c : Nat)
  | srt | srtS
  | isX (l : List Nat) | fldX (l : List Nat) | countT | indexT | eqU | neU | eqE | neE | lrng | cntI
  | ext (f : List D → Option (Bool × D))

structure Calls where
  fn : Nat → Fm → Res RV
  cn : Nat → Fm → Res (List D)
  /-- a def that calls what it got: behind a value, behind an exception -/
  an : Nat → Bool → D → Res RV

mutual
inductive E where
  | var (i : Nat)
  | con (d : D)
  | glo (x : Str) (d : D)
  | prm (p : P) (es : Es)
  | tup (es : As)
  | lst (es : As)
  | ife (t : T) (a b : E)
  | andV (a b : E) | orV (a b : E) | notV (e : E)
  | chain (o1 o2 : P) (a b c : E)
  | call (f : Nat) (gs : Gs)
  | callO (f : Nat) (e : E)
  | make (c : Nat) (gs : Gs)
  | callP (f : Nat) (pm : List Nat) (gs : Gs)
  | makeP (c : Nat) (pm : List Nat) (gs : Gs)
  | mthC (c f : Nat) (pm : List Nat) (e : E) (gs : Gs)
  | callI (c f : Nat) (gs : Gs)
  | inI (c f : Nat) (neg : Bool) (i : Nat) (e : E)
  | srtK (f : Nat) (e : E)
  | pop (i : Nat) (e : E)
  | fst (pre : Str) (e : E) (post : Str)
  | fld (c : Nat) (k : Nat) (e : E)
  | prop (c f : Nat) (e : E)
  | lc (vs : List Nat) (g : LV) (it : I) (t : T) (e : E)
  | lc2 (vs vs1 : List Nat) (g : LV) (it : I) (t : T) (g1 : LV) (it1 : I) (t1 : T) (e : E)
  | lcO (vs : List Nat) (i : Nat) (g : LV) (t : T) (e : E)
  | lc3 (vs vs1 vs2 : List Nat) (g : LV) (it : I) (t : T) (g1 : LV) (it1 : I) (t1 : T) (g2 : LV) (it2 : I) (t2 : T) (e : E)
  | app (i : Nat) (e : E)
  | ext (i : Nat) (e : E)
  | zipS (e : E)
  | zipS2 (e f : E)
  | mth (p : P) (a b : E)
  | get (p : P) (a b c : E)
  | answ (A : Nat) (e : E)
  | exp (f : Calls → Bool → Fm → Res RV)
inductive Es where
  | nil | cons (e : E) (r : Es)
inductive As where
  | nil | one (e : E) (r : As) | star (e : E) (r : As)
inductive Gs where
  | nil | v (e : E) (r : Gs) | b (i : Nat) (r : Gs)
inductive T where
  | val (e : E) | yes | all (a b : T) | any (a b : T) | not (t : T)
inductive I where
  | seq (e : E) | rng1 (a : E) | rng2 (a b : E) | rng3 (a b c : E) | enm (e : E) | zip (a b : E)
inductive LV where
  | nm (i : Nat) | tp (r : LVs) | sub (i : Nat) (k : E)
inductive LVs where
  | nil | cons (l : LV) (r : LVs)
end
mutual
inductive S where
  | expr (e : E)
  | asg (l : LV) (e : E)
  | par (i j : Nat) (a b : E)
  | par2 (i j : Nat) (a b : E)
  | par3 (i j k : Nat) (a b c : E)
  | asgS (l : LV) (e : E)
  | retS (e : E)
  | retO (i : Nat)
  | kil (is : List Nat)
  | shr (is : List Nat)
  | aug (i : Nat) (p : P) (e : E)
  | ift (t : T) (a b : Ss)
  | for (l : LV) (it : I) (b : Ss)
  | whl (t : T) (b : Ss)
  | ret (e : E) | retN | pas | brk | cnt | nev
  | augS (i : Nat) (p : P) (k e : E)
  | nz (ic fi ai bi : Nat) (e : E)
  | rai (c : Nat) (e : E)
  | rai0 (c : Nat)
  | tryF (i : Nat) (e : E) (l : List Nat) (d : D)
  | stx (f : Calls → Fm → SRes)
inductive Ss where
  | nil | cons (s : S) (r : Ss)
end

/-! ### primitives by values -/
def mulOk (i j : Int) : Bool := decide (i.natAbs.log2 + j.natAbs.log2 < 134000000)
def cmpI (f : Int → Int → Bool) : List D → Option (Bool × D)
  | [.int a, .int b] => some (false, .bl (f a b))
  | _ => none
def opI (f : Int → Int → Option Int) : List D → Option (Bool × D)
  | [.int a, .int b] => match f a b with | some c => some (false, .int c) | none => none
  | _ => none
def dEq : D → D → Option Bool := fun a b => match a.py, b.py with
  | some x, some y => if SeqAt.shaped x && SeqAt.shaped y then some (PyData.eqv x y) else none
  | _, _ => none
def isNon : D → Bool
  | .non => true | _ => false
def intsOf : List D → Option (List Int)
  | [] => some []
  | .int i :: r => match intsOf r with | some l => some (i :: l) | none => none
  | _ :: _ => none
def blsOf : List D → Option (List Bool)
  | [] => some []
  | .bl i :: r => match blsOf r with | some l => some (i :: l) | none => none
  | _ :: _ => none
def strsOf : List D → Option (List Str)
  | [] => some []
  | .str i :: r => match strsOf r with | some l => some (i :: l) | none => none
  | _ :: _ => none
def joinD (a : Str) (ys : List D) : Option (Bool × D) := match strsOf ys with
  | some l => if (l.map (·.length)).sum + l.length * a.length ≤ 16777216 then some (false, .str (PySem.Txt.join a l)) else none
  | none => none
def maxOf : Int → List Int → Int
  | a, [] => a
  | a, b :: r => maxOf (if b > a then b else a) r
def minOf : Int → List Int → Int
  | a, [] => a
  | a, b :: r => minOf (if b < a then b else a) r
def maxL : List Int → Option (Bool × D)
  | [] => none
  | a :: l => some (false, .int (maxOf a l))
def minL : List Int → Option (Bool × D)
  | [] => none
  | a :: l => some (false, .int (minOf a l))
def sumL (l : List Int) : Option (Bool × D) := some (false, .int l.sum)
def allL (l : List Bool) : Option (Bool × D) := some (false, .bl (l.all id))
def anyL (l : List Bool) : Option (Bool × D) := some (false, .bl (l.any id))
def onLst {α : Type} (f : List D → Option α) (g : α → Option (Bool × D)) : List D → Option (Bool × D)
  | [.lst xs] => (f xs).bind g
  | _ => none
def isiD (t : String) : D → Option Bool
  | .non => some false
  | .bl _ => some (t == "int" || t == "bool")
  | .int _ => some (t == "int")
  | .str _ => some (t == "str")
  | .tup _ => some (t == "tuple")
  | .lst _ => some (t == "list")
  | .ins _ _ => some false
  | .cls _ => none
  | .exn _ _ => none
  | .dct _ => some false
  | .dik _ => some false
def cutL (xs : List D) (lo hi : Option Int) : List D :=
  (xs.drop (HT.sIx xs.length 0 lo)).take (HT.sIx xs.length xs.length hi - HT.sIx xs.length 0 lo)
def sloD (x : D) (lo hi : Option Int) : Option (Bool × D) := match x with
  | .lst xs => some (true, .lst (cutL xs lo hi))
  | .tup xs => some (false, .tup (cutL xs lo hi))
  | .str z => if z.length ≤ sizeLine then some (false, .str (L2.cutS z lo hi)) else none
  | _ => none
/-- what repr tells of data -/
def reprD (d : D) : Option (Bool × D) := match d.py with
  | some p => if p.showable = true ∧ p.depth ≤ 64 ∧ p.shown.length ≤ sizeLine then some (false, .str p.shown) else none
  | none => none
def shapedD (d : D) : Option PyData := match d.py with
  | some p => if SeqAt.shaped p then some p else none
  | none => none
def shapedL (ds : List D) : Option (List PyData) := match D.pys ds with
  | some ps => if SeqAt.shaped (.list ps) then some ps else none
  | none => none
/-- x in y -/
def inD : D → D → Option Bool
  | .str a, .str b => some (!(Builtin.Str.occurrences b a 0 b.length 1).isEmpty)
  | x, .lst ds => match shapedD x, shapedL ds with
    | some p, some ps => some (ps.any fun z => PyData.eqv z p)
    | _, _ => none
  | x, .tup ds => match shapedD x, shapedL ds with
    | some p, some ps => some (ps.any fun z => PyData.eqv z p)
    | _, _ => none
  | _, _ => none
def insZ (a : Int) : List Int → List Int
  | [] => [a]
  | b :: l => if a ≤ b then a :: b :: l else b :: insZ a l
def sortZ : List Int → List Int
  | [] => []
  | a :: l => insZ a (sortZ l)
def insU (a : Int) : List Int → List Int
  | [] => [a]
  | b :: l => if a < b then a :: b :: l else if a = b then b :: l else b :: insU a l
/-- ascending, each once -/
def sortU : List Int → List Int
  | [] => []
  | a :: l => insU a (sortU l)
/-- near_zeros: the cuts between -b and b -/
def nzCut (b : Int) (l : List Int) : List Int := (sortU (-b :: b :: l.flatMap fun a => [a, a + 1])).filter fun x => decide (-b ≤ x) && decide (x ≤ b)
def firstAt (p : PyData) : List PyData → Nat → Option Nat
  | [], _ => none
  | z :: l, k => if PyData.eqv z p then some k else firstAt p l (k + 1)
def evP : P → List D → Option (Bool × D)
  | .add, ds => match ds with
    | [.int a, .int b] => some (false, .int (a + b))
    | [.str a, .str b] => if a.length + b.length ≤ sizeLine then some (false, .str (a ++ b)) else none
    | [.tup a, .tup b] => if a.length + b.length ≤ sizeLine then some (false, .tup (a ++ b)) else none
    | [.lst a, .lst b] => if a.length + b.length ≤ sizeLine then some (true, .lst (a ++ b)) else none
    | _ => none
  | .sub, ds => opI (fun a b => some (a - b)) ds
  | .mul, ds => match ds with
    | [.int a, .int b] => if mulOk a b then some (false, .int (a * b)) else none
    | [.tup a, .int k] => if k ≤ 1000 ∧ a.length ≤ 1000 ∧ a ≠ [] ∧ 0 ≤ k then some (false, .tup (List.replicate k.toNat a).flatten) else none
    | [.lst a, .int k] => if k ≤ 300 ∧ a.length ≤ 300 ∧ 0 ≤ k then some (true, .lst (List.replicate k.toNat a).flatten) else none
    | _ => none
  | .fdiv, ds => opI (fun a b => if b ≠ 0 ∧ (b.natAbs.log2 < 9000 ∨ a.natAbs.log2 < b.natAbs.log2 + 4400) then some (a.fdiv b) else none) ds
  | .mod, ds => opI (fun a b => if b ≠ 0 then some (a.fmod b) else none) ds
  | .pow, ds => opI (fun a b => if 0 ≤ b ∧ b ≤ 1000000 ∧ a.natAbs < 2 ^ 64 then some (a ^ b.toNat) else none) ds
  | .neg, ds => match ds with | [.int a] => some (false, .int (-a)) | _ => none
  | .lt, ds => cmpI (fun a b => decide (a < b)) ds
  | .le, ds => cmpI (fun a b => decide (a ≤ b)) ds
  | .gt, ds => cmpI (fun a b => decide (b < a)) ds
  | .ge, ds => cmpI (fun a b => decide (b ≤ a)) ds
  | .eq, ds => match ds with | [a, b] => (dEq a b).map fun c => (false, .bl c) | _ => none
  | .ne, ds => match ds with | [a, b] => (dEq a b).map fun c => (false, .bl (!c)) | _ => none
  | .isN, ds => match ds with | [a] => some (false, .bl (isNon a)) | _ => none
  | .notN, ds => match ds with | [a] => some (false, .bl (!isNon a)) | _ => none
  | .idx, ds => match ds with
    | [.lst xs, .int i] => match L2.atI xs i with | some d => some (false, d) | none => none
    | [.tup xs, .int i] => match L2.atI xs i with | some d => some (false, d) | none => none
    | [.str z, .int i] => if z.length ≤ sizeLine then match L2.atI z.cps.toList i with | some c => some (false, .str ⟨#[c]⟩) | none => none else none
    | _ => none
  | .slo false false, ds => match ds with | [x] => sloD x none none | _ => none
  | .slo true false, ds => match ds with | [x, .int a] => sloD x (some a) none | _ => none
  | .slo false true, ds => match ds with | [x, .int b] => sloD x none (some b) | _ => none
  | .slo true true, ds => match ds with | [x, .int a, .int b] => sloD x (some a) (some b) | _ => none
  | .len, ds => match ds with
    | [.lst xs] => some (false, .int xs.length)
    | [.tup xs] => some (false, .int xs.length)
    | [.str z] => if z.length ≤ sizeLine then some (false, .int z.length) else none
    | _ => none
  | .abs, ds => match ds with | [.int a] => some (false, .int (if a < 0 then -a else a)) | _ => none
  | .int, ds => match ds with
    | [.int a] => some (false, .int a)
    | [.bl b] => some (false, .int (if b then 1 else 0))
    | [.str a] => match PySem.intText? a with | some n => if a.length ≤ 640 then some (false, .int n) else none | none => none
    | _ => none
  | .tuple, ds => match ds with | [.lst xs] => some (false, .tup xs) | [.tup xs] => some (false, .tup xs) | _ => none
  | .list, ds => match ds with | [.lst xs] => some (true, .lst xs) | [.tup xs] => some (true, .lst xs) | _ => none
  | .sum, ds => onLst intsOf sumL ds
  | .all, ds => onLst blsOf allL ds
  | .any, ds => onLst blsOf anyL ds
  | .max1, ds => onLst intsOf maxL ds
  | .min1, ds => onLst intsOf minL ds
  | .max2, ds => opI (fun a b => some (if b > a then b else a)) ds
  | .min2, ds => opI (fun a b => some (if b < a then b else a)) ds
  | .divmod, ds => match ds with
    | [.int a, .int b] => if 0 < b ∧ b < 1073741824 then some (false, .tup [.int (a / b), .int (a % b)]) else none
    | _ => none
  | .isi t, ds => match ds with | [d] => (isiD t d).map fun c => (false, .bl c) | _ => none
  | .isiC c, ds => match ds with | [.ins k _] => some (false, .bl (k == c)) | [.cls _] => none | [.exn _ _] => none | [_] => some (false, .bl false) | _ => none
  | .strI, ds => match ds with
    | [.int i] => if i.natAbs.log2 < 1920 then some (false, .str (toString i)) else none
    | _ => none
  | .join, ds => match ds with
    | [.str a, .lst ys] => joinD a ys
    | [.str a, .tup ys] => joinD a ys
    | _ => none
  | .addI, ds => opI (fun a b => some (a + b)) ds
  | .mulI, ds => opI (fun a b => if mulOk a b then some (a * b) else none) ds
  | .repr, ds => match ds with | [d] => reprD d | _ => none
  | .isIn, ds => match ds with | [x, y] => (inD x y).map fun c => (false, .bl c) | _ => none
  | .notIn, ds => match ds with | [x, y] => (inD x y).map fun c => (false, .bl (!c)) | _ => none
  | .revL, ds => match ds with
    | [.lst xs] => some (true, .lst xs.reverse)
    | [.tup xs] => some (false, .tup xs.reverse)
    | _ => none
  | .index, ds => match ds with
    | [.lst xs, d] => match shapedL xs, shapedD d with
      | some ps, some p => (firstAt p ps 0).map fun k => (false, .int k)
      | _, _ => none
    | _ => none
  | .intT, ds => match ds with
    | [.str a] => if a.length ≤ 640 then (PySem.intText? a).map fun n => (false, .int n) else none
    | _ => none
  | .asStr, ds => match ds with | [.str a] => some (false, .str a) | _ => none
  | .asLen, ds => match ds with | [.int i] => if 0 ≤ i ∧ i < 4611686018427387904 then some (false, .int i) else none | _ => none
  | .asTru, ds => match ds with | [.int i] => if 0 ≤ i ∧ i < 4611686018427387904 then some (false, .bl (i != 0)) else none | _ => none
  | .asBl, ds => match ds with | [.bl b] => some (false, .bl b) | _ => none
  | .notBl, ds => match ds with | [.bl b] => some (false, .bl (!b)) | _ => none
  | .isX l, ds => match ds with | [.exn c _] => some (false, .bl (l.contains c)) | _ => none
  | .fldX l, ds => match ds with | [.exn c fs] => if l.contains c then (match fs with | [d] => some (false, d) | _ => none) else none | _ => none
  | .countT, ds => match ds with
    | [.lst xs] => (blsOf xs).map fun l => (false, .int (l.count true))
    | _ => none
  | .indexT, ds => match ds with
    | [.lst xs] => match blsOf xs with | some l => (if l.contains true then some (false, .int (l.idxOf true)) else none) | none => none
    | _ => none
  | .eqU, ds => match ds with | [.tup xs] => some (false, .bl xs.isEmpty) | _ => none
  | .neU, ds => match ds with | [.tup xs] => some (false, .bl (!xs.isEmpty)) | _ => none
  | .eqE, ds => match ds with | [.lst xs] => some (false, .bl xs.isEmpty) | _ => none
  | .neE, ds => match ds with | [.lst xs] => some (false, .bl (!xs.isEmpty)) | _ => none
  | .lrng, ds => match ds with | [.int i] => if 0 ≤ i ∧ i ≤ 1000000 then some (true, .lst ((List.range i.toNat).map fun k => D.int (k : Nat))) else none | _ => none
  | .cntI, ds => match ds with
    | [.lst xs, .int z] => (intsOf xs).map fun l => (false, .int (l.count z))
    | _ => none
  | .ext f, ds => f ds
  | .asIns c, ds => match ds with | [.ins c' fs] => if c' = c then some (false, .ins c fs) else none | _ => none
  | .srt, ds => match ds with
    | [.lst xs] => (intsOf xs).map fun l => (true, .lst ((sortZ l).map D.int))
    | _ => none
  | .srtS, ds => match ds with
    | [.lst xs] => match intsOf xs with
      | some l => if l.length ≤ 1000 ∧ (sortU l).length < 64 then some (true, .lst ((sortU l).map D.int)) else none
      | none => none
    | _ => none
  | .split, ds => match ds with
    | [.str a, .str b] => if (b.length == 0) = false ∧ a.length + 2 ≤ sizeLine then some (true, .lst ((PySem.Txt.split a b).map D.str)) else none
    | _ => none

/-- the truth of a value -/
def truD : D → Option Bool
  | .non => some false
  | .bl b => some b
  | .int i => some (i != 0)
  | .str z => if z.length ≤ sizeLine then some (z.length != 0) else none
  | .tup xs => some (!xs.isEmpty)
  | .lst xs => some (!xs.isEmpty)
  | .ins _ _ => none
  | .cls _ => none
  | .exn _ _ => none
  | .dct _ => none
  | .dik _ => none

/-! ### the evaluator -/
def isDic : D → Bool
  | .dct _ => true
  | .dik _ => true
  | _ => false
def RV.down : RV → RV
  | .new d => .val d
  | r => r
def RV.at_ (r : RV) (q : Fm) : Option D := match r with
  | .val d => some d
  | .new d => some d
  | .slot i => match q[i]? with
    | some (.sh _ d) => some d
    | some (.ow _ d) => some d
    | _ => none
def RV.vd : RV → Option D
  | .val d => some d
  | .new d => some d
  | .slot _ => none
def atAll (q : Fm) : List RV → Option (List D)
  | [] => some []
  | r :: rs => match r.at_ q, atAll q rs with | some d, some ds => some (d :: ds) | _, _ => none
/-- an argument: a value, or a slot that is lent -/
inductive Ga where
  | v (d : D) | b (i : Nat)
/-- the keys of a list's items -/
def keysD (g : D → Option Int) : List D → Option (List Int)
  | [] => some []
  | d :: l => match g d, keysD g l with | some i, some r => some (i :: r) | _, _ => none
def insK (p : Int × D) : List (Int × D) → List (Int × D)
  | [] => [p]
  | q :: l => if p.1 ≤ q.1 then p :: q :: l else q :: insK p l
def srtD : List (Int × D) → List (Int × D)
  | [] => []
  | p :: l => insK p (srtD l)
/-- sorted by keys that are all different -/
def sortK (g : D → Option Int) (ds : List D) : Option (List D) := match keysD g ds with
  | some ks => if ds.length < 64 ∧ ks.Nodup then some ((srtD (ks.zip ds)).map (·.2)) else none
  | none => none
def intR : Res RV → Option Int
  | .ok (.val (.int i)) _ => some i
  | _ => none
/-- all are instances of the class c -/
def insL (c : Nat) : List Ga → Bool
  | [] => true
  | .v (.ins k _) :: r => k == c && insL c r
  | _ => false
def lent (q : Fm) : List Ga → Option Fm
  | [] => some []
  | .v d :: r => match lent q r with | some l => some (.sh false d :: l) | none => none
  | .b i :: r => match q[i]?, lent q r with | some (.ow _ d), some l => some (.ow true d :: l) | _, _ => none
def lentIx : List Ga → List Nat
  | [] => []
  | .v _ :: r => lentIx r
  | .b i :: r => i :: lentIx r
def Slot.bors (b : Bool) : Slot → Slot
  | .sh _ d => .sh b d
  | .ow _ d => .ow b d
  | .no => .no
  | .pin => .no
def giveBack : List Ga → Fm → Fm → Fm
  | .b i :: r, s :: l, q => giveBack r l (q.set i (s.bors ((q.getD i .no).isBor)))
  | .v _ :: r, _ :: l, q => giveBack r l q
  | _, _, q => q
/-- the frame without the lists that it owns -/
def hidF (q : Fm) : Fm := q.map fun s => match s with
  | .ow _ _ => .no
  | s => s
def bindR {α β : Type} (r : Res α) (f : α → Fm → Res β) : Res β := match r with
  | .ok a q => f a q
  | .exc c ds q => .exc c ds q
  | .bad => .bad
def primR (p : P) (rs : List RV) (q : Fm) : Res RV := match atAll q rs with
  | some ds => match evP p ds with
    | some (true, d) => .ok (.new d) q
    | some (false, d) => .ok (.val d) q
    | none => .bad
  | none => .bad
def noSlot : Res RV → Res RV
  | .ok (.slot _) _ => .bad
  | r => r
def callR (K : Calls) (f : Nat) (gs : List Ga) (q : Fm) : Res RV :=
  if (lentIx gs).Nodup then match lent q gs with
    | some as => match noSlot (K.fn f as) with
      | .ok r as' => .ok r (giveBack gs as' q)
      | .exc c ds as' => .exc c ds (giveBack gs as' q)
      | .bad => .bad
    | none => .bad
  else .bad
def makeR (K : Calls) (c : Nat) (gs : List Ga) (q : Fm) : Res RV :=
  if lentIx gs = [] then match lent q gs with
    | some as => match K.cn c as with
      | .ok fs _ => .ok (.val (.ins c fs)) q
      | .exc c ds _ => .exc c ds q
      | .bad => .bad
    | none => .bad
  else .bad
def pick {α : Type} (pm : List Nat) (l : List α) : List α := pm.filterMap fun i => l[i]?
def boolR : Res RV → Option Bool
  | .ok (.val (.bl b)) _ => some b
  | _ => none
/-- an item of a list compared with an instance x of the class c, by the def f of its == -/
def eqCall (K : Calls) (c f : Nat) (x d : D) : Option Bool := match d with
  | .ins c' fs => if c' = c then boolR (noSlot (K.fn f [.sh false (.ins c' fs), .sh false x])) else none
  | .cls _ => none
  | .exn _ _ => none
  | d => boolR (noSlot (K.fn f [.sh false x, .sh false d]))
def isIns : D → Bool
  | .ins _ _ => true
  | _ => false
/-- false only where no instance was among the items (one may be the very object) -/
def inLoop (call : D → Option Bool) : Bool → List D → Option Bool
  | s, [] => if s then none else some false
  | s, d :: ds => match call d with
    | some true => some true
    | some false => inLoop call (s || isIns d) ds
    | none => none
def popIx (n : Nat) (z : Int) : Option Nat := if n ≤ 1000000 then L2.ixN n z else none
def popR (i : Nat) (k : D) (q : Fm) : Res RV := match q[i]?, k with
  | some (.ow b (.lst xs)), .int z => match popIx xs.length z with
    | some j => match xs[j]? with
      | some d => .ok (.val d) (q.set i (.ow b (.lst (xs.eraseIdx j))))
      | none => .bad
    | none => .bad
  | _, _ => .bad
def seqD : D → Option (List D)
  | .lst xs => some xs
  | .tup xs => some xs
  | _ => none
def starR (r : RV) (q : Fm) : Option (List D) := match r.at_ q with
  | some d => seqD d
  | none => none
def rngL (lo : Int) (n : Nat) : List D := (List.range n).map fun k => .int (lo + (k : Nat))
def rngC (lo c : Int) (n : Nat) : List D := (List.range n).map fun k => .int (lo + (k : Nat) * c)
def enmL : Nat → List D → List D
  | _, [] => []
  | k, d :: ds => .tup [.int (k : Nat), d] :: enmL (k + 1) ds
def zipL : List D → List D → List D
  | a :: r, b :: s => .tup [a, b] :: zipL r s
  | _, _ => []
def strL (z : Str) : List D := z.cps.toList.map fun c => .str ⟨#[c]⟩
def itemsD : D → Option (List D)
  | .lst xs => some xs
  | .tup xs => some xs
  | .str z => some (strL z)
  | _ => none
def vds : List RV → Option (List D)
  | [] => some []
  | r :: rs => match r.vd, vds rs with | some d, some ds => some (d :: ds) | _, _ => none
def itR (rs : List RV) (q : Fm) (f : List D → Option (List D)) : Res (List D) := match vds rs with
  | some ds => match f ds with
    | some l => .ok l q
    | none => .bad
  | none => .bad
def inR (i : Int) : Bool := decide (-(2 ^ 62) ≤ i) && decide (i < 2 ^ 62)
def rng1F : List D → Option (List D)
  | [.int j] => if inR j then some (rngL 0 j.toNat) else none
  | _ => none
def rng2F : List D → Option (List D)
  | [.int i, .int j] => if inR i && inR j then some (rngL i (j - i).toNat) else none
  | _ => none
def rng3F : List D → Option (List D)
  | [.int i, .int j, .int c] => if inR i && inR j && decide (0 < c) && decide (c < 1000000) then some (rngC i c (Builtin.Range.rangeSize i j c).toNat) else none
  | _ => none
def enmF : List D → Option (List D)
  | [d] => (seqD d).map (enmL 0)
  | _ => none
def zipF : List D → Option (List D)
  | [a, b] => match seqD a, seqD b with | some x, some y => some (zipL x y) | _, _ => none
  | _ => none
def setName (i : Nat) (r : RV) (q : Fm) : Res Unit := match q[i]? with
  | some s => if s.isBor then .bad else match r with
    | .val d => .ok () (q.set i (.sh false d))
    | .new d => .ok () (q.set i (.ow false d))
    | .slot _ => .bad
  | none => .bad
def setSub (i : Nat) (k v : D) (q : Fm) : Res Unit := match q[i]?, k with
  | some (.ow b (.lst xs)), .int z => match L2.ixN xs.length z with
    | some j => .ok () (q.set i (.ow b (.lst (xs.set j v))))
    | none => .bad
  | _, _ => .bad
def isOwn : Option Slot → Bool
  | some (.ow _ _) => true
  | _ => false
def appR (i : Nat) (d : D) (q : Fm) : Res RV := match q[i]? with
  | some (.ow b (.lst xs)) => if xs.length < sizeLine then .ok (.val .non) (q.set i (.ow b (.lst (xs ++ [d])))) else .bad
  | _ => .bad
def extR (i : Nat) (d : D) (q : Fm) : Res RV := match q[i]?, d with
  | some (.ow b (.lst xs)), .lst ys => if xs.length + ys.length ≤ sizeLine then .ok (.val .non) (q.set i (.ow b (.lst (xs ++ ys)))) else .bad
  | some (.ow b (.lst xs)), .tup ys => if xs.length + ys.length ≤ sizeLine then .ok (.val .non) (q.set i (.ow b (.lst (xs ++ ys)))) else .bad
  | _, _ => .bad
def loopF (asg : D → Fm → Res Unit) (body : Fm → SRes) : List D → Fm → SRes
  | [], q => .nx q
  | d :: ds, q => match asg d q with
    | .ok _ q1 => match body q1 with
      | .nx q2 => loopF asg body ds q2
      | .cnt q2 => loopF asg body ds q2
      | .brk q2 => .nx q2
      | r => r
    | _ => .bad
def loopW (test : Fm → Res Bool) (body : Fm → SRes) : Nat → Fm → SRes
  | 0, _ => .bad
  | n + 1, q => match test q with
    | .ok true q1 => match body q1 with
      | .nx q2 => loopW test body n q2
      | .cnt q2 => loopW test body n q2
      | .brk q2 => .nx q2
      | r => r
    | .ok false q1 => .nx q1
    | .exc c es q1 => .exc c es q1
    | .bad => .bad
/-- a comprehension's own names, taken out of the frame, put back -/
def wipeF (vs : List Nat) (q : Fm) : Fm := vs.foldr (fun v q => q.set v .no) q
def noOw (vs : List Nat) (q : Fm) : Bool := vs.all fun v => match q[v]? with | some (.ow _ _) => false | some _ => true | none => false
def backF (vs : List Nat) (old q : Fm) : Fm := vs.foldr (fun v q => q.set v (old.getD v .no)) q
def loopC (vs : List Nat) (asg : D → Fm → Res Unit) (test : Fm → Res Bool) (elt : Fm → Res RV) : List D → List D → Fm → Res (List D)
  | acc, [], q => .ok acc q
  | acc, d :: ds, q => match asg d (wipeF vs q) with
    | .ok _ q1 => match test q1 with
      | .ok true q2 => match elt q2 with
        | .ok r q3 => match r.vd with
          | some x => if acc.length < sizeLine && noOw vs q3 then loopC vs asg test elt (acc ++ [x]) ds q3 else .bad
          | none => .bad
        | _ => .bad
      | .ok false q2 => if noOw vs q2 then loopC vs asg test elt acc ds q2 else .bad
      | _ => .bad
    | _ => .bad
/-- over the owned list in slot i, as it stands at each turn -/
def loopO (vs : List Nat) (i : Nat) (asg : D → Fm → Res Unit) (test : Fm → Res Bool) (elt : Fm → Res RV) : Nat → Nat → List D → Fm → Res (List D)
  | 0, _, _, _ => .bad
  | n + 1, k, acc, q => match q[i]? with
    | some (.ow _ (.lst l)) => match l[k]? with
      | none => .ok acc q
      | some d => match asg d (wipeF vs q) with
        | .ok _ q1 => match test q1 with
          | .ok true q2 => match elt q2 with
            | .ok r q3 => match r.vd with
              | some x => if acc.length < sizeLine && noOw vs q3 then loopO vs i asg test elt n (k + 1) (acc ++ [x]) q3 else .bad
              | none => .bad
            | _ => .bad
          | .ok false q2 => if noOw vs q2 then loopO vs i asg test elt n (k + 1) acc q2 else .bad
          | _ => .bad
        | _ => .bad
    | _ => .bad
def rowsOf : List D → Option (List (List D))
  | [] => some []
  | d :: ds => match seqD d, rowsOf ds with | some r, some l => some (r :: l) | _, _ => none
def zipCols (rs : List (List D)) (m : Nat) : List D := (List.range m).map fun j => .tup (rs.map fun r => r.getD j .non)
def zipSR (l : List D) : Option (List D) := match rowsOf l with
  | some (r :: rs) => if rs.length ≤ 3 ∧ r.length ≤ 1000000 ∧ rs.all (fun x => x.length == r.length) = true then some (zipCols (r :: rs) r.length) else none
  | _ => none
/-- up to ten rows -/
def zipS9 (l : List D) : Option (List D) := match rowsOf l with
  | some (r :: rs) => if rs.length ≤ 9 ∧ r.length ≤ 1000000 ∧ rs.all (fun x => x.length == r.length) = true then some (zipCols (r :: rs) r.length) else none
  | _ => none
def most : Nat := 1000000000
mutual
def LV.ns : LV → List Nat
  | .nm i => [i]
  | .tp r => r.ns
  | .sub _ _ => []
def LVs.ns : LVs → List Nat
  | .nil => []
  | .cons l r => l.ns ++ r.ns
end
def LVs.len : LVs → Nat
  | .nil => 0
  | .cons _ r => r.len + 1
/-- the inner walk of a comprehension with two for -/
def loopC1 (vs vs1 : List Nat) (asg : D → Fm → Res Unit) (test : Fm → Res Bool) (elt : Fm → Res RV) : List D → List D → Fm → Res (List D)
  | acc, [], q => .ok acc q
  | acc, d :: ds, q => match asg d (wipeF vs1 q) with
    | .ok _ q1 => match test q1 with
      | .ok true q2 => match elt q2 with
        | .ok r q3 => match r.vd with
          | some x => if acc.length < sizeLine && noOw vs q3 then loopC1 vs vs1 asg test elt (acc ++ [x]) ds q3 else .bad
          | none => .bad
        | _ => .bad
      | .ok false q2 => if noOw vs q2 then loopC1 vs vs1 asg test elt acc ds q2 else .bad
      | _ => .bad
    | _ => .bad
def loopC2 (vs : List Nat) (asg : D → Fm → Res Unit) (test : Fm → Res Bool) (inner : List D → Fm → Res (List D)) : List D → List D → Fm → Res (List D)
  | acc, [], q => .ok acc q
  | acc, d :: ds, q => match asg d (wipeF vs q) with
    | .ok _ q1 => match test q1 with
      | .ok true q2 => match inner acc q2 with
        | .ok acc' q3 => if noOw vs q3 then loopC2 vs asg test inner acc' ds q3 else .bad
        | _ => .bad
      | .ok false q2 => if noOw vs q2 then loopC2 vs asg test inner acc ds q2 else .bad
      | _ => .bad
    | _ => .bad
mutual
def ev (K : Calls) : E → Bool → Fm → Res RV
  | .var i, pk, q => match q[i]? with
    | some (.sh _ d) => .ok (.val d) q
    | some (.ow b d) => if pk then .ok (.slot i) q else .ok (.val d) (q.set i (.sh b d))
    | _ => .bad
  | .con d, _, q => .ok (.val d) q
  | .glo _ d, _, q => .ok (.val d) q
  | .prm p es, _, q => bindR (evs K es q) fun rs q1 => primR p rs q1
  | .tup es, _, q => bindR (evA K es q) fun ds q1 => if ds.length ≤ sizeLine then .ok (.val (.tup ds)) q1 else .bad
  | .lst es, _, q => bindR (evA K es q) fun ds q1 => if ds.length ≤ sizeLine then .ok (.new (.lst ds)) q1 else .bad
  | .ife t a b, _, q => bindR (evT K t q) fun c q1 => if c then ev K a false q1 else ev K b false q1
  | .andV a b, _, q => bindR (ev K a true q) fun r q1 => match r with
    | .val (.bl true) => ev K b false q1
    | .val (.bl false) => .ok (.val (.bl false)) q1
    | _ => .bad
  | .orV a b, _, q => bindR (ev K a true q) fun r q1 => match r with
    | .val (.bl false) => ev K b false q1
    | .val (.bl true) => .ok (.val (.bl true)) q1
    | _ => .bad
  | .notV e, _, q => bindR (ev K e true q) fun r q1 => match r.at_ q1 with
    | some d => match truD d with
      | some c => .ok (.val (.bl (!c))) q1
      | none => .bad
    | none => .bad
  | .chain o1 o2 a b c, _, q => bindR (ev K a false q) fun r1 q1 => bindR (ev K b false q1) fun r2 q2 => match r1.vd, r2.vd with
    | some x, some y => match evP o1 [x, y] with
      | some (_, .bl true) => bindR (ev K c false q2) fun r3 q3 => match r3.vd with
        | some z => match evP o2 [y, z] with
          | some (false, d) => .ok (.val d) q3
          | _ => .bad
        | none => .bad
      | some (_, .bl false) => .ok (.val (.bl false)) q2
      | _ => .bad
    | _, _ => .bad
  | .call f gs, _, q => bindR (evG K gs q) fun l q1 => callR K f l q1
  | .srtK f e, _, q => bindR (ev K e false q) fun r q1 => match r.vd with
    | some (.lst ds) => match sortK (fun d => intR (noSlot (K.fn f [.sh false d]))) ds with
      | some l => .ok (.new (.lst l)) q1
      | none => .bad
    | _ => .bad
  | .callI c f gs, _, q => bindR (evG K gs q) fun l q1 => if insL c l then callR K f l q1 else .bad
  | .inI c f neg i e, _, q => match q[i]? with
    | some (.sh _ (.ins c' fs)) => if c' = c then bindR (ev K e true q) fun r q1 => match r.at_ q1 with
        | some (.lst ds) => match inLoop (eqCall K c f (.ins c' fs)) false ds with
          | some b => .ok (.val (.bl (b != neg))) q1
          | none => .bad
        | _ => .bad
      else .bad
    | _ => .bad
  | .callO f e, _, q => bindR (ev K e false q) fun r q1 => match r with
    | .new d => match noSlot (K.fn f [.ow false d]) with
      | .ok r' _ => .ok r' q1
      | .exc c ds _ => .exc c ds q1
      | .bad => .bad
    | _ => .bad
  | .make c gs, _, q => bindR (evG K gs q) fun l q1 => makeR K c l q1
  | .callP f pm gs, _, q => bindR (evG K gs q) fun l q1 => callR K f (pick pm l) q1
  | .makeP c pm gs, _, q => bindR (evG K gs q) fun l q1 => makeR K c (pick pm l) q1
  | .mthC c f pm e gs, _, q => bindR (ev K e false q) fun r q1 => match r with
    | .val (.ins c' fs) => if c' = c then bindR (evG K gs q1) fun l q2 => callR K f (pick pm (.v (.ins c fs) :: l)) q2 else .bad
    | _ => .bad
  | .fst pre e post, _, q => bindR (ev K e true q) fun r q1 => match r with
    | .val (.int i) => if i.natAbs.log2 < 1920 ∧ ((pre ++ toString i) ++ post).length ≤ sizeLine then .ok (.val (.str ((pre ++ toString i) ++ post))) q1 else .bad
    | _ => .bad
  | .pop i e, _, q => if isOwn q[i]? then bindR (ev K e false q) fun r q1 => match r.vd with
    | some d => popR i d q1
    | none => .bad
    else .bad
  | .fld c k e, _, q => bindR (ev K e false q) fun r q1 => match r with
    | .val (.ins c' fs) => if c' = c then match fs[k]? with
        | some d => .ok (.val d) q1
        | none => .bad
      else .bad
    | _ => .bad
  | .prop c f e, _, q => bindR (ev K e false q) fun r q1 => match r with
    | .val (.ins c' fs) => if c' = c then match noSlot (K.fn f [.sh false (.ins c fs)]) with
        | .ok r' _ => .ok r' q1
        | _ => .bad
      else .bad
    | _ => .bad
  | .lc vs g it t e, _, q => bindR (evI K it q) fun l q1 => if noOw vs q1 then
      match loopC vs (fun d q => evL K g (.val d) q) (evT K t) (ev K e false) [] l q1 with
      | .ok ds q2 => .ok (.new (.lst ds)) (backF vs q1 q2)
      | _ => .bad
    else .bad
  | .lcO vs i g t e, _, q => match q[i]? with
    | some (.ow _ (.lst l)) => if noOw vs q then
        match loopO vs i (fun d q => evL K g (.val d) q) (evT K t) (ev K e false) (l.length + 1) 0 [] q with
        | .ok ds q2 => .ok (.new (.lst ds)) (backF vs q q2)
        | _ => .bad
      else .bad
    | _ => .bad
  | .lc2 vs vs1 g it t g1 it1 t1 e, _, q => bindR (evI K it q) fun l q1 => if noOw vs q1 then
      match loopC2 vs (fun d q => evL K g (.val d) q) (evT K t) (fun acc q => bindR (evI K it1 q) fun l1 q2 => if noOw vs q2 then loopC1 vs vs1 (fun d q => evL K g1 (.val d) q) (evT K t1) (ev K e false) acc l1 q2 else .bad) [] l q1 with
      | .ok ds q2 => .ok (.new (.lst ds)) (backF vs q1 q2)
      | _ => .bad
    else .bad
  | .lc3 vs vs1 vs2 g it t g1 it1 t1 g2 it2 t2 e, _, q => bindR (evI K it q) fun l q1 => if noOw vs q1 then
      match loopC2 vs (fun d q => evL K g (.val d) q) (evT K t) (fun acc q => bindR (evI K it1 q) fun l1 q2 => if noOw vs q2 then loopC2 vs1 (fun d q => evL K g1 (.val d) q) (evT K t1) (fun acc q => bindR (evI K it2 q) fun l2 q3 => if noOw vs q3 then loopC1 vs vs2 (fun d q => evL K g2 (.val d) q) (evT K t2) (ev K e false) acc l2 q3 else .bad) acc l1 q2 else .bad) [] l q1 with
      | .ok ds q2 => .ok (.new (.lst ds)) (backF vs q1 q2)
      | _ => .bad
    else .bad
  | .app i e, _, q => if isOwn q[i]? then bindR (ev K e false q) fun r q1 => match r.vd with
    | some d => appR i d q1
    | none => .bad
    else .bad
  | .ext i e, _, q => if isOwn q[i]? then bindR (ev K e false q) fun r q1 => match r.vd with
    | some d => extR i d q1
    | none => .bad
    else .bad
  | .zipS e, _, q => bindR (ev K e true q) fun r q1 => match starR r q1 with
    | some l => match zipSR l with
      | some cs => .ok (.new (.lst cs)) q1
      | none => .bad
    | none => .bad
  | .zipS2 e f, _, q => bindR (ev K e true q) fun r q1 => match starR r q1 with
    | some l => bindR (ev K f true q1) fun r2 q2 => match r2 with
      | .val d => match zipS9 (l ++ [d]) with
        | some cs => .ok (.new (.lst cs)) q2
        | none => .bad
      | _ => .bad
    | none => .bad
  | .mth p a b, _, q => bindR (ev K a false q) fun r q1 => match r with
    | .val (.str z) => bindR (ev K b true q1) fun r2 q2 => primR p [.val (.str z), r2.down] q2
    | _ => .bad
  | .exp f, pk, q => f K pk q
  | .get p a b c, _, q => bindR (ev K a false q) fun r q1 => match r with
    | .val d => if isDic d then bindR (ev K b true q1) fun r2 q2 => bindR (ev K c true q2) fun r3 q3 => primR p [.val d, r2.down, r3.down] q3 else .bad
    | _ => .bad
  | .answ A e, _, q => match ev K e false (hidF q) with
    | .ok r _ => match r.vd with
      | some d => match K.an A true d with
        | .ok r2 _ => .ok r2 q
        | _ => .bad
      | none => .bad
    | .exc c ds _ => match K.an A false (.exn c ds) with
      | .ok r2 _ => .ok r2 q
      | _ => .bad
    | .bad => .bad
def evs (K : Calls) : Es → Fm → Res (List RV)
  | .nil, q => .ok [] q
  | .cons e r, q => bindR (ev K e true q) fun x q1 => bindR (evs K r q1) fun xs q2 => .ok (x.down :: xs) q2
def evA (K : Calls) : As → Fm → Res (List D)
  | .nil, q => .ok [] q
  | .one e r, q => bindR (ev K e false q) fun x q1 => match x.vd with
    | some d => bindR (evA K r q1) fun ds q2 => .ok (d :: ds) q2
    | none => .bad
  | .star e r, q => bindR (ev K e true q) fun x q1 => match starR x q1 with
    | some l => bindR (evA K r q1) fun ds q2 => .ok (l ++ ds) q2
    | none => .bad
def evG (K : Calls) : Gs → Fm → Res (List Ga)
  | .nil, q => .ok [] q
  | .v e r, q => bindR (ev K e false q) fun x q1 => match x.vd with
    | some d => bindR (evG K r q1) fun l q2 => .ok (.v d :: l) q2
    | none => .bad
  | .b i r, q => match q[i]? with
    | some (.ow _ _) => bindR (evG K r q) fun l q1 => .ok (.b i :: l) q1
    | _ => .bad
def evT (K : Calls) : T → Fm → Res Bool
  | .val e, q => bindR (ev K e true q) fun r q1 => match r.at_ q1 with
    | some d => match truD d with
      | some c => .ok c q1
      | none => .bad
    | none => .bad
  | .yes, q => .ok true q
  | .all a b, q => bindR (evT K a q) fun c q1 => if c then evT K b q1 else .ok false q1
  | .any a b, q => bindR (evT K a q) fun c q1 => if c then .ok true q1 else evT K b q1
  | .not t, q => bindR (evT K t q) fun c q1 => .ok (!c) q1
def evI (K : Calls) : I → Fm → Res (List D)
  | .seq e, q => bindR (ev K e false q) fun r q1 => match r.vd with
    | some d => match itemsD d with
      | some l => .ok l q1
      | none => .bad
    | none => .bad
  | .rng1 a, q => bindR (ev K a false q) fun r q1 => itR [r] q1 rng1F
  | .rng2 a b, q => bindR (ev K a false q) fun r q1 => bindR (ev K b false q1) fun r2 q2 => itR [r, r2] q2 rng2F
  | .rng3 a b c, q => bindR (ev K a false q) fun r q1 => bindR (ev K b false q1) fun r2 q2 => bindR (ev K c false q2) fun r3 q3 => itR [r, r2, r3] q3 rng3F
  | .enm a, q => bindR (ev K a false q) fun r q1 => itR [r] q1 enmF
  | .zip a b, q => bindR (ev K a false q) fun r q1 => bindR (ev K b false q1) fun r2 q2 => itR [r, r2] q2 zipF
def evL (K : Calls) : LV → RV → Fm → Res Unit
  | .nm i, r, q => setName i r q
  | .tp ls, r, q => match r.vd with
    | some (.tup ds) => if ds.length = ls.len then evLs K ls ds q else .bad
    | _ => .bad
  | .sub i k, r, q => match r.vd, q[i]? with
    | some d, some (.ow _ _) => match ev K k false q with
      | .ok (.val z) q1 => setSub i z d q1
      | _ => .bad
    | _, _ => .bad
def evLs (K : Calls) : LVs → List D → Fm → Res Unit
  | .nil, [], q => .ok () q
  | .cons l r, d :: ds, q => match evL K l (.val d) q with
    | .ok _ q1 => evLs K r ds q1
    | _ => .bad
  | _, _, _ => .bad
end
def shr1 (i : Nat) (q : Fm) : Fm := match q[i]? with
  | some (.ow b d) => q.set i (.sh b d)
  | _ => q
def shrF (vs : List Nat) (q : Fm) : Fm := vs.foldr shr1 q
/-- several names at once, the last one first -/
def setNs : List (Nat × RV) → Fm → SRes
  | [], q => .nx q
  | (i, r) :: l, q => match setName i r q with
    | .ok _ q1 => setNs l q1
    | _ => .bad
def ofR {α : Type} (r : Res α) (f : α → Fm → SRes) : SRes := match r with
  | .ok a q => f a q
  | .exc c ds q => .exc c ds q
  | .bad => .bad
mutual
def evS (K : Calls) : S → Fm → SRes
  | .expr e, q => ofR (ev K e false q) fun _ q1 => .nx q1
  | .asg l e, q => ofR (ev K e false q) fun r q1 => match evL K l r q1 with
    | .ok _ q2 => .nx q2
    | _ => .bad
  | .par i j a b, q => ofR (ev K a false q) fun r1 q1 => match r1.vd with
    | some d1 => ofR (ev K b false q1) fun r2 q2 => match r2.vd with
      | some d2 => match setName i (.val d1) q2 with
        | .ok _ q3 => match setName j (.val d2) q3 with
          | .ok _ q4 => .nx q4
          | _ => .bad
        | _ => .bad
      | none => .bad
    | none => .bad
  | .par2 i j a b, q => ofR (ev K a false q) fun r1 q1 => ofR (ev K b false q1) fun r2 q2 => setNs [(j, r2), (i, r1)] q2
  | .par3 i j k a b c, q => ofR (ev K a false q) fun r1 q1 => ofR (ev K b false q1) fun r2 q2 => ofR (ev K c false q2) fun r3 q3 => setNs [(k, r3), (j, r2), (i, r1)] q3
  | .asgS l e, q => ofR (ev K e false q) fun r q1 => match evL K l r.down q1 with
    | .ok _ q2 => .nx q2
    | _ => .bad
  | .retS e, q => ofR (ev K e false q) fun r q1 => .ret r.down q1
  | .retO i, q => match q[i]? with
    | some (.ow false _) => .ret (.slot i) q
    | _ => .bad
  | .kil is, q => .nx (wipeF is q)
  | .shr is, q => .nx (shrF is q)
  | .aug i p e, q => match q[i]? with
    | some (.sh false x) => ofR (ev K e false q) fun r q1 => match r.vd with
      | some y => match evP p [x, y] with
        | some (false, d) => .nx (q1.set i (.sh false d))
        | _ => .bad
      | none => .bad
    | _ => .bad
  | .ift t a b, q => ofR (evT K t q) fun c q1 => if c then evSs K a q1 else evSs K b q1
  | .for l it b, q => ofR (evI K it q) fun ds q1 => loopF (fun d q => evL K l (.val d) q) (evSs K b) ds q1
  | .whl t b, q => loopW (evT K t) (evSs K b) most q
  | .ret e, q => ofR (ev K e false q) fun r q1 => .ret r q1
  | .retN, q => .ret (.val .non) q
  | .pas, q => .nx q
  | .brk, q => .brk q
  | .cnt, q => .cnt q
  | .nev, _ => .bad
  | .augS i p k e, q => if isOwn q[i]? then ofR (ev K k false q) fun rk q1 => match rk, q1[i]? with
    | .val (.int z), some (.ow _ (.lst xs)) => match if 0 ≤ z then xs[z.toNat]? else none with
      | some x => ofR (ev K e false q1) fun r q2 => match r.vd with
        | some y => match evP p [x, y] with
          | some (false, d) => match setSub i (.int z) d q2 with
            | .ok _ q3 => .nx q3
            | _ => .bad
          | _ => .bad
        | none => .bad
      | none => .bad
    | _, _ => .bad
    else .bad
  | .nz ic fi ai bi e, q => match q[bi]?, q[ai]? with
    | some (.sh _ (.int b)), some _ => ofR (ev K e false (wipeF [ic] q)) fun r q1 => match r.vd with
      | some (.lst ds) => match intsOf ds with
        | some l => if l.length ≤ 1000 then match setName ic (.val (.lst ((nzCut b l).map D.int))) (wipeF [ai] q1) with
            | .ok _ q2 => match setName fi (.new (.lst [])) q2 with
              | .ok _ q3 => .nx q3
              | _ => .bad
            | _ => .bad
          else .bad
        | none => .bad
      | _ => .bad
    | _, _ => .bad
  | .rai c e, q => ofR (ev K e false q) fun r q1 => match r.vd with
    | some d => .exc c [d] q1
    | none => .bad
  | .rai0 c, q => .exc c [] q
  | .stx f, q => f K q
  | .tryF i e l d, q => match ev K e false q with
    | .ok r q1 => match setName i r.down q1 with
      | .ok _ q2 => .nx q2
      | _ => .bad
    | .exc c ds q1 => if l.contains c then .ret (.val d) (hidF q) else .exc c ds q1
    | .bad => .bad
def evSs (K : Calls) : Ss → Fm → SRes
  | .nil, q => .nx q
  | .cons s r, q => match evS K s q with
    | .nx q1 => evSs K r q1
    | x => x
end
structure FDef where
  nps : Nat
  nN : Nat
  body : Ss
structure CDef where
  nps : Nat
  nN : Nat
  pre : Ss
  fs : E
/-- a def that calls what it got, catches: nN names; iv: where the value is stored; ie: the exception's name -/
structure ADef where
  nN : Nat
  iv : Option Nat
  ie : Nat
  rest : Ss
  suite : Ss
structure Tab where
  fn : List (Nat × FDef)
  cn : List (Nat × CDef)
  an : List (Nat × ADef)
def onlyRet : SRes → Res RV
  | .ret (.val d) _ => .ok (.val d) []
  | .ret (.new d) _ => .ok (.new d) []
  | _ => .bad
def runA (K : Calls) (a : ADef) (b : Bool) (d : D) : Res RV :=
  if b then onlyRet (evSs K a.rest (match a.iv with
    | some i => (List.replicate a.nN Slot.no).set i (.sh false d)
    | none => List.replicate a.nN Slot.no))
  else onlyRet (evSs K a.suite ((List.replicate a.nN Slot.no).set a.ie (.sh false d)))
/-- what the caller sees of the parameters -/
def lentBack (n : Nat) (q : Fm) : Fm := (q.take n).map fun s => if s.isBor then s else .no
def noOwA (as : Fm) : Bool := as.all fun s => !s.isOw
/-- a def's own list at its end is a new one, if none was lent -/
def retF (n : Nat) (as : Fm) (r : RV) (q : Fm) : Res RV := match r with
  | .slot i => match q[i]? with
    | some (.ow false d) => if noOwA as then .ok (.new d) (lentBack n (q.set i .no)) else .bad
    | _ => .bad
  | r => .ok r (lentBack n q)
def runF (K : Calls) (d : FDef) (as : Fm) : Res RV :=
  if as.length = d.nps then match evSs K d.body (as ++ List.replicate (d.nN - d.nps) .no) with
    | .nx q => if d.nps ≤ q.length then .ok (.val .non) (lentBack d.nps q) else .bad
    | .ret r q => if d.nps ≤ q.length then retF d.nps as r q else .bad
    | .exc c ds q => .exc c ds (lentBack d.nps (q ++ List.replicate d.nps .no))
    | _ => .bad
  else .bad
/-- slot 0 is self -/
def isPin : Option Slot → Bool
  | some .pin => true
  | _ => false
def evM (K : Calls) (e : E) : Ss → Fm → Res (List D)
  | .nil, q => bindR (ev K e false q) fun r q1 => match r.vd with
    | some d => .ok [d] q1
    | none => .bad
  | .cons s r, q => match evS K s q with
    | .nx q1 => if isPin q1[0]? then evM K e r q1 else .bad
    | .exc c ds q1 => .exc c ds q1
    | _ => .bad
def runM (K : Calls) (d : CDef) (as : Fm) : Res (List D) :=
  if as.length + 1 = d.nps then evM K d.fs d.pre (.pin :: as ++ List.replicate (d.nN - d.nps) .no) else .bad
def calls (t : Tab) : Nat → Calls
  | 0 => ⟨fun _ _ => .bad, fun _ _ => .bad, fun _ _ _ => .bad⟩
  | n + 1 => ⟨fun f as => match t.fn.lookup f with | some d => runF (calls t n) d as | none => .bad, fun c as => match t.cn.lookup c with | some d => runM (calls t n) d as | none => .bad, fun a b d => match t.an.lookup a with | some x => runA (calls t n) x b d | none => .bad⟩
end M

set_option Elab.async false
set_option linter.all false
set_option maxRecDepth 100000
/-! A1: how values stand for data. -/
namespace M
open PySem L2
abbrev Pr := Addr → Prop
abbrev Sg := L2.St
/-! later: what was tracked and is not in R stands as it was; R2 has no more than R but new places; what was tracked is so -/
/-- no table of code objects (these grow where a lambda is made) -/
def NT (o : HO) : Prop := ∀ ps, o ≠ .tbl ps
structure Lat (R : Pr) (H : Hp) (R' : Pr) (H' : Hp) : Prop where
  kp : ∀ b o, H b = some o → ¬ R b → NT o → H' b = some o
  nw : ∀ b, R' b → R b ∨ H b = none
  tr : ∀ b, H b ≠ none → H' b ≠ none
theorem Lat.refl (R : Pr) (H : Hp) : Lat R H R H := ⟨fun _ _ h _ _ => h, fun _ h => .inl h, fun _ h => h⟩
theorem Lat.new {R R' : Pr} {H H' : Hp} (l : Lat R H R' H') {b : Addr} (h : H' b = none) : H b = none := by
  cases e : H b with
  | none => rfl
  | some o => exact absurd h (l.tr b (by rw [e]; exact fun z => nomatch z))
theorem Lat.trans {R R1 R2 : Pr} {H H1 H2 : Hp} (a : Lat R H R1 H1) (b : Lat R1 H1 R2 H2) : Lat R H R2 H2 := by
  refine ⟨fun c o h n t => b.kp c o (a.kp c o h n t) (fun z => ?_) t, fun c z => ?_, fun c z => b.tr c (a.tr c z)⟩
  · rcases a.nw c z with q | q
    · exact n q
    · rw [h] at q; cases q
  · rcases b.nw c z with q | q
    · exact a.nw c q
    · exact .inr (a.new q)
/-- a wider set of places that may not be leant on -/
theorem Lat.more {R R' S : Pr} {H H' : Hp} (a : Lat R H R' H') : Lat (fun b => S b ∨ R b) H (fun b => S b ∨ R' b) H' :=
  ⟨fun b o h n => a.kp b o h fun z => n (.inr z), fun b z => Or.elim z (fun z => .inl (.inl z)) fun z => Or.elim (a.nw b z) (fun z => .inl (.inr z)) .inr, a.tr⟩
theorem Lat.less {R R' R2 : Pr} {H H' : Hp} (a : Lat R H R' H') (h : ∀ b, R2 b → R' b ∨ H b = none) : Lat R H R2 H' :=
  ⟨a.kp, fun b z => Or.elim (h b z) (fun z => a.nw b z) .inr, a.tr⟩
theorem Lat.same {R : Pr} {H H' : Hp} (s : Same H H') : Lat R H R H' := ⟨fun b o h _ _ => s b o h, fun _ h => .inl h, fun b h => by
  cases e : H b with
  | none => exact absurd e h
  | some o => rw [s b o e]; exact fun z => nomatch z⟩
/-- the same heap, fewer places -/
theorem Lat.sub {R R' : Pr} {H : Hp} (h : ∀ b, R' b → R b) : Lat R H R' H := ⟨fun _ _ h _ _ => h, fun b z => .inl (h b z), fun _ h => h⟩

theorem nt_slO (a C dx : Addr) (vs : List (Option V)) : NT (SlX.SlO a C dx vs) := fun ps z => by unfold SlX.SlO at z; cases z
structure Zc where
  K : PySem.W.Frag
  C : Nat → Addr
  xf : Nat → List Str
  nc : Nat
  nx : Nat
  T : List (Addr × Str)

/-- a list (a tuple) that stands and is not written -/
def AtL (K : PySem.W.Frag) (H : Hp) (R : Pr) (a : Addr) (xs : List V) : Prop := (Rd H a (.lst xs) ∧ ¬ R a) ∨
    ∃ (o : Obj) (its : Array Value) (n : Nat), K.lookup a = some o ∧ o.cls = .type "list" ∧ o.dict = none ∧ o.data = .seq its n ∧ its.size ≤ sizeLine ∧ Vals xs its.toList
def AtT (K : PySem.W.Frag) (H : Hp) (R : Pr) (a : Addr) (xs : List V) : Prop := (Rd H a (.tup xs) ∧ ¬ R a) ∨
    ∃ (o : Obj) (its : Array Value) (n : Nat), K.lookup a = some o ∧ o.cls = .type "tuple" ∧ o.data = .seq its n ∧ its.size ≤ sizeLine ∧ Vals xs its.toList
theorem AtL.sq {K : PySem.W.Frag} {H : Hp} {R : Pr} {a : Addr} {xs : List V} (h : AtL K H R a xs) : SqL K H a xs := Or.elim h (fun z => .inl z.1) .inr
theorem AtT.sq {K : PySem.W.Frag} {H : Hp} {R : Pr} {a : Addr} {xs : List V} (h : AtT K H R a xs) : SqT K H a xs := Or.elim h (fun z => .inl z.1) .inr
theorem Rd.lat {R R' : Pr} {H H' : Hp} {a : Addr} {u : HO} (l : Lat R H R' H') (h : Rd H a u) (n : ¬ R a) (nt : NT u) : Rd H' a u ∧ ¬ R' a := by
  rcases h with h | ⟨o, h⟩
  · exact ⟨.inl (l.kp a _ h n nt), fun z => Or.elim (l.nw a z) n fun q => by rw [h] at q; cases q⟩
  · exact ⟨.inr ⟨o, l.kp a _ h n fun _ z => nomatch z⟩, fun z => Or.elim (l.nw a z) n fun q => by rw [h] at q; cases q⟩
theorem AtL.lat {K : PySem.W.Frag} {R R' : Pr} {H H' : Hp} {a : Addr} {xs : List V} (l : Lat R H R' H') (h : AtL K H R a xs) : AtL K H' R' a xs :=
  Or.elim h (fun z => .inl (Rd.lat l z.1 z.2 fun _ z => nomatch z)) .inr
theorem AtT.lat {K : PySem.W.Frag} {R R' : Pr} {H H' : Hp} {a : Addr} {xs : List V} (l : Lat R H R' H') (h : AtT K H R a xs) : AtT K H' R' a xs :=
  Or.elim h (fun z => .inl (Rd.lat l z.1 z.2 fun _ z => nomatch z)) .inr

/-- at a: an exception of the class cls, its own dict d -/
def ExO (a : Addr) (cls : Value) (d : Option Addr) : HO := .ext fun h => ∃ (oe : Obj) (vs : Array Value), h.get? a = some oe ∧ L2.Zc cls d oe ∧ oe.data = .fields vs
theorem nt_exO (a : Addr) (cls : Value) (d : Option Addr) : NT (ExO a cls d) := fun ps z => by unfold ExO at z; cases z
def dctH (kvs : List (Str × Int)) : HO := .dK (kvs.map fun p => ((Sum.inr p.1 : Key), V.int p.2))
def dikH (kvs : List (Int × Str)) : HO := .dK (kvs.map fun p => ((Sum.inl p.1 : Key), V.str p.2))
theorem nt_dikH (kvs : List (Int × Str)) : NT (dikH kvs) := fun ps z => by unfold dikH at z; cases z
theorem nt_dctH (kvs : List (Str × Int)) : NT (dctH kvs) := fun ps z => by unfold dctH at z; cases z
mutual
/-- data as they stand in the heap; dicts (texts to ints) too -/
inductive Dq (K : PySem.W.Frag) (H : Hp) : V → PyData → Prop
  | non : Dq K H .non .none
  | bl (b : Bool) : Dq K H (.bl b) (.bool b)
  | int (i : Int) : Dq K H (.int i) (.int i)
  | str (x : Str) : Dq K H (.str x) (.str x)
  | lst {a : Addr} {xs : List V} {ds : List PyData} : SqL K H a xs → DqAll K H xs ds → Dq K H (.ref a) (.list ds)
  | tup {a : Addr} {xs : List V} {ds : List PyData} : SqT K H a xs → DqAll K H xs ds → Dq K H (.ref a) (.tuple ds)
  | dct {a : Addr} {kvs : List (Str × Int)} : H a = some (dctH kvs) → Dq K H (.ref a) (.dict (kvs.map fun p => (.str p.1, .int p.2)))
inductive DqAll (K : PySem.W.Frag) (H : Hp) : List V → List PyData → Prop
  | nil : DqAll K H [] []
  | cons {v : V} {vs : List V} {d : PyData} {ds : List PyData} : Dq K H v d → DqAll K H vs ds → DqAll K H (v :: vs) (d :: ds)
end
mutual
theorem Dq.plain {K : PySem.W.Frag} {H : Hp} : ∀ {p : PyData} {v : V}, Dq K H v p → p.hasDict = false → Dp K H v p
  | .none, _, h, _ => by cases h; exact .non
  | .bool _, _, h, _ => by cases h; exact .bl _
  | .int _, _, h, _ => by cases h; exact .int _
  | .str _, _, h, _ => by cases h; exact .str _
  | .list ps, _, h, e => by
    cases h with
    | lst a b => simp only [PyData.hasDict] at e; exact .lst a (DqAll.plain b e)
  | .tuple ps, _, h, e => by
    cases h with
    | tup a b => simp only [PyData.hasDict] at e; exact .tup a (DqAll.plain b e)
  | .dict _, _, _, e => by simp only [PyData.hasDict] at e; cases e
theorem DqAll.plain {K : PySem.W.Frag} {H : Hp} : ∀ {ps : List PyData} {vs : List V}, DqAll K H vs ps → PyData.hasDictAll ps = false → DpAll K H vs ps
  | [], _, h, _ => by cases h; exact .nil
  | p :: ps, _, h, e => by
    cases h with
    | cons a b =>
      simp only [PyData.hasDictAll, Bool.or_eq_false_iff] at e
      exact .cons (Dq.plain a e.1) (DqAll.plain b e.2)
end
theorem Dq.shaped {K : PySem.W.Frag} {H : Hp} {p : PyData} {v : V} (h : Dq K H v p) (s : SeqAt.shaped p = true) : Dp K H v p := h.plain (PyData.hasDict_of_canLay p (SeqAt.canLay_of_shaped s))
mutual
inductive Rep (Z : Zc) (H : Hp) (R : Pr) : V → D → Prop
  | non : Rep Z H R .non .non
  | bl (b : Bool) : Rep Z H R (.bl b) (.bl b)
  | int (i : Int) : Rep Z H R (.int i) (.int i)
  | str (x : Str) : Rep Z H R (.str x) (.str x)
  | tup {a : Addr} {xs : List V} {ds : List D} : AtT Z.K H R a xs → RepL Z H R xs ds → Rep Z H R (.ref a) (.tup ds)
  | lst {a : Addr} {xs : List V} {ds : List D} : AtL Z.K H R a xs → RepL Z H R xs ds → Rep Z H R (.ref a) (.lst ds)
  | ins {a dx : Addr} {c : Nat} {xs : List V} {ds : List D} : c < Z.nc → H a = some (SlX.SlO a (Z.C c) dx (xs.map some)) → H dx = some (.xd []) → ¬ R a → ¬ R dx → RepL Z H R xs ds → Rep Z H R (.ref a) (.ins c ds)
  | cls (c : Nat) : Rep Z H R (.ref (Z.C c)) (.cls c)
  | exn {a dx : Addr} {c : Nat} {xs : List V} {ds : List D} : Z.nc ≤ c → c < Z.nx → H a = some (ExO a (.ref (Z.C c)) (some dx)) → H dx = some (.xd ((Z.xf c).zip xs)) → ¬ R a → ¬ R dx → RepL Z H R xs ds → Rep Z H R (.ref a) (.exn c ds)
  | exn0 {a : Addr} {c : Nat} : Z.nc ≤ c → c < Z.nx → H a = some (ExO a (.ref (Z.C c)) none) → ¬ R a → Rep Z H R (.ref a) (.exn c [])
  | dct {a : Addr} {kvs : List (Str × Int)} : H a = some (dctH kvs) → ¬ R a → Rep Z H R (.ref a) (.dct kvs)
  | dik {a : Addr} {kvs : List (Int × Str)} : H a = some (dikH kvs) → ¬ R a → Rep Z H R (.ref a) (.dik kvs)
inductive RepL (Z : Zc) (H : Hp) (R : Pr) : List V → List D → Prop
  | nil : RepL Z H R [] []
  | cons {v : V} {vs : List V} {d : D} {ds : List D} : Rep Z H R v d → RepL Z H R vs ds → RepL Z H R (v :: vs) (d :: ds)
end
section
variable {Z : Zc} {H H' : Hp} {R R' : Pr}
mutual
theorem Rep.lat (l : Lat R H R' H') : ∀ {d : D} {v : V}, Rep Z H R v d → Rep Z H' R' v d
  | .non, _, h => by cases h; exact .non
  | .bl _, _, h => by cases h; exact .bl _
  | .int _, _, h => by cases h; exact .int _
  | .str _, _, h => by cases h; exact .str _
  | .tup ds, _, h => by
    cases h with
    | tup a b => exact .tup (a.lat l) (RepL.lat l b)
  | .lst ds, _, h => by
    cases h with
    | lst a b => exact .lst (a.lat l) (RepL.lat l b)
  | .ins c ds, _, h => by
    cases h with
    | ins h0 h1 h2 n1 n2 b =>
      refine .ins h0 (l.kp _ _ h1 n1 (nt_slO _ _ _ _)) (l.kp _ _ h2 n2 fun _ z => nomatch z) (fun z => ?_) (fun z => ?_) (RepL.lat l b)
      · exact Or.elim (l.nw _ z) n1 fun q => by rw [h1] at q; cases q
      · exact Or.elim (l.nw _ z) n2 fun q => by rw [h2] at q; cases q
  | .cls _, _, h => by cases h; exact .cls _
  | .exn c ds, _, h => by
    cases h with
    | exn c1 c2 h1 h2 n1 n2 b =>
      refine .exn c1 c2 (l.kp _ _ h1 n1 (nt_exO _ _ _)) (l.kp _ _ h2 n2 fun _ z => nomatch z) (fun z => ?_) (fun z => ?_) (RepL.lat l b)
      · exact Or.elim (l.nw _ z) n1 fun q => by rw [h1] at q; cases q
      · exact Or.elim (l.nw _ z) n2 fun q => by rw [h2] at q; cases q
    | exn0 c1 c2 h1 n1 =>
      refine .exn0 c1 c2 (l.kp _ _ h1 n1 (nt_exO _ _ _)) (fun z => ?_)
      exact Or.elim (l.nw _ z) n1 fun q => by rw [h1] at q; cases q
  | .dct kvs, _, h => by
    cases h with
    | dct h1 n1 =>
      refine .dct (l.kp _ _ h1 n1 (nt_dctH _)) (fun z => ?_)
      exact Or.elim (l.nw _ z) n1 fun q => by rw [h1] at q; cases q
  | .dik kvs, _, h => by
    cases h with
    | dik h1 n1 =>
      refine .dik (l.kp _ _ h1 n1 (nt_dikH _)) (fun z => ?_)
      exact Or.elim (l.nw _ z) n1 fun q => by rw [h1] at q; cases q
theorem RepL.lat (l : Lat R H R' H') : ∀ {ds : List D} {vs : List V}, RepL Z H R vs ds → RepL Z H' R' vs ds
  | [], _, h => by cases h; exact .nil
  | d :: ds, _, h => by
    cases h with
    | cons a b => exact .cons (Rep.lat l a) (RepL.lat l b)
end
theorem RepL.length : ∀ {ds : List D} {vs : List V}, RepL Z H R vs ds → vs.length = ds.length
  | [], _, h => by cases h; rfl
  | d :: ds, _, h => by
    cases h with
    | cons a b => rw [List.length_cons, List.length_cons, RepL.length b]
theorem RepL.get : ∀ {ds : List D} {vs : List V} {i : Nat} {d : D}, RepL Z H R vs ds → ds[i]? = some d → ∃ v, vs[i]? = some v ∧ Rep Z H R v d
  | [], _, _, _, h, e => by simp at e
  | d :: ds, _, 0, _, h, e => by
    cases h with
    | cons a b => simp at e; subst e; exact ⟨_, rfl, a⟩
  | d :: ds, _, i + 1, _, h, e => by
    cases h with
    | cons a b =>
      obtain ⟨v, h1, h2⟩ := RepL.get (i := i) b (by simpa using e)
      exact ⟨v, by simpa using h1, h2⟩
theorem RepL.append : ∀ {ds es : List D} {vs ws : List V}, RepL Z H R vs ds → RepL Z H R ws es → RepL Z H R (vs ++ ws) (ds ++ es)
  | [], _, _, _, h, g => by cases h; exact g
  | d :: ds, _, _, _, h, g => by
    cases h with
    | cons a b => exact .cons a (RepL.append b g)
theorem RepL.take : ∀ {ds : List D} {vs : List V} (n : Nat), RepL Z H R vs ds → RepL Z H R (vs.take n) (ds.take n)
  | _, _, 0, _ => .nil
  | [], _, _ + 1, h => by cases h; exact .nil
  | d :: ds, _, n + 1, h => by
    cases h with
    | cons a b => exact .cons a (RepL.take n b)
theorem RepL.drop : ∀ {ds : List D} {vs : List V} (n : Nat), RepL Z H R vs ds → RepL Z H R (vs.drop n) (ds.drop n)
  | _, _, 0, h => h
  | [], _, _ + 1, h => by cases h; exact .nil
  | d :: ds, _, n + 1, h => by
    cases h with
    | cons a b => exact RepL.drop n b
theorem RepL.set {v : V} {d : D} (r : Rep Z H R v d) : ∀ {ds : List D} {vs : List V} (n : Nat), RepL Z H R vs ds → RepL Z H R (vs.set n v) (ds.set n d)
  | [], _, _, h => by cases h; exact .nil
  | d :: ds, _, 0, h => by
    cases h with
    | cons a b => exact .cons r b
  | d :: ds, _, n + 1, h => by
    cases h with
    | cons a b => exact .cons a (RepL.set r n b)
theorem RepL.rep {ds : List D} {vs : List V} (h : RepL Z H R vs ds) : ∀ k : Nat, RepL Z H R (List.replicate k vs).flatten (List.replicate k ds).flatten
  | 0 => .nil
  | k + 1 => by
    rw [List.replicate_succ, List.replicate_succ, List.flatten_cons, List.flatten_cons]
    exact h.append (RepL.rep h k)
theorem RepL.ints : ∀ {ds : List D} {vs : List V} {l : List Int}, RepL Z H R vs ds → intsOf ds = some l → vs = l.map V.int
  | [], _, _, h, e => by cases h; cases e; rfl
  | .int i :: ds, _, l, h, e => by
    cases h with
    | cons a b =>
      cases a
      unfold intsOf at e
      cases q : intsOf ds with
      | none => rw [q] at e; cases e
      | some l' => rw [q] at e; cases e; rw [RepL.ints b q]; rfl
  | .non :: _, _, _, _, e => by cases e
  | .bl _ :: _, _, _, _, e => by cases e
  | .str _ :: _, _, _, _, e => by cases e
  | .tup _ :: _, _, _, _, e => by cases e
  | .lst _ :: _, _, _, _, e => by cases e
  | .ins _ _ :: _, _, _, _, e => by cases e
  | .cls _ :: _, _, _, _, e => by cases e
  | .exn _ _ :: _, _, _, _, e => by cases e
  | .dct _ :: _, _, _, _, e => by cases e
  | .dik _ :: _, _, _, _, e => by cases e
theorem RepL.bls : ∀ {ds : List D} {vs : List V} {l : List Bool}, RepL Z H R vs ds → blsOf ds = some l → vs = l.map V.bl
  | [], _, _, h, e => by cases h; cases e; rfl
  | .bl i :: ds, _, l, h, e => by
    cases h with
    | cons a b =>
      cases a
      unfold blsOf at e
      cases q : blsOf ds with
      | none => rw [q] at e; cases e
      | some l' => rw [q] at e; cases e; rw [RepL.bls b q]; rfl
  | .non :: _, _, _, _, e => by cases e
  | .int _ :: _, _, _, _, e => by cases e
  | .str _ :: _, _, _, _, e => by cases e
  | .tup _ :: _, _, _, _, e => by cases e
  | .lst _ :: _, _, _, _, e => by cases e
  | .ins _ _ :: _, _, _, _, e => by cases e
  | .cls _ :: _, _, _, _, e => by cases e
  | .exn _ _ :: _, _, _, _, e => by cases e
  | .dct _ :: _, _, _, _, e => by cases e
  | .dik _ :: _, _, _, _, e => by cases e

mutual
theorem Rep.dp : ∀ {d : D} {v : V} {p : PyData}, Rep Z H R v d → d.py = some p → Dq Z.K H v p
  | .non, _, _, h, e => by cases h; cases e; exact .non
  | .bl _, _, _, h, e => by cases h; cases e; exact .bl _
  | .int _, _, _, h, e => by cases h; cases e; exact .int _
  | .str _, _, _, h, e => by cases h; cases e; exact .str _
  | .tup ds, _, _, h, e => by
    cases h with
    | tup a b =>
      unfold D.py at e
      cases q : D.pys ds with
      | none => rw [q] at e; cases e
      | some l => rw [q] at e; cases e; exact .tup a.sq (RepL.dp b q)
  | .lst ds, _, _, h, e => by
    cases h with
    | lst a b =>
      unfold D.py at e
      cases q : D.pys ds with
      | none => rw [q] at e; cases e
      | some l => rw [q] at e; cases e; exact .lst a.sq (RepL.dp b q)
  | .ins _ _, _, _, _, e => by unfold D.py at e; cases e
  | .cls _, _, _, _, e => by unfold D.py at e; cases e
  | .exn _ _, _, _, _, e => by unfold D.py at e; cases e
  | .dct kvs, _, _, h, e => by
    cases h with
    | dct h1 n1 => unfold D.py at e; cases e; exact .dct h1
  | .dik _, _, _, _, e => by unfold D.py at e; cases e
theorem RepL.dp : ∀ {ds : List D} {vs : List V} {ps : List PyData}, RepL Z H R vs ds → D.pys ds = some ps → DqAll Z.K H vs ps
  | [], _, _, h, e => by cases h; unfold D.pys at e; cases e; exact .nil
  | d :: ds, _, _, h, e => by
    cases h with
    | cons a b =>
      unfold D.pys at e
      cases q : D.py d with
      | none => rw [q] at e; cases e
      | some p =>
        cases q2 : D.pys ds with
        | none => rw [q, q2] at e; cases e
        | some l => rw [q, q2] at e; cases e; exact .cons (Rep.dp a q) (RepL.dp b q2)
end
end

/-! ### frames -/
/-- the places of the lists that a frame owns -/
def Ow (s : Sg) (q : Fm) : Pr := fun a => ∃ (i : Nat) (b : Bool) (d : D), q[i]? = some (.ow b d) ∧ s[i]? = some (some (.ref a))
def Rt (R0 : Pr) (s : Sg) (q : Fm) : Pr := fun a => R0 a ∨ Ow s q a
/-- an owned list at a -/
def OwnAt (Z : Zc) (H : Hp) (R : Pr) (a : Addr) (d : D) : Prop := ∃ ds xs, d = .lst ds ∧ H a = some (.lst xs) ∧ RepL Z H R xs ds
/-- what the ground leans on: tables, code objects, what is known to the object -/
inductive GO : HO → Prop
  | tbl (ps : Array Value) : GO (.tbl ps)
  | code (c : Addr) (q : Str) : GO (LamX.CodeO c q)
  | frz (o : Obj) (u : HO) : GO (.frz o u)
theorem GO.lst {o : HO} (g : GO o) {xs : List V} (e : o = .lst xs) : False := by
  cases g with
  | tbl ps => cases e
  | code c q => unfold LamX.CodeO at e; cases e
  | frz a b => cases e
theorem GO.ins {o : HO} (g : GO o) {C dx : Addr} {fs : List (Str × V)} (e : o = .ins C dx fs) : False := by
  cases g with
  | tbl ps => cases e
  | code c q => unfold LamX.CodeO at e; cases e
  | frz a b => cases e
theorem GO.own {o : HO} (g : GO o) {x : Addr} (e : o = .own x) : False := by
  cases g with
  | tbl ps => cases e
  | code c q => unfold LamX.CodeO at e; cases e
  | frz a b => cases e
theorem GO.dK {o : HO} (g : GO o) {kvs : List (Key × V)} (e : o = .dK kvs) : False := by
  cases g with
  | tbl ps => cases e
  | code c q => unfold LamX.CodeO at e; cases e
  | frz a b => cases e
theorem GO.xd {o : HO} (g : GO o) {kvs : List (Str × V)} (e : o = .xd kvs) : False := by
  cases g with
  | tbl ps => cases e
  | code c q => unfold LamX.CodeO at e; cases e
  | frz a b => cases e
/-- the ground: the tables; sys.modules is known (so nothing new lies there) -/
structure Grd (Z : Zc) (H : Hp) : Prop where
  t : LamX.Tabs Z.T H
  sy : ∃ o, H sysModules = some (.frz o (.own 0))
  ks : Z.K.lookup sysModules = none
theorem Grd.up {Z : Zc} {H H' : Hp} (g : Grd Z H) (e : ∀ b o, H b = some o → GO o → H' b = some o) : Grd Z H' := by
  refine ⟨fun p hp => ?_, let ⟨o, h⟩ := g.sy; ⟨o, e _ _ h (.frz _ _)⟩, g.ks⟩
  obtain ⟨ps, h1, h2, h3⟩ := g.t p hp
  refine ⟨ps, e _ _ h1 (.tbl _), h2, fun pos cv hc => ?_⟩
  obtain ⟨c, e1, e2⟩ := h3 pos cv hc
  exact ⟨c, e1, e _ _ e2 (.code _ _)⟩
theorem Grd.ext {Z : Zc} {H H' : Hp} (g : Grd Z H) (e : ∀ b o, H b = some o → H' b = some o) : Grd Z H' := g.up fun b o h _ => e b o h
theorem Grd.upd {Z : Zc} {H : Hp} {a : Addr} {xs : List V} {o : HO} (g : Grd Z H) (h : H a = some (.lst xs)) : Grd Z (upd H a o) := g.up fun b u e n => by rw [upd_ne fun z => by rw [z, h] at e; cases e; exact n.lst rfl]; exact e
structure FR (Z : Zc) (R0 : Pr) (s : Sg) (q : Fm) (H : Hp) : Prop where
  len : s.length = q.length
  tb : Grd Z H
  trk : ∀ b, R0 b → H b ≠ none
  sh : ∀ (i : Nat) (b : Bool) (d : D), q[i]? = some (.sh b d) → ∃ v, s[i]? = some (some v) ∧ Rep Z H (Rt R0 s q) v d
  ow : ∀ (i : Nat) (b : Bool) (d : D), q[i]? = some (.ow b d) → ∃ a, s[i]? = some (some (.ref a)) ∧ ¬ R0 a ∧ OwnAt Z H (Rt R0 s q) a d
  sep : ∀ (i j : Nat) (b b' : Bool) (d d' : D) (a : Addr), q[i]? = some (.ow b d) → q[j]? = some (.ow b' d') → s[i]? = some (some (.ref a)) → s[j]? = some (some (.ref a)) → i = j
theorem FR.owT {Z : Zc} {R0 : Pr} {s : Sg} {q : Fm} {H : Hp} (f : FR Z R0 s q H) {a : Addr} (h : Ow s q a) : ∃ xs, H a = some (.lst xs) := by
  obtain ⟨i, b, d, h1, h2⟩ := h
  obtain ⟨a', e, _, ds, xs, _, h3, _⟩ := f.ow i b d h1
  rw [h2] at e; cases e
  exact ⟨xs, h3⟩
theorem FR.rtT {Z : Zc} {R0 : Pr} {s : Sg} {q : Fm} {H : Hp} (f : FR Z R0 s q H) {a : Addr} (h : Rt R0 s q a) : H a ≠ none := by
  rcases h with h | h
  · exact f.trk a h
  · obtain ⟨xs, e⟩ := f.owT h
    rw [e]; exact fun z => nomatch z
theorem OwnAt.lat {Z : Zc} {H H' : Hp} {R R' : Pr} {a : Addr} {d : D} (l : Lat R H R' H') (e : H' a = H a) (h : OwnAt Z H R a d) : OwnAt Z H' R' a d := by
  obtain ⟨ds, xs, h1, h2, h3⟩ := h
  exact ⟨ds, xs, h1, e.trans h2, h3.lat l⟩
/-- fewer places outside -/
theorem FR.fewer {Z : Zc} {R0 R1 : Pr} {s : Sg} {q : Fm} {H : Hp} (f : FR Z R0 s q H) (h : ∀ b, R1 b → R0 b) : FR Z R1 s q H where
  len := f.len
  tb := f.tb
  trk := fun b z => f.trk b (h b z)
  sh := fun i b d e => by
    obtain ⟨v, h1, h2⟩ := f.sh i b d e
    exact ⟨v, h1, h2.lat (Lat.sub fun c z => Or.elim z (fun z => .inl (h c z)) .inr)⟩
  ow := fun i b d e => by
    obtain ⟨a, h1, h2, h3⟩ := f.ow i b d e
    exact ⟨a, h1, fun z => h2 (h a z), h3.lat (Lat.sub fun c z => Or.elim z (fun z => .inl (h c z)) .inr) rfl⟩
  sep := f.sep
/-- the heap goes on, what is owned as it was -/
theorem FR.on {Z : Zc} {R0 R1 : Pr} {s : Sg} {q : Fm} {H H' : Hp} (f : FR Z R0 s q H) (l : Same H H') (h : ∀ b, R1 b → R0 b ∨ H b = none) (ht : ∀ b, R1 b → H' b ≠ none) : FR Z R1 s q H' where
  len := f.len
  tb := f.tb.ext l
  trk := ht
  sh := fun i b d e => by
    obtain ⟨v, h1, h2⟩ := f.sh i b d e
    exact ⟨v, h1, h2.lat ((Lat.same l).less fun c z => Or.elim z (fun z => Or.elim (h c z) (fun z => .inl (.inl z)) .inr) fun z => .inl (.inr z))⟩
  ow := fun i b d e => by
    obtain ⟨a, h1, h2, ds, xs, h3, h4, h5⟩ := f.ow i b d e
    refine ⟨a, h1, fun z => Or.elim (h a z) h2 (fun q => by rw [h4] at q; cases q), ds, xs, h3, l _ _ h4, h5.lat ((Lat.same l).less fun c z => Or.elim z (fun z => Or.elim (h c z) (fun z => .inl (.inl z)) .inr) fun z => .inl (.inr z))⟩
  sep := f.sep
/-- all but x and dx (and tables) stands -/
structure KpN (H H' : Hp) (x dx : Addr) : Prop where
  kp : ∀ b o, H b = some o → b ≠ x → b ≠ dx → NT o → H' b = some o
  tr : ∀ b, H b ≠ none → H' b ≠ none
end M

set_option Elab.async false
set_option linter.all false
set_option maxRecDepth 100000
/-! A2: readings. -/
namespace M
open PySem L2

def XRep (Z : Zc) (H : Hp) (R : Pr) (c : Nat) (ds : List D) (d : Option Addr) : Prop := Z.nc ≤ c ∧ c < Z.nx ∧ match d with
  | some d => ∃ vs, H d = some (.xd ((Z.xf c).zip vs)) ∧ RepL Z H R vs ds ∧ ¬ R d
  | none => ds = []
theorem XRep.lat {Z : Zc} {H H' : Hp} {R R' : Pr} {c : Nat} {ds : List D} (l : Lat R H R' H') {d : Option Addr} (h : XRep Z H R c ds d) : XRep Z H' R' c ds d := by
  obtain ⟨c1, c2, h⟩ := h
  refine ⟨c1, c2, ?_⟩
  cases d with
  | none => exact h
  | some d =>
    obtain ⟨vs, h1, h2, h3⟩ := h
    exact ⟨vs, l.kp _ _ h1 h3 (fun _ z => nomatch z), h2.lat l, fun z => Or.elim (l.nw _ z) h3 fun q => by rw [h1] at q; cases q⟩
def bor (q : Fm) (i : Nat) : Prop := ∃ s, q[i]? = some s ∧ s.isBor = true
def BK (q q' : Fm) : Prop := ∀ i, bor q' i → bor q i
theorem BK.refl (q : Fm) : BK q q := fun _ h => h
theorem BK.trans {q q1 q2 : Fm} (a : BK q q1) (b : BK q1 q2) : BK q q2 := fun i h => a i (b i h)

/-- what is wanted of an answer -/
def An {α W : Type} (Z : Zc) (E : XK) (R0 : Pr) (s : Sg) (q : Fm) (H : Hp) (Po : Fm → Hp → W → α → Prop) (Q : W → Hp → Prop) : Res α → Prop
  | .ok a q' => ∀ w H', Lat (Ow s q) H (Ow s q') H' → BK q q' → Po q' H' w a → Q w H'
  | .exc c ds q' => ∀ d H', Lat (Ow s q) H (Ow s q') H' → BK q q' → FR Z R0 s q' H' → XRep Z H' (Rt R0 s q') c ds d → E (.ref (Z.C c)) d H'
  | .bad => False
/-- the reading of a computation over frames -/
def TR {α W : Type} (Z : Zc) (E : XK) (f : Fm → Res α) (Po : Pr → Sg → Hp → Fm → Hp → W → α → Prop) : Sg → Hp → (W → Hp → Prop) → Prop := fun s H Q =>
  ∃ (R0 : Pr) (q : Fm), FR Z R0 s q H ∧ An Z E R0 s q H (Po R0 s H) Q (f q)
/-- more places outside -/
def P1 (R0 : Pr) (a : Addr) : Pr := fun b => R0 b ∨ b = a
def PoV (Z : Zc) (R0 : Pr) (s : Sg) (H : Hp) (q' : Fm) (H' : Hp) (w : V) : RV → Prop
  | .val d => FR Z R0 s q' H' ∧ Rep Z H' (Rt R0 s q') w d
  | .new d => ∃ a, w = .ref a ∧ H a = none ∧ FR Z (P1 R0 a) s q' H' ∧ OwnAt Z H' (Rt (P1 R0 a) s q') a d
  | .slot i => FR Z R0 s q' H' ∧ s[i]? = some (some w) ∧ ∃ b d, q'[i]? = some (.ow b d)
def RepR (Z : Zc) (H : Hp) (R0 : Pr) (s : Sg) (q : Fm) (w : V) : RV → Prop
  | .val d => Rep Z H (Rt R0 s q) w d
  | .new _ => False
  | .slot i => s[i]? = some (some w)
def RepRs (Z : Zc) (H : Hp) (R0 : Pr) (s : Sg) (q : Fm) : List V → List RV → Prop
  | [], [] => True
  | w :: ws, r :: rs => RepR Z H R0 s q w r ∧ RepRs Z H R0 s q ws rs
  | _, _ => False
def PoVs (Z : Zc) (R0 : Pr) (s : Sg) (H : Hp) (q' : Fm) (H' : Hp) (ws : List V) (rs : List RV) : Prop := FR Z R0 s q' H' ∧ RepRs Z H' R0 s q' ws rs
def PoL (Z : Zc) (R0 : Pr) (s : Sg) (H : Hp) (q' : Fm) (H' : Hp) (ws : List V) (ds : List D) : Prop := FR Z R0 s q' H' ∧ RepL Z H' (Rt R0 s q') ws ds
def PoB (Z : Zc) (R0 : Pr) (s : Sg) (H : Hp) (q' : Fm) (H' : Hp) (w : Bool) (b : Bool) : Prop := FR Z R0 s q' H' ∧ w = b

theorem lat_rt {R0 : Pr} {s : Sg} {q q' : Fm} {H H' : Hp} (l : Lat (Ow s q) H (Ow s q') H') : Lat (Rt R0 s q) H (Rt R0 s q') H' := l.more
theorem RepR.lat {Z : Zc} {H H' : Hp} {R0 : Pr} {s : Sg} {q q' : Fm} {w : V} {r : RV} (l : Lat (Ow s q) H (Ow s q') H') (h : RepR Z H R0 s q w r) : RepR Z H' R0 s q' w r := by
  cases r with
  | val d => exact Rep.lat (lat_rt l) h
  | new d => exact h
  | slot i => exact h
theorem RepRs.lat {Z : Zc} {H H' : Hp} {R0 : Pr} {s : Sg} {q q' : Fm} (l : Lat (Ow s q) H (Ow s q') H') : ∀ {ws : List V} {rs : List RV}, RepRs Z H R0 s q ws rs → RepRs Z H' R0 s q' ws rs
  | [], [], _ => True.intro
  | w :: ws, r :: rs, h => ⟨RepR.lat l h.1, RepRs.lat l h.2⟩
  | [], _ :: _, h => h.elim
  | _ :: _, [], h => h.elim
/-- a new list taken as a shared one -/
theorem new_down {Z : Zc} {R0 : Pr} {s : Sg} {q' : Fm} {H H' : Hp} {a : Addr} {d : D} (ht : ∀ b, R0 b → H b ≠ none) (hn : H a = none) (f : FR Z (P1 R0 a) s q' H') (o : OwnAt Z H' (Rt (P1 R0 a) s q') a d) :
    FR Z R0 s q' H' ∧ Rep Z H' (Rt R0 s q') (.ref a) d := by
  refine ⟨f.fewer fun b z => .inl z, ?_⟩
  obtain ⟨ds, xs, e, h1, h2⟩ := o
  subst e
  refine .lst (.inl ⟨.inl h1, fun z => ?_⟩) (h2.lat (Lat.sub fun c z => Or.elim z (fun z => .inl (.inl z)) .inr))
  rcases z with z | ⟨i, b, d, z1, z2⟩
  · exact ht a z hn
  · obtain ⟨a', e1, n, _⟩ := f.ow i b d z1
    rw [z2] at e1; cases e1
    exact n (.inr rfl)
theorem PoV.down {Z : Zc} {R0 : Pr} {s : Sg} {q q' : Fm} {H H' : Hp} {w : V} {r : RV} (f0 : FR Z R0 s q H) (h : PoV Z R0 s H q' H' w r) : FR Z R0 s q' H' ∧ RepR Z H' R0 s q' w r.down := by
  cases r with
  | val d => exact h
  | new d =>
    obtain ⟨a, rfl, hn, f, o⟩ := h
    exact new_down f0.trk hn f o
  | slot i => exact ⟨h.1, h.2.1⟩
theorem PoV.vd {Z : Zc} {R0 : Pr} {s : Sg} {q q' : Fm} {H H' : Hp} {w : V} {r : RV} {d : D} (f0 : FR Z R0 s q H) (h : PoV Z R0 s H q' H' w r) (e : r.vd = some d) : FR Z R0 s q' H' ∧ Rep Z H' (Rt R0 s q') w d := by
  cases r with
  | val d => cases e; exact h
  | new d =>
    cases e
    obtain ⟨a, rfl, hn, f, o⟩ := h
    exact new_down f0.trk hn f o
  | slot i => cases e
section
variable {α β W W2 : Type} {Z : Zc} {E : XK} {s : Sg} {H : Hp} {R0 : Pr} {q q1 : Fm}
theorem An.mono {Po Po' : Fm → Hp → W → α → Prop} {Q Q' : W → Hp → Prop} : ∀ {r : Res α}, An Z E R0 s q H Po Q r → (∀ q' w H' a, r = .ok a q' → Lat (Ow s q) H (Ow s q') H' → BK q q' → Po' q' H' w a → (Po q' H' w a → Q w H') → Q' w H') → An Z E R0 s q H Po' Q' r
  | .ok a q', h, m => fun w H' l b p => m q' w H' a rfl l b p fun p => h w H' l b p
  | .exc c ds q', h, _ => h
  | .bad, h, _ => h
theorem TR.mono {f : Fm → Res α} {Po : Pr → Sg → Hp → Fm → Hp → W → α → Prop} {Q Q' : W → Hp → Prop} (h : TR Z E f Po s H Q) (m : ∀ w H, Q w H → Q' w H) : TR Z E f Po s H Q' := by
  obtain ⟨R0, q, f0, h⟩ := h
  exact ⟨R0, q, f0, h.mono fun _ _ _ _ _ _ _ p k => m _ _ (k p)⟩
/-- from a later start -/
theorem An.late {Po Po' : Fm → Hp → W → α → Prop} {Q : W → Hp → Prop} {H1 : Hp} (l : Lat (Ow s q) H (Ow s q1) H1) (b : BK q q1) (hp : ∀ q2 H2 w a, Lat (Ow s q1) H1 (Ow s q2) H2 → Po' q2 H2 w a → Po q2 H2 w a) :
    ∀ {r : Res α}, An Z E R0 s q H Po Q r → An Z E R0 s q1 H1 Po' Q r
  | .ok a q', h => fun w H' l2 b2 p => h w H' (l.trans l2) (b.trans b2) (hp q' H' w a l2 p)
  | .exc c ds q', h => fun d H' l2 b2 f x => h d H' (l.trans l2) (b.trans b2) f x
  | .bad, h => h
theorem An.bind {g : α → Fm → Res β} {Po : Fm → Hp → W → α → Prop} {Po2 : Fm → Hp → W2 → β → Prop} {Q : W2 → Hp → Prop} {Q1 : W → Hp → Prop} : ∀ {r : Res α}, An Z E R0 s q H Po2 Q (bindR r g) →
    (∀ q1 w H1 a, r = .ok a q1 → Lat (Ow s q) H (Ow s q1) H1 → BK q q1 → Po q1 H1 w a → An Z E R0 s q H Po2 Q (g a q1) → Q1 w H1) → An Z E R0 s q H Po Q1 r
  | .ok a q1, h, k => fun w H1 l b p => k q1 w H1 a rfl l b p h
  | .exc c ds q', h, _ => h
  | .bad, h, _ => h
/-- two in a row -/
theorem TR.bind {f : Fm → Res α} {g : α → Fm → Res β} {Po : Pr → Sg → Hp → Fm → Hp → W → α → Prop} {Po2 : Pr → Sg → Hp → Fm → Hp → W2 → β → Prop} {Q : W2 → Hp → Prop} {Q1 : W → Hp → Prop}
    (h : TR Z E (fun q => bindR (f q) g) Po2 s H Q)
    (k : ∀ (R0 : Pr) (q q1 : Fm) (a : α) (w : W) (H1 : Hp), FR Z R0 s q H → Lat (Ow s q) H (Ow s q1) H1 → BK q q1 → Po R0 s H q1 H1 w a → An Z E R0 s q H (Po2 R0 s H) Q (g a q1) → Q1 w H1) : TR Z E f Po s H Q1 := by
  obtain ⟨R0, q, f0, h⟩ := h
  exact ⟨R0, q, f0, h.bind fun q1 w H1 a _ l b p z => k R0 q q1 a w H1 f0 l b p z⟩
end
/-- a value's post holds of an earlier start too -/
theorem PoV.early {Z : Zc} {R0 : Pr} {s : Sg} {q q1 q' : Fm} {H H1 H' : Hp} {w : V} {r : RV} (l : Lat (Ow s q) H (Ow s q1) H1) (h : PoV Z R0 s H1 q' H' w r) : PoV Z R0 s H q' H' w r := by
  cases r with
  | val d => exact h
  | new d =>
    obtain ⟨a, e, hn, f, o⟩ := h
    exact ⟨a, e, l.new hn, f, o⟩
  | slot i => exact h
/-- the readings of the tree's parts -/
def tE (Z : Zc) (K : Calls) (ex : XK) (e : E) (pk : Bool) : TE := TR Z ex (ev K e pk) (PoV Z)
def tEs (Z : Zc) (K : Calls) (ex : XK) (e : Es) : TA := TR Z ex (evs K e) (PoVs Z)
def tT (Z : Zc) (K : Calls) (ex : XK) (t : T) : TT := TR Z ex (evT K t) (PoB Z)
def tA (Z : Zc) (K : Calls) (ex : XK) (e : As) : TA := TR Z ex (evA K e) (PoL Z)
section
variable {Z : Zc} {K : Calls} {ex : XK} {s : Sg} {H : Hp}
theorem tEs_nil {Q : List V → Hp → Prop} (h : tEs Z K ex .nil s H Q) : Q [] H := by
  obtain ⟨R0, q, f0, h⟩ := h
  unfold evs at h
  exact h [] H (Lat.refl _ _) (BK.refl _) ⟨f0, True.intro⟩
theorem tEs_cons {e : E} {r : Es} {Q : List V → Hp → Prop} (h : tEs Z K ex (.cons e r) s H Q) : tE Z K ex e true s H fun x H1 => tEs Z K ex r s H1 fun xs H2 => Q (x :: xs) H2 := by
  unfold tEs at h
  simp only [show evs K (.cons e r) = fun q => bindR (ev K e true q) fun x q1 => bindR (evs K r q1) fun xs q2 => .ok (x.down :: xs) q2 from rfl] at h
  refine TR.bind h fun R0 q q1 a w H1 f0 l b p z => ?_
  obtain ⟨f1, p1⟩ := p.down f0
  refine ⟨R0, q1, f1, (An.late (Po' := PoVs Z R0 s H1) l b (fun _ _ _ _ _ p => p) z).bind fun q2 ws H2 rs _ l2 b2 p2 z2 => ?_⟩
  exact z2 (w :: ws) H2 l2 b2 ⟨p2.1, RepR.lat l2 p1, p2.2⟩
theorem tA_nil {Q : List V → Hp → Prop} (h : tA Z K ex .nil s H Q) : Q [] H := by
  obtain ⟨R0, q, f0, h⟩ := h
  unfold evA at h
  exact h [] H (Lat.refl _ _) (BK.refl _) ⟨f0, .nil⟩
theorem tA_one {e : E} {r : As} {Q : List V → Hp → Prop} (h : tA Z K ex (.one e r) s H Q) : tE Z K ex e false s H fun x H1 => tA Z K ex r s H1 fun xs H2 => Q (x :: xs) H2 := by
  unfold tA at h
  rw [show evA K (.one e r) = fun q => bindR (ev K e false q) fun x q1 => match x.vd with
    | some d => bindR (evA K r q1) fun ds q2 => .ok (d :: ds) q2
    | none => .bad from rfl] at h
  refine TR.bind h fun R0 q q1 a w H1 f0 l b p z => ?_
  cases e1 : a.vd with
  | none => rw [e1] at z; exact z.elim
  | some d =>
    rw [e1] at z
    obtain ⟨f1, p1⟩ := p.vd f0 e1
    refine ⟨R0, q1, f1, (An.late (Po' := PoL Z R0 s H1) l b (fun _ _ _ _ _ p => p) z).bind fun q2 ws H2 rs _ l2 b2 p2 z2 => ?_⟩
    exact z2 (w :: ws) H2 l2 b2 ⟨p2.1, .cons (p1.lat (lat_rt l2)) p2.2⟩
/-- an operand's data as they stand -/
theorem RepR.at_ {R0 : Pr} {q : Fm} {w : V} {r : RV} {d : D} (f : FR Z R0 s q H) (h : RepR Z H R0 s q w r) (e : r.at_ q = some d) : (∃ ds a xs, d = .lst ds ∧ w = .ref a ∧ SqL Z.K H a xs ∧ RepL Z H (Rt R0 s q) xs ds ∧ (∃ i b, r = .slot i ∧ q[i]? = some (.ow b d) ∧ H a = some (.lst xs))) ∨ Rep Z H (Rt R0 s q) w d := by
  cases r with
  | val d' => cases e; exact .inr h
  | new d' => exact h.elim
  | slot i =>
    unfold RV.at_ at e
    cases hq : q[i]? with
    | none => simp only [hq] at e; cases e
    | some t =>
      cases t with
      | no => simp only [hq] at e; cases e
      | pin => simp only [hq] at e; cases e
      | sh b x =>
        simp only [hq] at e; cases e
        obtain ⟨v, h1, h2⟩ := f.sh i b _ hq
        rw [show s[i]? = some (some w) from h] at h1; cases h1
        exact .inr h2
      | ow b x =>
        simp only [hq] at e; cases e
        obtain ⟨a, h1, _, ds, xs, e2, h2, h3⟩ := f.ow i b _ hq
        rw [show s[i]? = some (some w) from h] at h1; cases h1
        exact .inl ⟨ds, a, xs, e2, rfl, SqL.of h2, h3, i, b, rfl, hq, h2⟩
end
end M

set_option Elab.async false
set_option linter.all false
set_option maxRecDepth 100000
/-! A3: the primitives. -/
namespace M
open PySem L2 PyProof.Rows

/-- an operand as it is read -/
def RepP (Z : Zc) (H : Hp) (R : Pr) (v : V) (d : D) : Prop := Rep Z H R v d ∨ ∃ ds a xs, d = .lst ds ∧ v = .ref a ∧ H a = some (.lst xs) ∧ RepL Z H R xs ds
def RepPs (Z : Zc) (H : Hp) (R : Pr) : List V → List D → Prop
  | [], [] => True
  | w :: ws, d :: ds => RepP Z H R w d ∧ RepPs Z H R ws ds
  | _, _ => False
def RepN (Z : Zc) (H H' : Hp) (R : Pr) (w : V) : Bool → D → Prop
  | false, d => Rep Z H' R w d
  | true, d => ∃ a xs ds Hm, w = .ref a ∧ d = .lst ds ∧ Same H Hm ∧ Same Hm H' ∧ Hm a = none ∧ H' a = some (.lst xs) ∧ RepL Z Hm R xs ds
def PrimPost (Z : Zc) (p : P) (vs : List V) (H : Hp) (Q : VK) : Prop := ∃ (R : Pr) (ds : List D), (Grd Z H ∧ ∀ b, R b → H b ≠ none) ∧ RepPs Z H R vs ds ∧
  ∃ nw d, evP p ds = some (nw, d) ∧ ∀ w H', Same H H' → RepN Z H H' R w nw d → Q w H'
section
variable {Z : Zc} {K : Calls} {ex : XK} {s : Sg} {H : Hp} {R : Pr}
theorem RepR.atP {R0 : Pr} {q : Fm} {w : V} {r : RV} {d : D} (f : FR Z R0 s q H) (h : RepR Z H R0 s q w r) (e : r.at_ q = some d) : RepP Z H (Rt R0 s q) w d := by
  rcases RepR.at_ f h e with ⟨ds, a, xs, e1, e2, _, h2, _, _, _, _, h3⟩ | h
  · exact .inr ⟨ds, a, xs, e1, e2, h3, h2⟩
  · exact .inl h
theorem RepRs.atPs {R0 : Pr} {q : Fm} (f : FR Z R0 s q H) : ∀ {ws : List V} {rs : List RV} {ds : List D}, RepRs Z H R0 s q ws rs → atAll q rs = some ds → RepPs Z H (Rt R0 s q) ws ds
  | [], [], _, _, e => by cases e; exact True.intro
  | w :: ws, r :: rs, ds, h, e => by
    unfold atAll at e
    cases e1 : r.at_ q with
    | none => rw [e1] at e; cases e
    | some d =>
      cases e2 : atAll q rs with
      | none => rw [e1, e2] at e; cases e
      | some ds' =>
        rw [e1, e2] at e; cases e
        exact ⟨RepR.atP f h.1 e1, RepRs.atPs f h.2 e2⟩
  | [], _ :: _, _, h, _ => h.elim
  | _ :: _, [], _, h, _ => h.elim
theorem prim_an {p : P} {Q : VK} {R0 : Pr} {q q1 : Fm} {H1 : Hp} {ws : List V} {a : List RV} (l : Lat (Ow s q) H (Ow s q1) H1) (b : BK q q1) (f1 : FR Z R0 s q1 H1) (p1 : RepRs Z H1 R0 s q1 ws a) (z : An Z ex R0 s q H (PoV Z R0 s H) Q (primR p a q1)) : PrimPost Z p ws H1 Q := by
  unfold primR at z
  cases e1 : atAll q1 a with
  | none => rw [e1] at z; exact z.elim
  | some ds =>
    rw [e1] at z
    dsimp only at z
    cases e2 : evP p ds with
    | none => rw [e2] at z; exact z.elim
    | some nd =>
      obtain ⟨nw, d⟩ := nd
      rw [e2] at z
      refine ⟨Rt R0 s q1, ds, ⟨f1.tb, fun b hb => f1.rtT hb⟩, RepRs.atPs f1 p1 e1, nw, d, e2, fun w H' sm rn => ?_⟩
      have l2 : Lat (Ow s q) H (Ow s q1) H' := l.trans (Lat.same sm)
      have trk2 : ∀ b, R0 b → H' b ≠ none := fun b hb => (Lat.same (R := Ow s q) sm).tr b (f1.trk b hb)
      cases nw with
      | false => exact z w H' l2 b ⟨f1.on sm (fun _ h => .inl h) trk2, rn⟩
      | true =>
        obtain ⟨a', xs, ds', Hm, rfl, rfl, s1, s2, hn, ha, rl⟩ := rn
        have hn1 : H1 a' = none := s1.free hn
        refine z (.ref a') H' l2 b ⟨a', rfl, l.new hn1, f1.on sm (fun b hb => Or.elim hb .inl fun e => .inr (e ▸ hn1)) (fun b hb => Or.elim hb (fun hb => trk2 b hb) fun e => ?_), ds', xs, rfl, ha, rl.lat ((Lat.same s2).less fun b hb => ?_)⟩
        · rw [e, ha]; exact fun z => nomatch z
        · rcases hb with (hb | hb) | hb
          · exact .inl (.inl hb)
          · exact .inr (hb ▸ hn)
          · exact .inl (.inr hb)
theorem tE_prm {p : P} {es : Es} {pk : Bool} {Q : VK} (h : tE Z K ex (.prm p es) pk s H Q) : tEs Z K ex es s H fun vs H1 => PrimPost Z p vs H1 Q := by
  unfold tE at h
  rw [show ev K (.prm p es) pk = fun q => bindR (evs K es q) fun rs q1 => primR p rs q1 from rfl] at h
  exact TR.bind h fun R0 q q1 a ws H1 f0 l b pp z => prim_an l b pp.1 pp.2 z
end
end M

set_option Elab.async false
set_option linter.all false
set_option maxRecDepth 100000
/-! A4: each primitive by its rule. -/
namespace M
open PySem L2 PyProof.Rows
section
variable {Z : Zc} {H : Hp} {R : Pr} {v x y : V} {Q : VK}
theorem RepP.int {i : Int} (h : RepP Z H R v (.int i)) : v = .int i := by
  rcases h with h | ⟨_, _, _, e, _⟩
  · cases h; rfl
  · cases e
theorem RepP.bl {b : Bool} (h : RepP Z H R v (.bl b)) : v = .bl b := by
  rcases h with h | ⟨_, _, _, e, _⟩
  · cases h; rfl
  · cases e
theorem RepP.str {z : Str} (h : RepP Z H R v (.str z)) : v = .str z := by
  rcases h with h | ⟨_, _, _, e, _⟩
  · cases h; rfl
  · cases e
theorem RepP.non (h : RepP Z H R v .non) : v = .non := by
  rcases h with h | ⟨_, _, _, e, _⟩
  · cases h; rfl
  · cases e
theorem RepP.lst {ds : List D} (h : RepP Z H R v (.lst ds)) : ∃ a xs, v = .ref a ∧ SqL Z.K H a xs ∧ RepL Z H R xs ds := by
  rcases h with h | ⟨ds', a, xs, e, e2, h1, h2⟩
  · cases h with
    | lst a b => exact ⟨_, _, rfl, a.sq, b⟩
  · cases e; exact ⟨a, xs, e2, SqL.of h1, h2⟩
theorem RepP.tup {ds : List D} (h : RepP Z H R v (.tup ds)) : ∃ a xs, v = .ref a ∧ AtT Z.K H R a xs ∧ RepL Z H R xs ds := by
  rcases h with h | ⟨_, _, _, e, _⟩
  · cases h with
    | tup a b => exact ⟨_, _, rfl, a, b⟩
  · cases e
theorem RepP.ins {c : Nat} {fs : List D} (h : RepP Z H R v (.ins c fs)) : Rep Z H R v (.ins c fs) := by
  rcases h with h | ⟨_, _, _, e, _⟩
  · exact h
  · cases e
theorem RepP.dp {d : D} {p : PyData} (h : RepP Z H R v d) (e : d.py = some p) : Dq Z.K H v p := by
  rcases h with h | ⟨ds, a, xs, rfl, rfl, h1, h2⟩
  · exact h.dp e
  · unfold D.py at e
    cases q : D.pys ds with
    | none => rw [q] at e; cases e
    | some l => rw [q] at e; cases e; exact .lst (SqL.of h1) (h2.dp q)
theorem repPs1 {ds : List D} (h : RepPs Z H R [x] ds) : ∃ d, ds = [d] ∧ RepP Z H R x d := by
  cases ds with
  | nil => exact h.elim
  | cons d r =>
    cases r with
    | nil => exact ⟨d, rfl, h.1⟩
    | cons _ _ => exact h.2.elim
theorem repPs2 {ds : List D} (h : RepPs Z H R [x, y] ds) : ∃ d e, ds = [d, e] ∧ RepP Z H R x d ∧ RepP Z H R y e := by
  cases ds with
  | nil => exact h.elim
  | cons d r =>
    obtain ⟨e, rfl, h2⟩ := repPs1 h.2
    exact ⟨d, e, rfl, h.1, h2⟩
theorem opI_inv {f : Int → Int → Option Int} {ds : List D} {nw : Bool} {d : D} (h : opI f ds = some (nw, d)) : ∃ a b c, ds = [.int a, .int b] ∧ f a b = some c ∧ nw = false ∧ d = .int c := by
  unfold opI at h
  split at h
  · rename_i a b
    cases e : f a b with
    | none => rw [e] at h; cases h
    | some c => rw [e] at h; cases h; exact ⟨a, b, c, rfl, e, rfl, rfl⟩
  · cases h
theorem cmpI_inv {f : Int → Int → Bool} {ds : List D} {nw : Bool} {d : D} (h : cmpI f ds = some (nw, d)) : ∃ a b, ds = [.int a, .int b] ∧ nw = false ∧ d = .bl (f a b) := by
  unfold cmpI at h
  split at h
  · cases h; exact ⟨_, _, rfl, rfl, rfl⟩
  · cases h
/-- two ints by a function -/
theorem pr_opI {p : P} {f : Int → Int → Option Int} (hp : evP p = opI f) {C : Int → Int → Prop} {g : Int → Int → Int} (hc : ∀ a b c, f a b = some c → C a b ∧ c = g a b) (h : PrimPost Z p [x, y] H Q) : rI C (fun i j => .int (g i j)) x y H Q := by
  obtain ⟨R, ds, ht, hr, nw, d, e, k⟩ := h
  rw [hp] at e
  obtain ⟨a, b, c, rfl, e2, rfl, rfl⟩ := opI_inv e
  obtain ⟨d1, d2, e3, r1, r2⟩ := repPs2 hr
  cases e3
  obtain ⟨h1, rfl⟩ := hc a b c e2
  exact ⟨a, b, r1.int, r2.int, h1, k _ H (Same.refl H) (.int _)⟩
theorem pr_cmpI {p : P} {f : Int → Int → Bool} (hp : evP p = cmpI f) (h : PrimPost Z p [x, y] H Q) : rI0 (fun i j => .bl (f i j)) x y H Q := by
  obtain ⟨R, ds, ht, hr, nw, d, e, k⟩ := h
  rw [hp] at e
  obtain ⟨a, b, rfl, rfl, rfl⟩ := cmpI_inv e
  obtain ⟨d1, d2, e3, r1, r2⟩ := repPs2 hr
  cases e3
  exact ⟨a, b, r1.int, r2.int, k _ H (Same.refl H) (.bl _)⟩
theorem pr_mod (h : PrimPost Z .mod [x, y] H Q) : rI (fun _ j => j ≠ 0) (fun i j => .int (i.fmod j)) x y H Q := pr_opI (p := .mod) (g := fun i j => i.fmod j) rfl (fun a b c e => by
  split at e
  · rename_i hb; exact ⟨hb, (Option.some.inj e).symm⟩
  · cases e) h
def CDivM (i j : Int) : Prop := j ≠ 0 ∧ (j.natAbs.log2 < 9000 ∨ i.natAbs.log2 < j.natAbs.log2 + 4400)
theorem noPy {x y : Int} (h : y ≠ 0) (k : y.natAbs.log2 < 9000 ∨ x.natAbs.log2 < y.natAbs.log2 + 4400) : Builtin.divisionGoesByPylong x y = false := by
  rcases k with k | k
  · exact PyProof.noPylong_of_log2 k
  · have dx : (if x == 0 then 0 else x.natAbs.log2 / 30 + 1) ≤ x.natAbs.log2 / 30 + 1 := by split <;> omega
    have dy : (if y == 0 then 0 else y.natAbs.log2 / 30 + 1) = y.natAbs.log2 / 30 + 1 := by rw [if_neg (by simpa using h)]
    show (_ && decide ((if x == 0 then 0 else x.natAbs.log2 / 30 + 1) > (if y == 0 then 0 else y.natAbs.log2 / 30 + 1) + 150)) = false
    rw [Bool.and_eq_false_iff]
    exact .inr (decide_eq_false (by rw [dy]; omega))
theorem op_fdivM {X : Cx} : OpR X (binaryOp .FloorDiv) (rI CDivM fun i j => .int (i.fdiv j)) := L2.opI fun i j _ _ _ _ _ hc q => floordiv_int hc.1 q (.inl (noPy hc.1 hc.2))
theorem pr_fdiv (h : PrimPost Z .fdiv [x, y] H Q) : rI CDivM (fun i j => .int (i.fdiv j)) x y H Q := pr_opI (p := .fdiv) (g := fun i j => i.fdiv j) rfl (fun a b c e => by
  split at e
  · rename_i hb; exact ⟨hb, (Option.some.inj e).symm⟩
  · cases e) h
theorem pr_pow (h : PrimPost Z .pow [x, y] H Q) : rI CPow (fun i j => .int (i ^ j.toNat)) x y H Q := pr_opI (p := .pow) (g := fun i j => i ^ j.toNat) rfl (fun a b c e => by
  split at e
  · rename_i hb; exact ⟨hb, (Option.some.inj e).symm⟩
  · cases e) h
theorem pr_max2 (h : PrimPost Z .max2 [x, y] H Q) : ∃ i j, [x, y] = [.int i, .int j] ∧ Q (.int (if j > i then j else i)) H := by
  obtain ⟨i, j, rfl, rfl, _, q⟩ := pr_opI (p := .max2) (C := fun _ _ => True) (g := fun i j => if j > i then j else i) rfl (fun a b c e => ⟨trivial, (Option.some.inj e).symm⟩) h
  exact ⟨i, j, rfl, q⟩
theorem pr_min2 (h : PrimPost Z .min2 [x, y] H Q) : ∃ i j, [x, y] = [.int i, .int j] ∧ Q (.int (if j < i then j else i)) H := by
  obtain ⟨i, j, rfl, rfl, _, q⟩ := pr_opI (p := .min2) (C := fun _ _ => True) (g := fun i j => if j < i then j else i) rfl (fun a b c e => ⟨trivial, (Option.some.inj e).symm⟩) h
  exact ⟨i, j, rfl, q⟩
theorem pr_neg (h : PrimPost Z .neg [x] H Q) : rU (fun i => .int (-i)) x H Q := by
  obtain ⟨R, ds, ht, hr, nw, d, e, k⟩ := h
  obtain ⟨d1, rfl, r1⟩ := repPs1 hr
  cases d1 <;> first | cases e | skip
  rename_i i
  exact ⟨i, r1.int, k _ H (Same.refl H) (.int _)⟩
theorem pr_abs (h : PrimPost Z .abs [x] H Q) : ∃ i, [x] = [V.int i] ∧ Q (.int (if i < 0 then -i else i)) H := by
  obtain ⟨R, ds, ht, hr, nw, d, e, k⟩ := h
  obtain ⟨d1, rfl, r1⟩ := repPs1 hr
  cases d1 <;> first | cases e | skip
  rename_i i
  exact ⟨i, by rw [r1.int], k _ H (Same.refl H) (.int _)⟩
theorem pr_int (h : PrimPost Z .int [x] H Q) : ((∃ i, [x] = [V.int i] ∧ Q (.int i) H) ∨ ∃ k, [x] = [V.bl k] ∧ Q (.int (if k then 1 else 0)) H) ∨ ∃ a n, [x] = [V.str a] ∧ PySem.intText? a = some n ∧ a.length ≤ 640 ∧ Q (.int n) H := by
  obtain ⟨R, ds, ht, hr, nw, d, e, k⟩ := h
  obtain ⟨d1, rfl, r1⟩ := repPs1 hr
  cases d1 <;> first | (cases e; done) | skip
  · rename_i b
    cases e
    exact .inl (.inr ⟨b, by rw [r1.bl], k _ H (Same.refl H) (.int _)⟩)
  · rename_i i
    cases e
    exact .inl (.inl ⟨i, by rw [r1.int], k _ H (Same.refl H) (.int _)⟩)
  · rename_i a
    have e : (match PySem.intText? a with | some n => if a.length ≤ 640 then some (false, D.int n) else none | none => none) = some (nw, d) := e
    cases hn : PySem.intText? a with
    | none => rw [hn] at e; cases e
    | some n =>
      rw [hn] at e
      have e : (if a.length ≤ 640 then some (false, D.int n) else none) = some (nw, d) := e
      by_cases hl : a.length ≤ 640
      · rw [if_pos hl] at e; cases e
        exact .inr ⟨a, n, by rw [r1.str], hn, hl, k _ H (Same.refl H) (.int _)⟩
      · rw [if_neg hl] at e; cases e
theorem dEq_inv {a b : D} {c : Bool} (h : dEq a b = some c) : ∃ p q, a.py = some p ∧ b.py = some q ∧ SeqAt.shaped p = true ∧ SeqAt.shaped q = true ∧ c = PyData.eqv p q := by
  unfold dEq at h
  split at h
  · rename_i p q h1 h2
    split at h
    · rename_i hs
      cases h
      exact ⟨p, q, h1, h2, (Bool.and_eq_true_iff.mp hs).1, (Bool.and_eq_true_iff.mp hs).2, rfl⟩
    · cases h
  · cases h
theorem pr_eq (h : PrimPost Z .eq [x, y] H Q) : rEqD Z.K x y H Q := by
  obtain ⟨R, ds, ht, hr, nw, d, e, k⟩ := h
  obtain ⟨d1, d2, rfl, r1, r2⟩ := repPs2 hr
  obtain ⟨c, e1, e2⟩ := Option.map_eq_some_iff.mp (show (dEq d1 d2).map _ = _ from e)
  cases e2
  obtain ⟨p, q, h1, h2, h3, h4, rfl⟩ := dEq_inv e1
  exact ⟨p, q, (r1.dp h1).shaped h3, (r2.dp h2).shaped h4, h3, h4, k _ H (Same.refl H) (.bl _)⟩
theorem pr_ne (h : PrimPost Z .ne [x, y] H Q) : rNeD Z.K x y H Q := by
  obtain ⟨R, ds, ht, hr, nw, d, e, k⟩ := h
  obtain ⟨d1, d2, rfl, r1, r2⟩ := repPs2 hr
  obtain ⟨c, e1, e2⟩ := Option.map_eq_some_iff.mp (show (dEq d1 d2).map _ = _ from e)
  cases e2
  obtain ⟨p, q, h1, h2, h3, h4, rfl⟩ := dEq_inv e1
  exact ⟨p, q, (r1.dp h1).shaped h3, (r2.dp h2).shaped h4, h3, h4, k _ H (Same.refl H) (.bl _)⟩
theorem atI_len {α β : Type} {xs : List α} {ys : List β} {i : Int} {d : β} (hl : xs.length = ys.length) (h : atI ys i = some d) : ∃ j : Nat, ys[j]? = some d ∧ ∀ v, xs[j]? = some v → atI xs i = some v := by
  unfold atI at h
  cases e : ixN ys.length i with
  | none => rw [e] at h; cases h
  | some j =>
    rw [e] at h
    refine ⟨j, h, fun v hv => ?_⟩
    unfold atI
    rw [hl, e]
    exact hv
theorem pr_idx (h : PrimPost Z .idx [x, y] H Q) : rIx Z.K x y H Q := by
  obtain ⟨R, ds, ht, hr, nw, d, e, k⟩ := h
  obtain ⟨d1, d2, rfl, r1, r2⟩ := repPs2 hr
  cases d1 <;> first | (cases e; done) | skip
  · cases d2 <;> first | (cases e; done) | skip
    rename_i z i
    simp only [evP] at e
    split at e
    · rename_i hz
      split at e
      · rename_i c hc
        cases e
        exact .inr (.inr ⟨z, i, c, r1.str, r2.int, hz, hc, k _ H (Same.refl H) (.str _)⟩)
      · cases e
    · cases e
  · cases d2 <;> first | (cases e; done) | skip
    rename_i ys i
    simp only [evP] at e
    split at e
    · rename_i c hc
      cases e
      obtain ⟨a, xs, rfl, h1, h2⟩ := r1.tup
      obtain ⟨j, hj, hv⟩ := atI_len h2.length hc
      obtain ⟨v, hv1, hv2⟩ := h2.get hj
      exact .inr (.inl ⟨a, xs, i, v, rfl, r2.int, h1.sq, hv v hv1, k _ H (Same.refl H) hv2⟩)
    · cases e
  · cases d2 <;> first | (cases e; done) | skip
    rename_i ys i
    simp only [evP] at e
    split at e
    · rename_i c hc
      cases e
      obtain ⟨a, xs, rfl, h1, h2⟩ := r1.lst
      obtain ⟨j, hj, hv⟩ := atI_len h2.length hc
      obtain ⟨v, hv1, hv2⟩ := h2.get hj
      exact .inl ⟨a, xs, i, v, rfl, r2.int, h1, hv v hv1, k _ H (Same.refl H) hv2⟩
    · cases e
theorem pr_len (h : PrimPost Z .len [x] H Q) : (∃ p ys, [x] = [V.ref p] ∧ (SqL Z.K H p ys ∨ SqT Z.K H p ys) ∧ Q (.int ys.length) H) ∨ (∃ z, [x] = [V.str z] ∧ z.length ≤ sizeLine ∧ Q (.int z.length) H) := by
  obtain ⟨R, ds, ht, hr, nw, d, e, k⟩ := h
  obtain ⟨d1, rfl, r1⟩ := repPs1 hr
  cases d1 <;> first | (cases e; done) | skip
  · rename_i z
    simp only [evP] at e
    split at e
    · rename_i hz
      cases e
      exact .inr ⟨z, by rw [r1.str], hz, k _ H (Same.refl H) (.int _)⟩
    · cases e
  · cases e
    obtain ⟨a, xs, rfl, h1, h2⟩ := r1.tup
    exact .inl ⟨a, xs, rfl, .inr h1.sq, by rw [h2.length]; exact k _ H (Same.refl H) (.int _)⟩
  · cases e
    obtain ⟨a, xs, rfl, h1, h2⟩ := r1.lst
    exact .inl ⟨a, xs, rfl, .inl h1, by rw [h2.length]; exact k _ H (Same.refl H) (.int _)⟩
theorem same_upd {p : Addr} {o : HO} (hn : H p = none) : Same H (upd H p o) := fun b u e => by rw [upd_ne (ne_of_none e hn)]; exact e
/-- a new tuple -/
theorem rep_new_tup {xs : List V} {ds : List D} {p : Addr} (ht : ∀ b, R b → H b ≠ none) (hn : H p = none) (h : RepL Z H R xs ds) : Rep Z (upd H p (.tup xs)) R (.ref p) (.tup ds) :=
  .tup (.inl ⟨.inl upd_same, fun z => ht p z hn⟩) (h.lat (Lat.same (same_upd hn)))
/-- a new list -/
theorem repN_new_lst {xs : List V} {ds : List D} {p : Addr} (hn : H p = none) (h : RepL Z H R xs ds) : RepN Z H (upd H p (.lst xs)) R (.ref p) true (.lst ds) :=
  ⟨p, xs, ds, H, rfl, rfl, Same.refl H, same_upd hn, hn, upd_same, h⟩
theorem onLst_inv {α : Type} {f : List D → Option α} {g : α → Option (Bool × D)} {ds : List D} {r : Bool × D} (h : onLst f g ds = some r) : ∃ xs l, ds = [.lst xs] ∧ f xs = some l ∧ g l = some r := by
  unfold onLst at h
  split at h
  · rename_i xs
    cases e : f xs with
    | none => rw [e] at h; cases h
    | some l => rw [e] at h; exact ⟨xs, l, rfl, e, h⟩
  · cases h
theorem pr_all (h : PrimPost Z .all [x] H Q) : rAll Z.K [x] H Q := by
  obtain ⟨R, ds, ht, hr, nw, d, e, k⟩ := h
  obtain ⟨xs, l, rfl, e1, e2⟩ := onLst_inv (show onLst blsOf allL ds = _ from e)
  obtain ⟨d1, e3, r1⟩ := repPs1 hr
  cases e3
  obtain ⟨a, ys, rfl, h1, h2⟩ := r1.lst
  obtain rfl := h2.bls e1
  cases e2
  exact ⟨a, l, rfl, h1, k _ H (Same.refl H) (.bl _)⟩
theorem pr_divmod (h : PrimPost Z .divmod [x, y] H Q) : ∃ i j, [x, y] = [V.int i, V.int j] ∧ CDiv i j ∧ ∀ p, H p = none → Q (.ref p) (upd H p (.tup [.int (i / j), .int (i % j)])) := by
  obtain ⟨R, ds, ht, hr, nw, d, e, k⟩ := h
  obtain ⟨d1, d2, rfl, r1, r2⟩ := repPs2 hr
  cases d1 <;> first | (cases e; done) | skip
  cases d2 <;> first | (cases e; done) | skip
  rename_i i j
  simp only [evP] at e
  split at e
  · rename_i hc
    cases e
    exact ⟨i, j, by rw [r1.int, r2.int], hc, fun p hp => k _ _ (same_upd hp) (rep_new_tup ht.2 hp (.cons (.int _) (.cons (.int _) .nil)))⟩
  · cases e
end
end M

set_option Elab.async false
set_option linter.all false
set_option maxRecDepth 100000
set_option maxHeartbeats 4000000
/-! A5: +, *, slices, isinstance. -/
namespace M
open PySem L2 PyProof.Rows
section
variable {X : Cx}
/-- list + list, whatever they stand in -/
def rCatL (K : PySem.W.Frag) : R2 := fun x y H Q => ∃ l b xs zs, x = .ref l ∧ y = .ref b ∧ SqL K H l xs ∧ SqL K H b zs ∧ xs.length + zs.length ≤ sizeLine ∧ ∀ p, H p = none → Q (.ref p) (upd H p (.lst (xs ++ zs)))
theorem op_catL : OpR X (binaryOp .Add) (rCatL X.K) := by
  intro pins s σ H x y v u Q I rx ry h
  obtain ⟨l, b, xs, zs, rfl, rfl, hH, hB, hz, q⟩ := h
  cases rx
  cases ry
  obtain ⟨its, r, ⟨⟨cls, dd, data, sl⟩, n, ho, hc, hd, he⟩, z⟩ := I.list hH
  obtain ⟨its2, r2, ⟨⟨cls2, dd2, data2, sl2⟩, n2, ho2, hc2, hd2, he2⟩, z2⟩ := I.list hB
  simp only at hc hd he hc2 hd2 he2
  subst hc hd he hc2 hd2 he2
  have e : its.toArray ++ its2.toArray = (its ++ its2).toArray := by simp
  have hl := r.length
  have hl2 := r2.length
  refine concat_meets ⟨_, ho, rfl⟩ ⟨_, ho2, rfl⟩ noFill_list_add seq_list_add PySem.F.slot_list_add PySem.F.entry_list_add (PySem.F.args_list_add_2 _ _) (list_addW l b its.toArray its2.toArray n n2 none none sl sl2 (by rw [List.size_toArray, List.size_toArray]; omega)) ⟨ho, ho2, ?_⟩
  rw [e]
  exact ⟨.ref _, _, I.lnew (t' := s.toks) (r.append r2) (by rw [List.length_append]; omega), rfl, q _ I.fresh⟩
theorem tuple_mul1 (l : Addr) (items : Array Value) (n : Nat) (dd : Option Addr) (sl : Array (Option Value)) (u : Tok) :
    Meets (Builtin.«tuple.__mul__» ⟨[.ref l, .int 1 u], []⟩) (fun _ R s => s.heap.get? l = some { cls := .type "tuple", dict := dd, data := .seq items n, slots := sl } ∧ R (.ok (.ret (Value.ref l))) s) :=
  .of_wp fun prog w A R s h => by
    obtain ⟨hp, g, d, tk, os⟩ := s
    obtain ⟨hl, h⟩ := h
    have f1 := AutoSeq1.idx_int
    wp_walk using wpAny_loadPart' hl
    exact ⟨_, rfl, h⟩
theorem tuple_mul0 (l : Addr) (items : Array Value) (n : Nat) (dd : Option Addr) (sl : Array (Option Value)) (u : Tok) (hi : items.isEmpty = false) :
    Meets (Builtin.«tuple.__mul__» ⟨[.ref l, .int 0 u], []⟩) (fun _ R s => s.heap.get? l = some { cls := .type "tuple", dict := dd, data := .seq items n, slots := sl } ∧
      R (.ok (.ret (Value.ref s.heap.objs.size))) { s with heap := s.heap.push { cls := Value.type "tuple", data := Data.seq #[] }, toks := s.toks }) :=
  .of_wp fun prog w A R s h => by
    obtain ⟨hp, g, d, tk, os⟩ := s
    obtain ⟨hl, h⟩ := h
    have f1 := AutoSeq1.idx_int
    wp_walk using wpAny_loadPart' hl
    exact ⟨_, rfl, h⟩
/-- tuple * int, 0 and 1 too -/
def rRepA (K : PySem.W.Frag) : R2 := fun x y H Q => ∃ l k xs, x = .ref l ∧ y = .int k ∧ SqT K H l xs ∧ xs ≠ [] ∧ 0 ≤ k ∧ k ≤ 1000 ∧ xs.length ≤ 1000 ∧ (k = 1 → Q (.ref l) H) ∧ ∀ p, H p = none → Q (.ref p) (upd H p (.tup (List.replicate k.toNat xs).flatten))
theorem op_repA : OpR X (binaryOp .Mult) (rRepA X.K) := by
  intro pins s σ H x y v u Q I rx ry h
  obtain ⟨l, k, xs, rfl, rfl, hT, hne, h1, h2, hz, q1, q⟩ := h
  by_cases hk : 2 ≤ k
  · exact op_repT pins s σ H _ _ v u Q I rx ry ⟨l, k, xs, rfl, rfl, hT, hne, hk, h2, hz, q⟩
  cases rx
  obtain ⟨t, rfl⟩ := ry
  obtain ⟨its, r, ⟨⟨cls, dd, data, sl⟩, ho, hc, n, hd⟩, hs⟩ := I.tuple hT
  simp only at hc hd
  subst hc hd
  have hle : its.length = xs.length := r.length.symm
  have hi : its.toArray.isEmpty = false := by
    cases its with
    | nil => exact absurd (List.eq_nil_of_length_eq_zero hle.symm) hne
    | cons a b => rfl
  by_cases hk1 : k = 1
  · subst hk1
    refine wpAny_binaryOp_repeat_ref (T := "tuple") (U := "int") (by decide) ⟨_, ho, rfl⟩ (fun s' => typeIs_int s' 1 t) noFill_tuple_mul PySem.F.fills_int_mul PySem.F.slot_int_rmul repeat_tuple PySem.F.slot_int_index.lookup
      (call_meets PySem.F.slot_int_rmul (typeIs_int s 1 t) PySem.F.entry_int_rmul (PySem.F.args_int_rmul_2 _ _) (int_rmul_tuple 1 t l its.toArray n dd sl)
        ⟨ho, rfl, ⟨_, ho, rfl⟩, call_meets PySem.F.slot_tuple_mul ⟨_, ho, rfl⟩ PySem.F.entry_tuple_mul (PySem.F.args_tuple_mul_2 _ _) (tuple_mul1 l its.toArray n dd sl t) ⟨ho, ?_⟩⟩)
    exact ⟨.ref l, H, I, rfl, q1 rfl⟩
  · have hk0 : k = 0 := by omega
    subst hk0
    refine wpAny_binaryOp_repeat_ref (T := "tuple") (U := "int") (by decide) ⟨_, ho, rfl⟩ (fun s' => typeIs_int s' 0 t) noFill_tuple_mul PySem.F.fills_int_mul PySem.F.slot_int_rmul repeat_tuple PySem.F.slot_int_index.lookup
      (call_meets PySem.F.slot_int_rmul (typeIs_int s 0 t) PySem.F.entry_int_rmul (PySem.F.args_int_rmul_2 _ _) (int_rmul_tuple 0 t l its.toArray n dd sl)
        ⟨ho, rfl, ⟨_, ho, rfl⟩, call_meets PySem.F.slot_tuple_mul ⟨_, ho, rfl⟩ PySem.F.entry_tuple_mul (PySem.F.args_tuple_mul_2 _ _) (tuple_mul0 l its.toArray n dd sl t hi) ⟨ho, ?_⟩⟩)
    refine ⟨.ref s.heap.objs.size, _, I.laid (t' := s.toks) (o := .tup []) (fun b ob q => Heap.get?_push_of_some _ q) (Nat.le_refl _) ?_, rfl, q _ (I.hok.fresh (Nat.le_refl _))⟩
    exact ⟨Nat.zero_le _, [], .nil, IsTup.new _ _⟩
theorem list_mulW (l : Addr) (items : Array Value) (n : Nat) (sl : Array (Option Value)) (x : Int) (u : Tok) (hf : ¬(!Builtin.List.listFitsIndex x) = true) (hc : ¬items.size * x.toNat > (2 ^ 63 - 1) / 8) (ht : ¬Builtin.List.listTooLong (items.size * x.toNat) = true) :
    Meets (Builtin.«list.__mul__» ⟨[.ref l, .int x u], []⟩) (fun _ R s =>
      s.heap.get? l = some { cls := .type "list", dict := none, data := .seq items n, slots := sl } ∧
      R (.ok (.ret (Value.ref s.heap.objs.size)))
        { s with heap := s.heap.push { cls := Value.type "list", data := Data.seq (List.foldl (fun a b => a ++ b) #[] (List.replicate (if items.isEmpty = true then 0 else x.toNat) items)) }, toks := s.toks }) :=
  .of_wp fun prog w A R s h => by
    obtain ⟨hp, g, d, tk, os⟩ := s
    obtain ⟨hl, h⟩ := h
    have hz := PySem.AutoListH.joined_fits ht
    wp_walk using wpAny_loadPart' hl
    refine wpAny_ite_false (decide_eq_false (Nat.not_lt.mpr hz)) ?_
    wp_walk
    exact ⟨_, rfl, h⟩
theorem int_rmulW (a : Int) (t : Tok) (l : Addr) (items : Array Value) (n : Nat) (sl : Array (Option Value)) :
    Meets (Builtin.«int.__rmul__» ⟨[.int a t, .ref l], []⟩) (fun _ R s =>
      s.heap.get? l = some { cls := .type "list", dict := none, data := .seq items n, slots := sl } ∧ R (.ok (.ret Value.notImplemented)) s) :=
  .of_wp fun prog w A R s h => by
    obtain ⟨hp, g, d, tk, os⟩ := s
    obtain ⟨hl, h⟩ := h
    wp_walk
    exact ⟨_, rfl, h⟩
def rRepLA (K : PySem.W.Frag) : R2 := fun x y H Q => ∃ l k xs, x = .ref l ∧ y = .int k ∧ SqL K H l xs ∧ 0 ≤ k ∧ k ≤ 300 ∧ xs.length ≤ 300 ∧ ∀ p, H p = none → Q (.ref p) (upd H p (.lst (List.replicate k.toNat xs).flatten))
theorem op_repLA : OpR X (binaryOp .Mult) (rRepLA X.K) := by
  intro pins s σ H x y v u Q I rx ry h
  obtain ⟨l, k, xs, rfl, rfl, hH, h0, h1, hz, q⟩ := h
  cases rx
  obtain ⟨t, rfl⟩ := ry
  obtain ⟨its, r, ⟨⟨cls, dd, data, sl⟩, n, ho, hc, hd, he⟩, z⟩ := I.list hH
  simp only at hc hd he
  subst hc hd he
  have hle := r.length
  have hprod : its.toArray.size * k.toNat ≤ 90000 := by
    rw [List.size_toArray, ← hle]
    exact Nat.mul_le_mul hz (show k.toNat ≤ 300 by omega)
  have hfit : ¬ (!Builtin.List.listFitsIndex k) = true := by
    rw [fitsIndex_both (by omega) (by omega)]
    exact Bool.false_ne_true
  have hlong : ¬ Builtin.List.listTooLong (its.toArray.size * k.toNat) = true := by
    rw [notLongL (Nat.le_trans hprod (by decide))]
    exact Bool.false_ne_true
  have key : ∀ m : Nat, List.foldl (fun a b => a ++ b) #[] (List.replicate m its.toArray) = (List.replicate m its).flatten.toArray := fun m => by
    have e := foldl_rep its m []
    rwa [List.nil_append] at e
  have hnew : List.foldl (fun a b => a ++ b) #[] (List.replicate (if its.toArray.isEmpty = true then 0 else k.toNat) its.toArray) = (List.replicate k.toNat its).flatten.toArray := by
    rw [key]
    cases its with
    | nil => simp
    | cons a b => rw [if_neg (by simp)]
  refine wpAny_binaryOp_repeat_ref (T := "list") (U := "int") (by decide) ⟨_, ho, rfl⟩ (fun s' => typeIs_int s' k t) noFill_list_mul PySem.F.fills_int_mul PySem.F.slot_int_rmul repeat_list PySem.F.slot_int_index.lookup
    (call_meets PySem.F.slot_int_rmul (typeIs_int s k t) PySem.F.entry_int_rmul (PySem.F.args_int_rmul_2 _ _) (int_rmulW k t l its.toArray n sl)
      ⟨ho, rfl, ⟨_, ho, rfl⟩, call_meets PySem.F.slot_list_mul ⟨_, ho, rfl⟩ PySem.F.entry_list_mul (PySem.F.args_list_mul_2 _ _) (list_mulW l its.toArray n sl k t hfit (by omega) hlong) ⟨ho, ?_⟩⟩)
  rw [hnew]
  exact ⟨.ref _, _, I.lnew (t' := s.toks) (r.rep k.toNat) (by rw [PyProof.Rows.lm_len_rep_flat, Nat.mul_comm]; rw [List.size_toArray, ← hle] at hprod; exact Nat.le_trans hprod (by decide)), rfl, q _ I.fresh⟩
theorem op_mulB : OpR X (binaryOp .Mult) (rI (fun i j => mulOk i j = true) fun i j => .int (i * j)) := L2.opI fun i j _ _ _ _ _ hc q => mul_int q (by
  have b : ∀ x : Int, Builtin.Int.intBits x ≤ x.natAbs.log2 + 1 := fun x => by
    unfold Builtin.Int.intBits
    split <;> omega
  have h1 := b i
  have h2 := b j
  have h3 := of_decide_eq_true hc
  have e : bitsLine = 134217728 := by decide
  unfold IntMulOk
  intro z
  rw [Bool.and_eq_true] at z
  have z2 := z.2
  unfold Builtin.Int.intTooBig at z2
  have z3 := of_decide_eq_true z2
  rw [e] at z3
  omega)
end
section
variable {Z : Zc} {H : Hp} {R : Pr} {v x y : V} {Q : VK}
theorem rep_nil' {ds : List D} (h : RepL Z H R [] ds) : ds = [] := by cases h; rfl
theorem pr_add (h : PrimPost Z .add [x, y] H Q) : rI0 (fun i j => .int (i + j)) x y H Q ∨ (∃ i j, x = .str i ∧ y = .str j ∧ i.length + j.length ≤ sizeLine ∧ Q (.str (i ++ j)) H) ∨ rCatA Z.K x y H Q ∨ rCatL Z.K x y H Q := by
  obtain ⟨R, ds, ht, hr, nw, d, e, k⟩ := h
  obtain ⟨d1, d2, rfl, r1, r2⟩ := repPs2 hr
  cases d1 <;> first | (cases e; done) | skip
  · cases d2 <;> first | (cases e; done) | skip
    cases e
    exact .inl ⟨_, _, r1.int, r2.int, k _ H (Same.refl H) (.int _)⟩
  · cases d2 <;> first | (cases e; done) | skip
    rename_i a b
    simp only [evP] at e
    split at e
    · rename_i hz
      cases e
      exact .inr (.inl ⟨_, _, r1.str, r2.str, hz, k _ H (Same.refl H) (.str _)⟩)
    · cases e
  · cases d2 <;> first | (cases e; done) | skip
    rename_i a b
    simp only [evP] at e
    split at e
    · rename_i hz
      cases e
      obtain ⟨p1, xs, rfl, h1, h2⟩ := r1.tup
      obtain ⟨p2, zs, rfl, h3, h4⟩ := r2.tup
      refine .inr (.inr (.inl ⟨p1, p2, xs, zs, rfl, rfl, h1.sq, h3.sq, by rw [h2.length, h4.length]; exact hz, fun e => ?_, fun _ e => ?_, fun _ _ p hp => ?_⟩))
      · subst e
        obtain rfl := rep_nil' h2
        exact k _ H (Same.refl H) (.tup h3 h4)
      · subst e
        obtain rfl := rep_nil' h4
        rw [List.append_nil] at k
        exact k _ H (Same.refl H) (.tup h1 h2)
      · exact k _ _ (same_upd hp) (rep_new_tup ht.2 hp (h2.append h4))
    · cases e
  · cases d2 <;> first | (cases e; done) | skip
    rename_i a b
    simp only [evP] at e
    split at e
    · rename_i hz
      cases e
      obtain ⟨p1, xs, rfl, h1, h2⟩ := r1.lst
      obtain ⟨p2, zs, rfl, h3, h4⟩ := r2.lst
      exact .inr (.inr (.inr ⟨p1, p2, xs, zs, rfl, rfl, h1, h3, by rw [h2.length, h4.length]; exact hz, fun p hp => k _ _ (same_upd hp) (repN_new_lst hp (h2.append h4))⟩))
    · cases e
theorem pr_mul (h : PrimPost Z .mul [x, y] H Q) : rI (fun i j => mulOk i j = true) (fun i j => .int (i * j)) x y H Q ∨ rRepA Z.K x y H Q ∨ rRepLA Z.K x y H Q := by
  obtain ⟨R, ds, ht, hr, nw, d, e, k⟩ := h
  obtain ⟨d1, d2, rfl, r1, r2⟩ := repPs2 hr
  cases d1 <;> first | (cases e; done) | skip
  · cases d2 <;> first | (cases e; done) | skip
    simp only [evP] at e
    split at e
    · rename_i hz
      cases e
      exact .inl ⟨_, _, r1.int, r2.int, hz, k _ H (Same.refl H) (.int _)⟩
    · cases e
  · cases d2 <;> first | (cases e; done) | skip
    rename_i a b
    simp only [evP] at e
    split at e
    · rename_i hz
      cases e
      obtain ⟨p1, xs, rfl, h1, h2⟩ := r1.tup
      refine .inr (.inl ⟨p1, b, xs, rfl, r2.int, h1.sq, fun z => ?_, hz.2.2.2, hz.1, by rw [h2.length]; exact hz.2.1, fun z => ?_, fun p hp => ?_⟩)
      · subst z
        exact hz.2.2.1 (rep_nil' h2)
      · subst z
        have e1 : (List.replicate (1 : Int).toNat a).flatten = a := by simp
        rw [e1] at k
        exact k _ H (Same.refl H) (.tup h1 h2)
      · exact k _ _ (same_upd hp) (rep_new_tup ht.2 hp (h2.rep _))
    · cases e
  · cases d2 <;> first | (cases e; done) | skip
    rename_i a b
    simp only [evP] at e
    split at e
    · rename_i hz
      cases e
      obtain ⟨p1, xs, rfl, h1, h2⟩ := r1.lst
      exact .inr (.inr ⟨p1, b, xs, rfl, r2.int, h1, hz.2.2, hz.1, by rw [h2.length]; exact hz.2.1, fun p hp => k _ _ (same_upd hp) (repN_new_lst hp (h2.rep _))⟩)
    · cases e
/-- slices -/
theorem cutL_cutV {xs : List V} {ds : List D} (h : RepL Z H R xs ds) (lo hi : Option Int) : RepL Z H R (cutV xs lo hi) (cutL ds lo hi) := by
  unfold cutV cutL
  rw [h.length]
  exact (h.drop _).take _
theorem cut_whole {ds : List D} {lo hi : Option Int} (h : HT.sIx ds.length 0 lo = 0 ∧ HT.sIx ds.length ds.length hi = ds.length) : cutL ds lo hi = ds := by
  unfold cutL
  rw [h.1, h.2]
  simp
theorem sloD_ok {d : D} {lo hi : Option Int} {nw : Bool} {r : D} (ht : ∀ b, R b → H b ≠ none) (rp : RepP Z H R x d) (e : sloD d lo hi = some (nw, r)) (k : ∀ w H', Same H H' → RepN Z H H' R w nw r → Q w H') :
    (rSlL Z.K x lo hi H Q ∨ rSlA Z.K x lo hi H Q) ∨ rSlS x lo hi H Q := by
  cases d <;> first | (cases e; done) | skip
  · rename_i z
    have e : (if z.length ≤ sizeLine then some (false, D.str (L2.cutS z lo hi)) else none) = some (nw, r) := e
    by_cases hz : z.length ≤ sizeLine
    · rw [if_pos hz] at e; cases e
      exact .inr ⟨z, rp.str, hz, k _ H (Same.refl H) (.str _)⟩
    · rw [if_neg hz] at e; cases e
  · cases e
    obtain ⟨p, xs, rfl, h1, h2⟩ := rp.tup
    refine .inl (.inr ⟨p, xs, rfl, h1.sq, fun z => ?_, fun z q hq => ?_⟩)
    · rw [h2.length] at z
      rw [cut_whole z] at k
      exact k _ H (Same.refl H) (.tup h1 h2)
    · exact k _ _ (same_upd hq) (rep_new_tup ht hq (cutL_cutV h2 lo hi))
  · cases e
    obtain ⟨p, xs, rfl, h1, h2⟩ := rp.lst
    exact .inl (.inl ⟨p, xs, rfl, h1, fun q hq => k _ _ (same_upd hq) (repN_new_lst hq (cutL_cutV h2 lo hi))⟩)
end
end M

set_option Elab.async false
set_option linter.all false
set_option maxRecDepth 100000
set_option maxHeartbeats 4000000
/-! A6: zip and enumerate over lists and tuples, in any mix. -/
namespace M
open PySem L2 PyProof.Rows
/-- b: a tuple; else a list -/
def SqX (b : Bool) (K : PySem.W.Frag) (H : Hp) (a : Addr) (xs : List V) : Prop := match b with | true => SqT K H a xs | false => SqL K H a xs
def IterX (b : Bool) (h : Heap) (it a : Addr) (i : Nat) : Prop := match b with | true => h.IsTupleIter it a i | false => h.IsListIter it a i
def SeqX (b : Bool) (h : Heap) (a : Addr) (items : Array Value) : Prop := match b with | true => h.IsTuple a items | false => h.IsList a items
theorem IterX.at_ {b : Bool} {h h' : Heap} {it a : Addr} {i : Nat} (x : IterX b h it a i) (k : ∀ o, h.get? it = some o → h'.get? it = some o) : IterX b h' it a i := by
  cases b with
  | true => exact Heap.IsTupleIter.at x k
  | false => exact Heap.IsListIter.at x k
end M

set_option Elab.async false
set_option linter.all false
set_option maxRecDepth 100000
set_option maxHeartbeats 4000000
/-! A7: expressions by their parts. -/
namespace M
open PySem L2 PyProof.Rows

theorem _root_.L2.PE.imp {X : Cx} {e : Expr} {t t' : TE} (h : PE X e t) (i : ∀ s H Q, t' s H Q → t s H Q) : PE X e t' := ⟨fun pins s σ H Q I q => h.run pins s σ H Q I (i σ H Q q)⟩
theorem _root_.L2.PT.imp {X : Cx} {e : Expr} {t t' : TT} (h : PT X e t) (i : ∀ s H Q, t' s H Q → t s H Q) : PT X e t' := ⟨fun pins s σ H Q I q => h.run pins s σ H Q I (i σ H Q q)⟩
theorem _root_.L2.PW.imp {X : Cx} {e : Expr} {t t' : TT} (h : PW X e t) (i : ∀ s H Q, t' s H Q → t s H Q) : PW X e t' := ⟨fun wh pins s σ H Q I q => h.run wh pins s σ H Q I (i σ H Q q)⟩
theorem _root_.L2.PA.imp {X : Cx} {e : List Expr} {t t' : TA} (h : PA X e t) (i : ∀ s H Q, t' s H Q → t s H Q) : PA X e t' := ⟨fun pos pins s σ H Q I q => h.run pos pins s σ H Q I (i σ H Q q)⟩

section
variable {Z : Zc} {K : Calls} {ex : XK} {X : Cx} {s : Sg} {H : Hp}
/-- a literal -/
theorem tE_lit {e : E} {pk : Bool} {d : D} {Q : VK} (h : tE Z K ex e pk s H Q) (he : ∀ q, ev K e pk q = .ok (.val d) q) : ∃ R, ∀ w, Rep Z H R w d → Q w H := by
  obtain ⟨R0, q, f0, h⟩ := h
  rw [he q] at h
  exact ⟨Rt R0 s q, fun w r => h w H (Lat.refl _ _) (BK.refl _) ⟨f0, r⟩⟩
theorem ow_demote {q : Fm} {i : Nat} {b : Bool} {d : D} {a : Addr} (h : Ow s (q.set i (.sh b d)) a) : Ow s q a := by
  obtain ⟨j, b', d', h1, h2⟩ := h
  by_cases hj : i = j
  · subst hj
    by_cases hl : i < q.length
    · rw [List.getElem?_set_self hl] at h1; cases h1
    · rw [List.getElem?_eq_none (by simpa using hl)] at h1; cases h1
  · rw [List.getElem?_set_ne hj] at h1
    exact ⟨j, b', d', h1, h2⟩
/-- an owned list becomes a shared one -/
theorem FR.demote {R0 : Pr} {q : Fm} {i : Nat} {b : Bool} {d : D} (f : FR Z R0 s q H) (e : q[i]? = some (.ow b d)) : FR Z R0 s (q.set i (.sh b d)) H ∧ ∃ a, s[i]? = some (some (.ref a)) ∧ Rep Z H (Rt R0 s (q.set i (.sh b d))) (.ref a) d := by
  have hi : i < q.length := (List.getElem?_eq_some_iff.mp e).1
  have lt : Lat (Rt R0 s q) H (Rt R0 s (q.set i (.sh b d))) H := Lat.sub fun c z => Or.elim z .inl fun z => .inr (ow_demote z)
  obtain ⟨a, h1, h2, ds, xs, h3, h4, h5⟩ := f.ow i b d e
  subst h3
  have rp : Rep Z H (Rt R0 s (q.set i (.sh b (.lst ds)))) (.ref a) (.lst ds) := by
    refine .lst (.inl ⟨.inl h4, fun z => ?_⟩) (h5.lat lt)
    rcases z with z | ⟨j, b', d', z1, z2⟩
    · exact h2 z
    · by_cases hj : i = j
      · subst hj
        rw [List.getElem?_set_self hi] at z1; cases z1
      · rw [List.getElem?_set_ne hj] at z1
        exact hj (f.sep i j b b' (.lst ds) d' a e z1 h1 z2)
  refine ⟨⟨by rw [List.length_set]; exact f.len, f.tb, f.trk, fun j b' d' z => ?_, fun j b' d' z => ?_, fun j k b1 b2 d1 d2 c z1 z2 z3 z4 => ?_⟩, a, h1, rp⟩
  · by_cases hj : i = j
    · subst hj
      rw [List.getElem?_set_self hi] at z; cases z
      exact ⟨_, h1, rp⟩
    · rw [List.getElem?_set_ne hj] at z
      obtain ⟨v, e1, e2⟩ := f.sh j b' d' z
      exact ⟨v, e1, e2.lat lt⟩
  · by_cases hj : i = j
    · subst hj
      rw [List.getElem?_set_self hi] at z; cases z
    · rw [List.getElem?_set_ne hj] at z
      obtain ⟨a', e1, e2, e3⟩ := f.ow j b' d' z
      exact ⟨a', e1, e2, e3.lat lt rfl⟩
  · have n1 : i ≠ j := fun e => by
      subst e
      rw [List.getElem?_set_self hi] at z1; cases z1
    have n2 : i ≠ k := fun e => by
      subst e
      rw [List.getElem?_set_self hi] at z2; cases z2
    rw [List.getElem?_set_ne n1] at z1
    rw [List.getElem?_set_ne n2] at z2
    exact f.sep j k b1 b2 d1 d2 c z1 z2 z3 z4
theorem bk_set {q : Fm} {i : Nat} {t t' : Slot} (e : q[i]? = some t) (h : t'.isBor = true → t.isBor = true) : BK q (q.set i t') := by
  intro j ⟨u, h1, h2⟩
  by_cases hj : i = j
  · subst hj
    rw [List.getElem?_set_self (List.getElem?_eq_some_iff.mp e).1] at h1; cases h1
    exact ⟨t, e, h h2⟩
  · rw [List.getElem?_set_ne hj] at h1
    exact ⟨u, h1, h2⟩
theorem tE_var {i : Nat} {pk : Bool} {Q : VK} (h : tE Z K ex (.var i) pk s H Q) : tVar i s H Q := by
  obtain ⟨R0, q, f0, h⟩ := h
  unfold ev at h
  cases e : q[i]? with
  | none => rw [e] at h; exact h.elim
  | some t =>
    rw [e] at h
    cases t with
    | no => exact h.elim
    | pin => exact h.elim
    | sh b d =>
      obtain ⟨v, h1, h2⟩ := f0.sh i b d e
      exact ⟨v, h1, h v H (Lat.refl _ _) (BK.refl _) ⟨f0, h2⟩⟩
    | ow b d =>
      cases pk with
      | true =>
        obtain ⟨a, h1, _⟩ := f0.ow i b d e
        exact ⟨.ref a, h1, h _ H (Lat.refl _ _) (BK.refl _) ⟨f0, h1, b, d, e⟩⟩
      | false =>
        obtain ⟨f1, a, h1, h2⟩ := f0.demote e
        refine ⟨.ref a, h1, h _ H (Lat.sub fun c z => ow_demote z) (bk_set e fun z => z) ⟨f1, h2⟩⟩
theorem tE_tup {es : As} {pk : Bool} {Q : VK} (h : tE Z K ex (.tup es) pk s H Q) : tTup (tA Z K ex es) s H Q := by
  unfold tE at h
  rw [show ev K (.tup es) pk = fun q => bindR (evA K es q) fun ds q1 => if ds.length ≤ sizeLine then .ok (.val (.tup ds)) q1 else .bad from rfl] at h
  refine TR.bind h fun R0 q q1 a ws H1 f0 l b pp z => ?_
  obtain ⟨f1, p1⟩ := pp
  by_cases hz : a.length ≤ sizeLine
  · rw [if_pos hz] at z
    refine ⟨by rw [p1.length]; exact hz, fun p hp => ?_⟩
    have sm : Same H1 (upd H1 p (.tup ws)) := same_upd hp
    refine z _ _ (l.trans (Lat.same sm)) b ⟨f1.on sm (fun _ h => .inl h) fun b hb => (Lat.same (R := Ow s q) sm).tr b (f1.trk b hb), rep_new_tup (fun b hb => f1.rtT hb) hp p1⟩
  · rw [if_neg hz] at z; exact z.elim
theorem tE_lst {es : As} {pk : Bool} {Q : VK} (h : tE Z K ex (.lst es) pk s H Q) : tLst (tA Z K ex es) s H Q := by
  unfold tE at h
  rw [show ev K (.lst es) pk = fun q => bindR (evA K es q) fun ds q1 => if ds.length ≤ sizeLine then .ok (.new (.lst ds)) q1 else .bad from rfl] at h
  refine TR.bind h fun R0 q q1 a ws H1 f0 l b pp z => ?_
  obtain ⟨f1, p1⟩ := pp
  by_cases hz : a.length ≤ sizeLine
  · rw [if_pos hz] at z
    refine ⟨by rw [p1.length]; exact hz, fun p hp => ?_⟩
    have sm : Same H1 (upd H1 p (.lst ws)) := same_upd hp
    refine z _ _ (l.trans (Lat.same sm)) b ⟨p, rfl, l.new hp, f1.on sm (fun b hb => Or.elim hb .inl fun e => .inr (e ▸ hp)) (fun b hb => Or.elim hb (fun hb => (Lat.same (R := Ow s q) sm).tr b (f1.trk b hb)) fun e => ?_), a, ws, rfl, upd_same, p1.lat ((Lat.same sm).less fun b hb => ?_)⟩
    · rw [e, upd_same]; exact fun z => nomatch z
    · rcases hb with (hb | hb) | hb
      · exact .inl (.inl hb)
      · exact .inr (hb ▸ hp)
      · exact .inl (.inr hb)
  · rw [if_neg hz] at z; exact z.elim
theorem An.lateV {R0 : Pr} {q q1 : Fm} {H1 : Hp} {Q : VK} {r : Res RV} (l : Lat (Ow s q) H (Ow s q1) H1) (b : BK q q1) (h : An Z ex R0 s q H (PoV Z R0 s H) Q r) : An Z ex R0 s q1 H1 (PoV Z R0 s H1) Q r :=
  An.late l b (fun _ _ _ _ l2 p => p.early l) h
theorem tE_ife {t : T} {a b : E} {pk : Bool} {Q : VK} (h : tE Z K ex (.ife t a b) pk s H Q) : tIf (tT Z K ex t) (tE Z K ex a false) (tE Z K ex b false) s H Q := by
  unfold tE at h
  rw [show ev K (.ife t a b) pk = fun q => bindR (evT K t q) fun c q1 => if c then ev K a false q1 else ev K b false q1 from rfl] at h
  refine TR.bind h fun R0 q q1 c w H1 f0 l bk pp z => ?_
  obtain ⟨f1, rfl⟩ := pp
  cases w with
  | true => exact ⟨R0, q1, f1, An.lateV l bk z⟩
  | false => exact ⟨R0, q1, f1, An.lateV l bk z⟩
theorem tru_of {R : Pr} {w : V} {d : D} {c : Bool} (h : RepP Z H R w d) (e : truD d = some c) : TruV Z.K w H c := by
  cases d <;> first | (cases e; done) | skip
  · cases e; rw [h.non]; rfl
  · cases e; rw [h.bl]; rfl
  · cases e; rw [h.int]; rfl
  · rename_i z
    simp only [truD] at e
    split at e
    · rename_i hz
      cases e
      rw [h.str]
      refine ⟨hz, ?_⟩
      cases hl : z.length with
      | zero => rfl
      | succ n =>
        have : ((n + 1 : Nat) : Int) ≠ 0 := by omega
        rw [show ((n + 1 : Nat) != 0) = true from rfl]
        exact (bne_iff_ne.mpr this).symm
    · cases e
  · cases e
    obtain ⟨a, xs, rfl, h1, h2⟩ := h.tup
    refine .inr (.inl ⟨xs, h1.sq, ?_⟩)
    cases h2 <;> rfl
  · cases e
    obtain ⟨a, xs, rfl, h1, h2⟩ := h.lst
    refine .inl ⟨xs, h1, ?_⟩
    cases h2 <;> rfl
/-- a value's truth -/
theorem pov_tru {R0 : Pr} {q q1 : Fm} {w : V} {r : RV} {d : D} {H1 : Hp} (f0 : FR Z R0 s q H) (p : PoV Z R0 s H q1 H1 w r) (e : r.at_ q1 = some d) : FR Z R0 s q1 H1 ∧ RepP Z H1 (Rt R0 s q1) w d := by
  obtain ⟨f1, p1⟩ := p.down f0
  refine ⟨f1, RepR.atP f1 p1 ?_⟩
  rw [← e]
  cases r <;> rfl
theorem tT_val {e : E} {Q : Bool → Hp → Prop} (h : tT Z K ex (.val e) s H Q) : tE Z K ex e true s H fun x H' => ∃ k, TruV Z.K x H' k ∧ Q k H' := by
  unfold tT at h
  rw [show evT K (.val e) = fun q => bindR (ev K e true q) fun r q1 => match r.at_ q1 with
    | some d => match truD d with
      | some c => .ok c q1
      | none => .bad
    | none => .bad from rfl] at h
  refine TR.bind h fun R0 q q1 c w H1 f0 l bk pp z => ?_
  cases e : c.at_ q1 with
  | none => rw [e] at z; exact z.elim
  | some d =>
    rw [e] at z
    dsimp only at z
    cases e2 : truD d with
    | none => rw [e2] at z; exact z.elim
    | some k =>
      rw [e2] at z
      obtain ⟨f1, rp⟩ := pov_tru f0 pp e
      exact ⟨k, tru_of rp e2, z k H1 l bk ⟨f1, rfl⟩⟩
theorem tT_yes {Q : Bool → Hp → Prop} (h : tT Z K ex .yes s H Q) : Q true H := by
  obtain ⟨R0, q, f0, h⟩ := h
  exact h true H (Lat.refl _ _) (BK.refl _) ⟨f0, rfl⟩
theorem tT_all {a b : T} {Q : Bool → Hp → Prop} (h : tT Z K ex (.all a b) s H Q) : tAnd (tT Z K ex a) (tT Z K ex b) s H Q := by
  unfold tT at h
  rw [show evT K (.all a b) = fun q => bindR (evT K a q) fun c q1 => if c then evT K b q1 else .ok false q1 from rfl] at h
  refine TR.bind h fun R0 q q1 c w H1 f0 l bk pp z => ?_
  obtain ⟨f1, rfl⟩ := pp
  cases w with
  | true => exact ⟨R0, q1, f1, An.late (Po' := PoB Z R0 s H1) l bk (fun _ _ _ _ _ p => p) z⟩
  | false => exact z false H1 l bk ⟨f1, rfl⟩
theorem tT_any {a b : T} {Q : Bool → Hp → Prop} (h : tT Z K ex (.any a b) s H Q) : tOr (tT Z K ex a) (tT Z K ex b) s H Q := by
  unfold tT at h
  rw [show evT K (.any a b) = fun q => bindR (evT K a q) fun c q1 => if c then .ok true q1 else evT K b q1 from rfl] at h
  refine TR.bind h fun R0 q q1 c w H1 f0 l bk pp z => ?_
  obtain ⟨f1, rfl⟩ := pp
  cases w with
  | false => exact ⟨R0, q1, f1, An.late (Po' := PoB Z R0 s H1) l bk (fun _ _ _ _ _ p => p) z⟩
  | true => exact z true H1 l bk ⟨f1, rfl⟩
theorem tT_not {a : T} {Q : Bool → Hp → Prop} (h : tT Z K ex (.not a) s H Q) : tNot (tT Z K ex a) s H Q := by
  unfold tT at h
  rw [show evT K (.not a) = fun q => bindR (evT K a q) fun c q1 => .ok (!c) q1 from rfl] at h
  refine TR.bind h fun R0 q q1 c w H1 f0 l bk pp z => ?_
  obtain ⟨f1, rfl⟩ := pp
  exact z (!w) H1 l bk ⟨f1, rfl⟩
/-- the operands of one, two, three places -/
theorem tEs1 {a : E} {Q : List V → Hp → Prop} (h : tEs Z K ex (.cons a .nil) s H Q) : tE Z K ex a true s H fun x H1 => Q [x] H1 :=
  (tEs_cons h).mono fun _ _ z => tEs_nil z
theorem tEs2 {a b : E} {Q : List V → Hp → Prop} (h : tEs Z K ex (.cons a (.cons b .nil)) s H Q) : tE Z K ex a true s H fun x H1 => tE Z K ex b true s H1 fun y H2 => Q [x, y] H2 :=
  (tEs_cons h).mono fun _ _ z => tEs1 z
end
end M

set_option Elab.async false
set_option linter.all false
set_option maxRecDepth 100000
set_option maxHeartbeats 4000000
/-! A8: calls: arguments, what is lent and given back. -/
namespace M
open PySem L2 PyProof.Rows

/-- what a def promises: that it does what the evaluator tells -/
def spF (Z : Zc) (K : Calls) (f : Nat) : Sp := fun vs H Q E => TR Z E (fun q => noSlot (K.fn f q)) (PoV Z) (vs.map some) H Q
def GaR (Z : Zc) (H : Hp) (R0 : Pr) (s : Sg) (q : Fm) : List V → List Ga → Prop
  | [], [] => True
  | w :: ws, .v d :: gs => Rep Z H (Rt R0 s q) w d ∧ GaR Z H R0 s q ws gs
  | w :: ws, .b i :: gs => s[i]? = some (some w) ∧ GaR Z H R0 s q ws gs
  | _, _ => False
def PoG (Z : Zc) (R0 : Pr) (s : Sg) (H : Hp) (q' : Fm) (H' : Hp) (ws : List V) (gs : List Ga) : Prop := FR Z R0 s q' H' ∧ GaR Z H' R0 s q' ws gs
def tGs (Z : Zc) (K : Calls) (ex : XK) (g : Gs) : TA := TR Z ex (evG K g) (PoG Z)
theorem GaR.lat {Z : Zc} {H H' : Hp} {R0 : Pr} {s : Sg} {q q' : Fm} (l : Lat (Ow s q) H (Ow s q') H') : ∀ {ws : List V} {gs : List Ga}, GaR Z H R0 s q ws gs → GaR Z H' R0 s q' ws gs
  | [], [], _ => True.intro
  | w :: ws, .v d :: gs, h => ⟨Rep.lat (lat_rt l) h.1, GaR.lat l h.2⟩
  | w :: ws, .b i :: gs, h => ⟨h.1, GaR.lat l h.2⟩
  | [], _ :: _, h => h.elim
  | _ :: _, [], h => h.elim
section
variable {Z : Zc} {K : Calls} {ex : XK} {s : Sg} {H : Hp}
theorem tGs_nil {Q : List V → Hp → Prop} (h : tGs Z K ex .nil s H Q) : tNil s H Q := by
  obtain ⟨R0, q, f0, h⟩ := h
  unfold evG at h
  exact h [] H (Lat.refl _ _) (BK.refl _) ⟨f0, True.intro⟩
theorem tGs_v {e : E} {r : Gs} {Q : List V → Hp → Prop} (h : tGs Z K ex (.v e r) s H Q) : tCons (tE Z K ex e false) (tGs Z K ex r) s H Q := by
  unfold tGs at h
  rw [show evG K (.v e r) = fun q => bindR (ev K e false q) fun x q1 => match x.vd with
    | some d => bindR (evG K r q1) fun l q2 => .ok (.v d :: l) q2
    | none => .bad from rfl] at h
  refine TR.bind h fun R0 q q1 a w H1 f0 l b p z => ?_
  cases e1 : a.vd with
  | none => rw [e1] at z; exact z.elim
  | some d =>
    rw [e1] at z
    obtain ⟨f1, p1⟩ := p.vd f0 e1
    refine ⟨R0, q1, f1, (An.late (Po' := PoG Z R0 s H1) l b (fun _ _ _ _ _ p => p) z).bind fun q2 ws H2 rs _ l2 b2 p2 z2 => ?_⟩
    exact z2 (w :: ws) H2 l2 b2 ⟨p2.1, p1.lat (lat_rt l2), p2.2⟩
theorem tGs_b {i : Nat} {r : Gs} {Q : List V → Hp → Prop} (h : tGs Z K ex (.b i r) s H Q) : tCons (tVar i) (tGs Z K ex r) s H Q := by
  obtain ⟨R0, q, f0, h⟩ := h
  rw [show evG K (.b i r) q = (match q[i]? with
    | some (.ow _ _) => bindR (evG K r q) fun l q1 => .ok (.b i :: l) q1
    | _ => .bad) from rfl] at h
  cases e : q[i]? with
  | none => rw [e] at h; exact h.elim
  | some t =>
    rw [e] at h
    cases t with
    | no => exact h.elim
    | pin => exact h.elim
    | sh _ _ => exact h.elim
    | ow b d =>
      obtain ⟨a, h1, _⟩ := f0.ow i b d e
      refine ⟨.ref a, h1, R0, q, f0, h.bind fun q1 ws H1 rs _ l b p z => ?_⟩
      exact z (.ref a :: ws) H1 l b ⟨p.1, h1, p.2⟩
end
/-! ### giving back -/
theorem gb_len : ∀ {gs : List Ga} {as q : Fm}, (giveBack gs as q).length = q.length
  | [], _, _ => rfl
  | .v _ :: r, [], _ => rfl
  | .v _ :: r, _ :: l, _ => gb_len (gs := r)
  | .b _ :: r, [], _ => rfl
  | .b _ :: r, _ :: l, q => by rw [giveBack, gb_len (gs := r), List.length_set]
theorem gb_other : ∀ {gs : List Ga} {as q : Fm} {i : Nat}, i ∉ lentIx gs → (giveBack gs as q)[i]? = q[i]?
  | [], _, _, _, _ => rfl
  | .v _ :: r, [], _, _, _ => rfl
  | .v _ :: r, _ :: l, q, i, h => by rw [giveBack]; exact gb_other (gs := r) h
  | .b _ :: r, [], _, _, _ => rfl
  | .b j :: r, t :: l, q, i, h => by
    have h1 : i ≠ j ∧ i ∉ lentIx r := by simpa [lentIx] using h
    rw [giveBack, gb_other (gs := r) h1.2, List.getElem?_set_ne (Ne.symm h1.1)]
theorem gb_at : ∀ {gs : List Ga} {as q : Fm} {k i : Nat} {t : Slot}, (lentIx gs).Nodup → gs[k]? = some (.b i) → as[k]? = some t → i < q.length → (giveBack gs as q)[i]? = some (t.bors (q.getD i .no).isBor)
  | [], _, _, _, _, _, _, h, _, _ => by simp at h
  | .v _ :: r, [], _, _, _, _, _, _, h, _ => by simp at h
  | .v d :: r, u :: l, q, k, i, t, nd, h1, h2, hi => by
    cases k with
    | zero => simp at h1
    | succ k =>
      rw [giveBack]
      exact gb_at (gs := r) nd (by simpa using h1) (by simpa using h2) hi
  | .b _ :: r, [], _, _, _, _, _, _, h, _ => by simp at h
  | .b j :: r, u :: l, q, k, i, t, nd, h1, h2, hi => by
    have nd' : j ∉ lentIx r ∧ (lentIx r).Nodup := by simpa [lentIx] using nd
    rw [giveBack]
    cases k with
    | zero =>
      have e1 : j = i := by simpa using h1
      have e2 : u = t := by simpa using h2
      subst e1 e2
      rw [gb_other nd'.1, List.getElem?_set_self hi]
    | succ k =>
      have h1' : r[k]? = some (.b i) := by simpa using h1
      have hj : j ≠ i := by
        rintro rfl
        exact nd'.1 (lentIx_mem h1')
      rw [gb_at (gs := r) nd'.2 h1' (by simpa using h2) (by rw [List.length_set]; exact hi)]
      have : List.getD (List.set q j (u.bors (List.getD q j Slot.no).isBor)) i Slot.no = List.getD q i Slot.no := by
        simp only [List.getD_eq_getElem?_getD, List.getElem?_set_ne hj]
      rw [this]
where
  lentIx_mem : ∀ {r : List Ga} {k i : Nat}, r[k]? = some (.b i) → i ∈ lentIx r
    | [], _, _, h => by simp at h
    | .v _ :: r, 0, _, h => by simp at h
    | .v _ :: r, k + 1, i, h => by
      rw [lentIx]; exact lentIx_mem (by simpa using h)
    | .b j :: r, 0, i, h => by
      have e : j = i := by simpa using h
      subst e; simp [lentIx]
    | .b j :: r, k + 1, i, h => by
      have := lentIx_mem (r := r) (k := k) (i := i) (by simpa using h)
      simp [lentIx, this]
theorem lentIx_mem {r : List Ga} {k i : Nat} (h : r[k]? = some (Ga.b i)) : i ∈ lentIx r := gb_at.lentIx_mem h
theorem lentIx_at : ∀ {r : List Ga} {i : Nat}, i ∈ lentIx r → ∃ k : Nat, r[k]? = some (Ga.b i)
  | [], _, h => by simp [lentIx] at h
  | .v _ :: r, i, h => by
    obtain ⟨k, hk⟩ := lentIx_at (r := r) (by simpa [lentIx] using h)
    exact ⟨k + 1, by simpa using hk⟩
  | .b j :: r, i, h => by
    have h' : i = j ∨ i ∈ lentIx r := by simpa [lentIx] using h
    rcases h' with rfl | h'
    · exact ⟨0, by simp⟩
    · obtain ⟨k, hk⟩ := lentIx_at h'
      exact ⟨k + 1, by simpa using hk⟩
theorem lent_len : ∀ {gs : List Ga} {q as : Fm}, lent q gs = some as → as.length = gs.length
  | [], _, _, h => by cases h; rfl
  | .v d :: r, q, as, h => by
    unfold lent at h
    cases e : lent q r with
    | none => rw [e] at h; cases h
    | some l => rw [e] at h; cases h; simp [lent_len e]
  | .b i :: r, q, as, h => by
    unfold lent at h
    split at h
    · rename_i b d l e1 e2
      cases h; simp [lent_len e2]
    · cases h
/-- what is lent, place by place -/
theorem lent_at : ∀ {gs : List Ga} {q as : Fm} {k : Nat} {t : Slot}, lent q gs = some as → as[k]? = some t → (∃ d, gs[k]? = some (.v d) ∧ t = .sh false d) ∨ (∃ i b d, gs[k]? = some (.b i) ∧ q[i]? = some (.ow b d) ∧ t = .ow true d)
  | [], _, _, _, _, h, e => by cases h; simp at e
  | .v d :: r, q, as, k, t, h, e => by
    unfold lent at h
    cases e2 : lent q r with
    | none => rw [e2] at h; cases h
    | some l =>
      rw [e2] at h; cases h
      cases k with
      | zero => exact .inl ⟨d, by simp, by simpa using e.symm⟩
      | succ k => simpa using lent_at (k := k) e2 (by simpa using e)
  | .b i :: r, q, as, k, t, h, e => by
    unfold lent at h
    split at h
    · rename_i b d l e1 e2
      cases h
      cases k with
      | zero => exact .inr ⟨i, b, d, by simp, e1, by simpa using e.symm⟩
      | succ k => simpa using lent_at (k := k) e2 (by simpa using e)
    · cases h
theorem GaR.len {Z : Zc} {H : Hp} {R0 : Pr} {s : Sg} {q : Fm} : ∀ {ws : List V} {gs : List Ga}, GaR Z H R0 s q ws gs → ws.length = gs.length
  | [], [], _ => rfl
  | w :: ws, .v d :: gs, h => by simp [GaR.len h.2]
  | w :: ws, .b i :: gs, h => by simp [GaR.len h.2]
  | [], _ :: _, h => h.elim
  | _ :: _, [], h => h.elim
theorem GaR.at_v {Z : Zc} {H : Hp} {R0 : Pr} {s : Sg} {q : Fm} : ∀ {ws : List V} {gs : List Ga} {k : Nat} {d : D}, GaR Z H R0 s q ws gs → gs[k]? = some (.v d) → ∃ w, ws[k]? = some w ∧ Rep Z H (Rt R0 s q) w d
  | [], [], _, _, _, e => by simp at e
  | w :: ws, .v d :: gs, 0, _, h, e => by simp at e; subst e; exact ⟨w, rfl, h.1⟩
  | w :: ws, .v d :: gs, k + 1, _, h, e => by simpa using GaR.at_v (k := k) h.2 (by simpa using e)
  | w :: ws, .b i :: gs, 0, _, h, e => by simp at e
  | w :: ws, .b i :: gs, k + 1, _, h, e => by simpa using GaR.at_v (k := k) h.2 (by simpa using e)
  | [], _ :: _, _, _, h, _ => h.elim
  | _ :: _, [], _, _, h, _ => h.elim
theorem GaR.at_b {Z : Zc} {H : Hp} {R0 : Pr} {s : Sg} {q : Fm} : ∀ {ws : List V} {gs : List Ga} {k i : Nat}, GaR Z H R0 s q ws gs → gs[k]? = some (.b i) → ∃ w, ws[k]? = some w ∧ s[i]? = some (some w)
  | [], [], _, _, _, e => by simp at e
  | w :: ws, .v d :: gs, 0, _, h, e => by simp at e
  | w :: ws, .v d :: gs, k + 1, _, h, e => by simpa using GaR.at_b (k := k) h.2 (by simpa using e)
  | w :: ws, .b i :: gs, 0, _, h, e => by simp at e; subst e; exact ⟨w, rfl, h.1⟩
  | w :: ws, .b i :: gs, k + 1, _, h, e => by simpa using GaR.at_b (k := k) h.2 (by simpa using e)
  | [], _ :: _, _, _, h, _ => h.elim
  | _ :: _, [], _, _, h, _ => h.elim
/-- what the callee may not lean on -/
def R0c (R0 : Pr) (s : Sg) (q : Fm) (gs : List Ga) : Pr := fun b => R0 b ∨ ∃ (i : Nat) (b' : Bool) (d : D), i ∉ lentIx gs ∧ q[i]? = some (.ow b' d) ∧ s[i]? = some (some (.ref b))
theorem mget {vs : List V} {k : Nat} {v : V} (h : vs[k]? = some v) : (vs.map some)[k]? = some (some v) := by rw [List.getElem?_map, h]; rfl
theorem mget' {vs : List V} {k : Nat} {v : V} (h : (vs.map some)[k]? = some (some v)) : vs[k]? = some v := by
  rw [List.getElem?_map] at h
  cases e : vs[k]? with
  | none => rw [e] at h; cases h
  | some x => rw [e] at h; cases h; rfl
section
variable {Z : Zc} {K : Calls} {ex : XK} {s : Sg} {H H' : Hp} {R0 : Pr} {q : Fm} {gs : List Ga} {ws : List V} {as : Fm}
/-- the callee's frame at the start -/
theorem lend (f : FR Z R0 s q H) (g : GaR Z H R0 s q ws gs) (nd : (lentIx gs).Nodup) (hl : lent q gs = some as) : FR Z (R0c R0 s q gs) (ws.map some) as H := by
  have lt : Lat (Rt R0 s q) H (Rt (R0c R0 s q gs) (ws.map some) as) H := Lat.sub fun b z => by
    rcases z with (z | ⟨i, b', d, _, z1, z2⟩) | ⟨k, b', d, z1, z2⟩
    · exact .inl z
    · exact .inr ⟨i, b', d, z1, z2⟩
    · rcases lent_at hl z1 with ⟨d', e1, e2⟩ | ⟨i, b2, d2, e1, e2, e3⟩
      · cases e2
      · obtain ⟨w, h1, h2⟩ := g.at_b e1
        have := mget' z2
        rw [h1] at this; cases this
        exact .inr ⟨i, b2, d2, e2, h2⟩
  refine ⟨by rw [List.length_map, g.len, lent_len hl], f.tb, fun b z => ?_, fun k b d e => ?_, fun k b d e => ?_, fun k k' b b' d d' a e e' h1 h2 => ?_⟩
  · rcases z with z | ⟨i, b', d, _, z1, z2⟩
    · exact f.trk b z
    · obtain ⟨xs, e⟩ := f.owT ⟨i, b', d, z1, z2⟩
      rw [e]; exact fun z => nomatch z
  · rcases lent_at hl e with ⟨d', e1, e2⟩ | ⟨i, b2, d2, e1, e2, e3⟩
    · cases e2
      obtain ⟨w, h1, h2⟩ := g.at_v e1
      exact ⟨w, mget h1, h2.lat lt⟩
    · cases e3
  · rcases lent_at hl e with ⟨d', e1, e2⟩ | ⟨i, b2, d2, e1, e2, e3⟩
    · cases e2
    · cases e3
      obtain ⟨w, h1, h2⟩ := g.at_b e1
      obtain ⟨a, z1, z2, z3⟩ := f.ow i b2 d e2
      rw [h2] at z1; cases z1
      refine ⟨a, mget h1, fun z => ?_, z3.lat lt rfl⟩
      rcases z with z | ⟨j, b3, d3, nj, y1, y2⟩
      · exact z2 z
      · exact nj ((f.sep j i b3 b2 d3 d a y1 e2 y2 h2) ▸ lentIx_mem e1)
  · rcases lent_at hl e with ⟨_, _, e2⟩ | ⟨i, b2, d2, e1, e2, e3⟩
    · cases e2
    · rcases lent_at hl e' with ⟨_, _, e2'⟩ | ⟨i', b2', d2', e1', e2', e3'⟩
      · cases e2'
      · obtain ⟨w, y1, y2⟩ := g.at_b e1
        obtain ⟨w', y1', y2'⟩ := g.at_b e1'
        have t1 := mget' h1
        have t2 := mget' h2
        rw [y1] at t1; cases t1
        rw [y1'] at t2; cases t2
        have ei := f.sep i i' b2 b2' d2 d2' a e2 e2' y2 y2'
        subst ei
        exact nodup_lent nd e1 e1'
where
  nodup_lent : ∀ {gs : List Ga} {k k' i : Nat}, (lentIx gs).Nodup → gs[k]? = some (.b i) → gs[k']? = some (.b i) → k = k'
    | [], _, _, _, _, h, _ => by simp at h
    | .v _ :: r, 0, _, _, _, h, _ => by simp at h
    | .v _ :: r, _ + 1, 0, _, _, _, h => by simp at h
    | .v _ :: r, k + 1, k' + 1, i, nd, h, h' => by
      have := nodup_lent (gs := r) (k := k) (k' := k') nd (by simpa using h) (by simpa using h')
      omega
    | .b j :: r, 0, 0, i, nd, h, h' => rfl
    | .b j :: r, 0, k' + 1, i, nd, h, h' => by
      have nd' : j ∉ lentIx r ∧ (lentIx r).Nodup := by simpa [lentIx] using nd
      have e : j = i := by simpa using h
      subst e
      exact absurd (lentIx_mem (r := r) (k := k') (by simpa using h')) nd'.1
    | .b j :: r, k + 1, 0, i, nd, h, h' => by
      have nd' : j ∉ lentIx r ∧ (lentIx r).Nodup := by simpa [lentIx] using nd
      have e : j = i := by simpa using h'
      subst e
      exact absurd (lentIx_mem (r := r) (k := k) (by simpa using h)) nd'.1
    | .b j :: r, k + 1, k' + 1, i, nd, h, h' => by
      have nd' : j ∉ lentIx r ∧ (lentIx r).Nodup := by simpa [lentIx] using nd
      have := nodup_lent (gs := r) (k := k) (k' := k') nd'.2 (by simpa using h) (by simpa using h')
      omega
/-- behind the call: the caller's frame -/
theorem gb_cases {q1 : Fm} (nd : (lentIx gs).Nodup) (g : GaR Z H R0 s q ws gs) (hl : lent q gs = some as) (la : q1.length = ws.length) {i : Nat} {t : Slot} (h : (giveBack gs q1 q)[i]? = some t) :
    (i ∉ lentIx gs ∧ q[i]? = some t) ∨ (∃ (k : Nat) (t0 : Slot) (b : Bool) (w : V) (d : D) (b0 : Bool), gs[k]? = some (Ga.b i) ∧ as[k]? = some (Slot.ow true d) ∧ q1[k]? = some t0 ∧ t = t0.bors b ∧ ws[k]? = some w ∧ s[i]? = some (some w) ∧ q[i]? = some (.ow b0 d) ∧ b = b0) := by
  by_cases hi : i ∈ lentIx gs
  · obtain ⟨k, hk⟩ := lentIx_at hi
    have hlt : k < gs.length := (List.getElem?_eq_some_iff.mp hk).1
    have e1 : k < q1.length := by rw [la, g.len]; exact hlt
    have hiq : i < q.length := by
      have := (List.getElem?_eq_some_iff.mp h).1
      rwa [gb_len] at this
    have e2 := gb_at (q := q) nd hk (show q1[k]? = some q1[k] by simp [e1]) hiq
    rw [h] at e2; cases e2
    obtain ⟨w, y1, y2⟩ := g.at_b hk
    have e3 : k < as.length := by rw [lent_len hl]; exact hlt
    rcases lent_at hl (show as[k]? = some as[k] by simp [e3]) with ⟨d, z1, _⟩ | ⟨i', b, d, z1, z2, z3⟩
    · rw [hk] at z1; cases z1
    · rw [hk] at z1; cases z1
      refine .inr ⟨k, _, _, w, d, b, hk, by rw [← z3]; simp [e3], by simp [e1], rfl, y1, y2, z2, ?_⟩
      rw [List.getD_eq_getElem?_getD, z2]; rfl
  · rw [gb_other hi] at h
    exact .inl ⟨hi, h⟩
theorem bors_ow {t : Slot} {b b' : Bool} {d : D} (h : t.bors b = .ow b' d) : ∃ b2, t = .ow b2 d := by
  cases t with
  | no => cases h
  | pin => cases h
  | sh _ _ => cases h
  | ow b2 _ => cases h; exact ⟨b2, rfl⟩
theorem bors_sh {t : Slot} {b b' : Bool} {d : D} (h : t.bors b = .sh b' d) : ∃ b2, t = .sh b2 d := by
  cases t with
  | no => cases h
  | pin => cases h
  | sh b2 _ => cases h; exact ⟨b2, rfl⟩
  | ow _ _ => cases h
theorem gb_ow {q1 : Fm} (nd : (lentIx gs).Nodup) (g : GaR Z H R0 s q ws gs) (hl : lent q gs = some as) (la : q1.length = ws.length) {b : Addr} (h : Ow s (giveBack gs q1 q) b) :
    (∃ (i : Nat) (b' : Bool) (d : D), i ∉ lentIx gs ∧ q[i]? = some (.ow b' d) ∧ s[i]? = some (some (.ref b))) ∨ Ow (ws.map some) q1 b := by
  obtain ⟨i, b', d, h1, h2⟩ := h
  rcases gb_cases nd g hl la h1 with ⟨n, e⟩ | ⟨k, t0, bb, w, d0, b0, e1, e2, e3, e4, e5, e6, e7, _⟩
  · exact .inl ⟨i, b', d, n, e, h2⟩
  · obtain ⟨b2, rfl⟩ := bors_ow e4.symm
    rw [h2] at e6; cases e6
    exact .inr ⟨k, b2, d, e3, mget e5⟩
theorem gb_lat {q1 : Fm} (f : FR Z R0 s q H) (nd : (lentIx gs).Nodup) (g : GaR Z H R0 s q ws gs) (hl : lent q gs = some as) (la : q1.length = ws.length) (l : Lat (Ow (ws.map some) as) H (Ow (ws.map some) q1) H') : Lat (Ow s q) H (Ow s (giveBack gs q1 q)) H' := by
  refine ⟨fun b o h n => l.kp b o h fun z => n (ow_up z), fun b z => ?_, l.tr⟩
  rcases gb_ow nd g hl la z with ⟨i, b', d, _, z1, z2⟩ | z
  · exact .inl ⟨i, b', d, z1, z2⟩
  · exact Or.elim (l.nw b z) (fun z => .inl (ow_up z)) .inr
where
  ow_up : ∀ {b : Addr}, Ow (ws.map some) as b → Ow s q b := fun {b} z => by
    obtain ⟨k, b', d, z1, z2⟩ := z
    rcases lent_at hl z1 with ⟨_, _, e2⟩ | ⟨i, b2, d2, e1, e2, e3⟩
    · cases e2
    · obtain ⟨w, y1, y2⟩ := g.at_b e1
      have := mget' z2
      rw [y1] at this; cases this
      exact ⟨i, b2, d2, e2, y2⟩
/-- xa: new places that the callee's answer owns -/
theorem gb_fr {q1 : Fm} {R1 R1c : Pr} (f : FR Z R0 s q H) (nd : (lentIx gs).Nodup) (g : GaR Z H R0 s q ws gs) (hl : lent q gs = some as) (l : Lat (Ow (ws.map some) as) H (Ow (ws.map some) q1) H')
    (fc : FR Z R1c (ws.map some) q1 H') (h0 : ∀ b, R1 b → R0 b ∨ H b = none) (hc : ∀ b, R1 b → R1c b) (hcc : ∀ b, R0c R0 s q gs b → R1c b) :
    FR Z R1 s (giveBack gs q1 q) H' ∧ ∀ b, Rt R1 s (giveBack gs q1 q) b → Rt R1c (ws.map some) q1 b := by
  have la : q1.length = ws.length := by rw [← fc.len, List.length_map]
  have up : ∀ b, Rt R1 s (giveBack gs q1 q) b → Rt R1c (ws.map some) q1 b := fun b z => by
    rcases z with z | z
    · exact .inl (hc b z)
    · rcases gb_ow nd g hl la z with z | z
      · exact .inl (hcc b (.inr z))
      · exact .inr z
  have lg := gb_lat f nd g hl la l
  have lr : Lat (Rt R0 s q) H (Rt R1 s (giveBack gs q1 q)) H' := (lg.more (S := R0)).less fun b z => by
    rcases z with z | z
    · exact Or.elim (h0 b z) (fun z => .inl (.inl z)) .inr
    · exact .inl (.inr z)
  have lu : Lat (Rt R1c (ws.map some) q1) H' (Rt R1 s (giveBack gs q1 q)) H' := Lat.sub up
  refine ⟨⟨by rw [gb_len]; exact f.len, fc.tb, fun b z => fc.trk b (hc b z), fun i b d e => ?_, fun i b d e => ?_, fun i j b b' d d' a e e' h1 h2 => ?_⟩, up⟩
  · rcases gb_cases nd g hl la e with ⟨n, e⟩ | ⟨k, t0, bb, w, d0, b0, e1, e2, e3, e4, e5, e6, e7, _⟩
    · obtain ⟨v, y1, y2⟩ := f.sh i b d e
      exact ⟨v, y1, y2.lat lr⟩
    · obtain ⟨b2, rfl⟩ := bors_sh e4.symm
      obtain ⟨v, y1, y2⟩ := fc.sh k b2 d e3
      have := mget' y1
      rw [e5] at this; cases this
      exact ⟨w, e6, y2.lat lu⟩
  · rcases gb_cases nd g hl la e with ⟨n, e⟩ | ⟨k, t0, bb, w, d0, b0, e1, e2, e3, e4, e5, e6, e7, _⟩
    · obtain ⟨a, y1, y2, ds, xs, y3, y4, y5⟩ := f.ow i b d e
      refine ⟨a, y1, fun z => Or.elim (h0 a z) y2 (fun z => by rw [y4] at z; cases z), ds, xs, y3, l.kp a _ y4 (fun z => ?_) (fun _ z => nomatch z), y5.lat lr⟩
      obtain ⟨k, b', d', z1, z2⟩ := z
      rcases lent_at hl z1 with ⟨_, _, e2⟩ | ⟨i', b2, d2, e1, e2, e3⟩
      · cases e2
      · obtain ⟨w, x1, x2⟩ := g.at_b e1
        have := mget' z2
        rw [x1] at this; cases this
        exact n ((f.sep i i' b b2 d d2 a e e2 y1 x2) ▸ lentIx_mem e1)
    · obtain ⟨b2, rfl⟩ := bors_ow e4.symm
      obtain ⟨a, y1, y2, y3⟩ := fc.ow k b2 d e3
      have := mget' y1
      rw [e5] at this; cases this
      exact ⟨a, e6, fun z => y2 (hc a z), y3.lat lu rfl⟩
  · rcases gb_cases nd g hl la e with ⟨n, e⟩ | ⟨k, t0, bb, w, d0, b0, e1, e2, e3, e4, e5, e6, e7, _⟩
    · rcases gb_cases nd g hl la e' with ⟨n', e'⟩ | ⟨k', t0', bb', w', d0', b0', e1', e2', e3', e4', e5', e6', e7', _⟩
      · exact f.sep i j b b' d d' a e e' h1 h2
      · obtain ⟨b2, rfl⟩ := bors_ow e4'.symm
        rw [h2] at e6'; cases e6'
        obtain ⟨a', y1, y2, _⟩ := fc.ow k' b2 d' e3'
        have := mget' y1
        rw [e5'] at this; cases this
        exact absurd (hcc a (.inr ⟨i, b, d, n, e, h1⟩)) y2
    · obtain ⟨b2, rfl⟩ := bors_ow e4.symm
      rw [h1] at e6; cases e6
      rcases gb_cases nd g hl la e' with ⟨n', e'⟩ | ⟨k', t0', bb', w', d0', b0', e1', e2', e3', e4', e5', e6', e7', _⟩
      · obtain ⟨a', y1, y2, _⟩ := fc.ow k b2 d e3
        have := mget' y1
        rw [e5] at this; cases this
        exact absurd (hcc a (.inr ⟨j, b', d', n', e', h2⟩)) y2
      · obtain ⟨b2', rfl⟩ := bors_ow e4'.symm
        rw [h2] at e6'; cases e6'
        have := fc.sep k k' b2 b2' d d' a e3 e3' (mget e5) (mget e5')
        subst this
        rw [e1] at e1'; cases e1'; rfl
theorem gb_bk {q1 : Fm} (nd : (lentIx gs).Nodup) (g : GaR Z H R0 s q ws gs) (hl : lent q gs = some as) (la : q1.length = ws.length) : BK q (giveBack gs q1 q) := by
  intro i ⟨t, h1, h2⟩
  rcases gb_cases nd g hl la h1 with ⟨n, e⟩ | ⟨k, t0, bb, w, d0, b0, e1, e2, e3, e4, e5, e6, e7, e8⟩
  · exact ⟨t, e, h2⟩
  · refine ⟨_, e7, ?_⟩
    subst e8 e4
    cases t0 with
    | no => cases h2
    | pin => cases h2
    | sh _ _ => exact h2
    | ow _ _ => exact h2
/-- a call: from the caller's answer to the promise's -/
theorem call_an {f : Nat} {Q : VK} (f0 : FR Z R0 s q H) (g : GaR Z H R0 s q ws gs) (h : An Z ex R0 s q H (PoV Z R0 s H) Q (callR K f gs q)) : spF Z K f ws H Q ex := by
  unfold callR at h
  by_cases nd : (lentIx gs).Nodup
  · rw [if_pos nd] at h
    cases hl : lent q gs with
    | none => rw [hl] at h; exact h.elim
    | some as =>
      rw [hl] at h
      dsimp only at h
      refine ⟨R0c R0 s q gs, as, lend f0 g nd hl, ?_⟩
      show An Z ex _ _ as H _ Q (noSlot (K.fn f as))
      cases hr : noSlot (K.fn f as) with
      | bad => rw [hr] at h; exact h.elim
      | exc c ds q1 =>
        rw [hr] at h
        intro d H1 l b fc x
        have la : q1.length = ws.length := by rw [← fc.len, List.length_map]
        obtain ⟨f1, up⟩ := gb_fr (R1 := R0) f0 nd g hl l fc (fun _ z => .inl z) (fun _ z => .inl z) (fun _ z => z)
        exact h d H1 (gb_lat f0 nd g hl la l) (gb_bk nd g hl la) f1 (x.lat (Lat.sub up))
      | ok r q1 =>
        rw [hr] at h
        intro w H1 l b p
        cases r with
        | slot i => 
          cases e : K.fn f as with
          | ok r2 q2 => rw [e] at hr; cases r2 <;> cases hr
          | exc _ _ _ => rw [e] at hr; cases hr
          | bad => rw [e] at hr; cases hr
        | val d =>
          obtain ⟨fc, rp⟩ := p
          have la : q1.length = ws.length := by rw [← fc.len, List.length_map]
          obtain ⟨f1, up⟩ := gb_fr (R1 := R0) f0 nd g hl l fc (fun _ z => .inl z) (fun _ z => .inl z) (fun _ z => z)
          exact h w H1 (gb_lat f0 nd g hl la l) (gb_bk nd g hl la) ⟨f1, rp.lat (Lat.sub up)⟩
        | new d =>
          obtain ⟨a, ew, hn, fc, o⟩ := p
          have la : q1.length = ws.length := by rw [← fc.len, List.length_map]
          obtain ⟨f1, up⟩ := gb_fr (R1 := P1 R0 a) f0 nd g hl l fc (fun _ z => Or.elim z .inl fun e => .inr (e ▸ hn)) (fun _ z => Or.elim z (fun z => .inl (.inl z)) .inr) (fun _ z => .inl z)
          exact h w H1 (gb_lat f0 nd g hl la l) (gb_bk nd g hl la) ⟨a, ew, hn, f1, o.lat (Lat.sub up) rfl⟩
  · rw [if_neg nd] at h; exact h.elim
end
section
variable {Z : Zc} {K : Calls} {ex : XK} {s : Sg} {H : Hp}
theorem lateV' {R0 : Pr} {q q1 : Fm} {H1 : Hp} {Q : VK} {r : Res RV} (l : Lat (Ow s q) H (Ow s q1) H1) (b : BK q q1) (h : An Z ex R0 s q H (PoV Z R0 s H) Q r) : An Z ex R0 s q1 H1 (PoV Z R0 s H1) Q r :=
  An.late l b (fun _ _ _ _ l2 p => p.early l) h
theorem tE_call {f : Nat} {gs : Gs} {pk : Bool} {Q : VK} (h : tE Z K ex (.call f gs) pk s H Q) : tGs Z K ex gs s H fun vs H1 => spF Z K f vs H1 Q ex := by
  unfold tE at h
  rw [show ev K (.call f gs) pk = fun q => bindR (evG K gs q) fun l q1 => callR K f l q1 from rfl] at h
  refine TR.bind h fun R0 q q1 a w H1 f0 l b p z => ?_
  exact call_an p.1 p.2 (lateV' l b z)
/-- with one new list, handed over -/
theorem after_own {R0 R2 : Pr} {q1 : Fm} {H1 H2 : Hp} {a : Addr} (f1 : FR Z (P1 R0 a) s q1 H1) (kp : ∀ b o, H1 b = some o → b ≠ a → NT o → H2 b = some o) (tr : ∀ b, H1 b ≠ none → H2 b ≠ none) (tb : Grd Z H2)
    (h2 : ∀ b, R2 b → R0 b ∨ H1 b = none) (ht : ∀ b, R2 b → H2 b ≠ none) : FR Z R2 s q1 H2 := by
  have lt : Lat (Rt (P1 R0 a) s q1) H1 (Rt R2 s q1) H2 := ⟨fun b o hb n => kp b o hb fun e => n (.inl (.inr e)), fun b y => by
    rcases y with y | y
    · exact Or.elim (h2 b y) (fun y => .inl (.inl (.inl y))) .inr
    · exact .inl (.inr y), tr⟩
  refine ⟨f1.len, tb, ht, fun i b d e => ?_, fun i b d e => ?_, f1.sep⟩
  · obtain ⟨v, e1, e2⟩ := f1.sh i b d e
    exact ⟨v, e1, e2.lat lt⟩
  · obtain ⟨a', e1, n, ds', xs', e2, e3, e4⟩ := f1.ow i b d e
    exact ⟨a', e1, fun y => Or.elim (h2 a' y) (fun y => n (.inl y)) (fun y => by rw [e3] at y; cases y), ds', xs', e2, kp _ _ e3 (fun e => n (.inr e)) (fun _ z => nomatch z), e4.lat lt⟩
theorem os1 {a b : Addr} {q : Fm} (y : Ow [some (.ref a)] q b) : b = a := by
  obtain ⟨i, b', d', y1, y2⟩ := y
  cases i with
  | zero => simpa using y2.symm
  | succ i => simp at y2
/-- with one new list, handed over -/
theorem tE_callO {f : Nat} {e : E} {pk : Bool} {Q : VK} (h : tE Z K ex (.callO f e) pk s H Q) : tE Z K ex e false s H fun v H1 => spF Z K f [v] H1 Q ex := by
  unfold tE at h
  rw [show ev K (.callO f e) pk = fun q => bindR (ev K e false q) fun r q1 => match r with
    | .new d => match noSlot (K.fn f [.ow false d]) with
      | .ok r' _ => .ok r' q1
      | .exc c ds _ => .exc c ds q1
      | .bad => .bad
    | _ => .bad from rfl] at h
  refine TR.bind h fun R0 q q1 r w H1 f0 l b p z => ?_
  cases r with
  | val d => exact z.elim
  | slot d => exact z.elim
  | new d =>
    dsimp only at z
    obtain ⟨a, rfl, hn, f1, ds, xs, hd, ha, hr⟩ := p
    have nw : ¬ Rt R0 s q1 a := fun y => by
      rcases y with y | ⟨i, b', d', y1, y2⟩
      · exact f0.trk a y hn
      · obtain ⟨a', e1, n, _⟩ := f1.ow i b' d' y1
        rw [y2] at e1; cases e1
        exact n (.inr rfl)
    have fc : FR Z (Rt R0 s q1) [some (.ref a)] [.ow false d] H1 := by
      refine ⟨rfl, f1.tb, fun b hb => (f1.fewer fun _ y => .inl y).rtT hb, fun i b d e => ?_, fun i b d e => ?_, fun i j b b' d d' a' e e' h1 h2 => ?_⟩
      · cases i with
        | zero => simp at e
        | succ i => simp at e
      · cases i with
        | zero =>
          simp at e
          obtain ⟨rfl, rfl⟩ := e
          refine ⟨a, rfl, nw, ds, xs, hd, ha, hr.lat (Lat.sub fun b y => ?_)⟩
          rcases y with (y | y) | y
          · exact .inl (.inl y)
          · exact .inr y
          · exact .inl (.inr (os1 y))
        | succ i => simp at e
      · cases i with
        | zero =>
          cases j with
          | zero => rfl
          | succ j => simp at e'
        | succ i => simp at e
    refine ⟨Rt R0 s q1, [.ow false d], fc, ?_⟩
    show An Z ex _ _ _ H1 _ Q (noSlot (K.fn f [.ow false d]))
    have lc : ∀ {q2 : Fm} {H2 : Hp}, Lat (Ow [some (.ref a)] [.ow false d]) H1 (Ow [some (.ref a)] q2) H2 → Lat (Ow s q) H (Ow s q1) H2 := fun {q2 H2} l2 => by
      refine ⟨fun b o hb n t => l2.kp b o (l.kp b o hb n t) (fun y => ?_) t, l.nw, fun b hb => l2.tr b (l.tr b hb)⟩
      have e := os1 y
      subst e
      rw [hb] at hn; cases hn
    have kp : ∀ {q2 : Fm} {H2 : Hp}, Lat (Ow [some (.ref a)] [.ow false d]) H1 (Ow [some (.ref a)] q2) H2 → ∀ b o, H1 b = some o → b ≠ a → NT o → H2 b = some o := fun {q2 H2} l2 b o hb n => l2.kp b o hb fun y => n (os1 y)
    cases hr : noSlot (K.fn f [.ow false d]) with
    | bad => rw [hr] at z; exact z.elim
    | exc c ds q2 =>
      rw [hr] at z
      intro d2 H2 l2 b2 f2 x
      refine z d2 H2 (lc l2) b (after_own f1 (kp l2) l2.tr f2.tb (fun _ y => .inl y) fun b y => f2.trk b (.inl y)) (x.lat (Lat.sub fun b y => .inl y))
    | ok r2 q2 =>
      rw [hr] at z
      intro w H2 l2 b2 p2
      cases r2 with
      | slot i =>
        cases e : K.fn f [.ow false d] with
        | ok r3 q3 => rw [e] at hr; cases r3 <;> cases hr
        | exc _ _ _ => rw [e] at hr; cases hr
        | bad => rw [e] at hr; cases hr
      | val d2 =>
        obtain ⟨f2, rp⟩ := p2
        exact z w H2 (lc l2) b ⟨after_own f1 (kp l2) l2.tr f2.tb (fun _ y => .inl y) fun b y => f2.trk b (.inl y), rp.lat (Lat.sub fun b y => .inl y)⟩
      | new d2 =>
        obtain ⟨a2, ew, hn2, f2, o⟩ := p2
        refine z w H2 (lc l2) b ⟨a2, ew, l.new hn2, after_own f1 (kp l2) l2.tr f2.tb (fun _ y => Or.elim y .inl fun e => .inr (e ▸ hn2)) (fun b y => f2.trk b (Or.elim y (fun y => .inl (.inl y)) .inr)), o.lat (Lat.sub fun b y => ?_) rfl⟩
        rcases y with (y | y) | y
        · exact .inl (.inl (.inl y))
        · exact .inl (.inr y)
        · exact .inl (.inl (.inr y))
end
end M

set_option Elab.async false
set_option linter.all false
set_option maxRecDepth 100000
set_option maxHeartbeats 4000000
/-! G1: defs called where nothing is being shown (repr wants to know it); positional values, keywords, classes. -/
namespace M
open PySem L2 PyProof.Rows SlX

/-- nothing is being shown -/
def Qu (A : Around) : Prop := A.guards = some []
theorem Qu.deeper {A : Around} {env : Env} (q : Qu A) : Qu (A.deeper env) := q
theorem Qu.make {A : Around} {C : Addr} {us : List Value} {kw : List (Str × Value)} (q : Qu A) : Qu (A.under (.builtin "type.__call__" ⟨.ref C :: us, kw⟩)) := by
  unfold Qu at q ⊢
  show pushGuards (Code.guards (.builtin "type.__call__" ⟨.ref C :: us, kw⟩)) A.guards = _
  rw [q]
  rfl
section
variable (P : Program) (w : World) (K : PySem.W.Frag) (mg : Str → Option Value) (base : Heap) (CX : CXT) (k : Nat) (f : Addr)
/-- the promise of a def, whatever the call's form -/
structure FnA (fd : FuncData) (ps : List Str) (sp : Sp) : Prop where
  len : ∀ vs H Q E, sp vs H Q E → vs.length = ps.length
  run : ∀ (A : Around) (below : List Env) (s0 : Shared) (H : Hp) (gv : Args) (us : List Value) (vs : List V) (Q : VK) (E : XK), Qu A → Room k A → Env0 P w K mg base A below s0 H → BindsTo s0 fd gv (ps.zip us) → Vals vs us → sp vs H Q E →
    codeAny (model P w) A (.call (.ref f) gv) (CR CX below P w H s0 Q E) s0
/-- .. by position -/
def FnG (sp : Sp) : Prop := ∀ (A : Around) (below : List Env) (s0 : Shared) (H : Hp) (us : List Value) (vs : List V) (Q : VK) (E : XK), Qu A → Room k A → Env0 P w K mg base A below s0 H → Vals vs us → sp vs H Q E →
  codeAny (model P w) A (.call (.ref f) ⟨us, []⟩) (CR CX below P w H s0 Q E) s0
/-- .. n values by position, then the names ks; pm: how they come into the parameters' order -/
def FnK (n : Nat) (ks : List Str) (pm : List Nat) (sp : Sp) : Prop := ∀ (A : Around) (below : List Env) (s0 : Shared) (H : Hp) (us ws : List Value) (vs zs : List V) (Q : VK) (E : XK), Qu A → Room k A → Env0 P w K mg base A below s0 H → Vals vs us → Vals zs ws →
  vs.length = n → zs.length = ks.length → sp (pick pm (vs ++ zs)) H Q E → codeAny (model P w) A (.call (.ref f) ⟨us, ks.zip ws⟩) (CR CX below P w H s0 Q E) s0
end
theorem vals_get {vs : List V} {us : List Value} (h : Vals vs us) : ∀ i : Nat, (vs[i]? = none ∧ us[i]? = none) ∨ ∃ v u, vs[i]? = some v ∧ us[i]? = some u ∧ RelV v u := by
  induction h with
  | nil => exact fun i => .inl ⟨by simp, by simp⟩
  | cons r _ ih =>
    intro i
    cases i with
    | zero => exact .inr ⟨_, _, rfl, rfl, r⟩
    | succ i => simpa using ih i
theorem vals_pick {vs : List V} {us : List Value} (h : Vals vs us) : ∀ pm : List Nat, Vals (M.pick pm vs) (M.pick pm us)
  | [] => .nil
  | i :: pm => by
    unfold M.pick
    rw [List.filterMap_cons, List.filterMap_cons]
    rcases vals_get h i with ⟨e1, e2⟩ | ⟨v, u, e1, e2, r⟩
    · rw [e1, e2]; exact vals_pick h pm
    · rw [e1, e2]; exact .cons r (vals_pick h pm)
/-- how a call with names binds -/
def KB (K : PySem.W.Frag) (fd : FuncData) (ps : List Str) (n : Nat) (ks : List Str) (pm : List Nat) : Prop :=
  ∀ (s0 : Shared) (us ws : List Value), K.In s0.heap → us.length = n → ws.length = ks.length → BindsTo s0 fd ⟨us, ks.zip ws⟩ (ps.zip (pick pm (us ++ ws)))
section
variable {P : Program} {w : World} {K : PySem.W.Frag} {mg : Str → Option Value} {base : Heap} {CX : CXT} {j k n : Nat} {f : Addr} {fd : FuncData} {ps ks : List Str} {pm : List Nat} {sp sp' : Sp}
theorem FnG.mono (F : FnG P w K mg base CX j f sp) (h : j ≤ k) : FnG P w K mg base CX k f sp := fun A b s0 H us vs Q E q r => F A b s0 H us vs Q E q (r.mono h)
theorem FnA.pos (F : FnA P w K mg base CX k f fd ps sp) (hb : Binds K fd ps []) : FnG P w K mg base CX k f sp := fun A below s0 H us vs Q E q hr e0 r h => by
  have l : us.length = ps.length := by rw [← r.length]; exact F.len _ _ _ _ h
  have z := hb s0 us (e0.mod.kin.keeps fun b o e => (e0.bs b o e).1) (by rw [List.append_nil]; exact l)
  rw [List.append_nil] at z
  exact F.run A below s0 H ⟨us, []⟩ us vs Q E q hr e0 z r h
theorem FnA.kws (F : FnA P w K mg base CX k f fd ps sp) (hb : KB K fd ps n ks pm) : FnK P w K mg base CX k f n ks pm sp := fun A below s0 H us ws vs zs Q E q hr e0 r rz l1 l2 h => by
  have kin : K.In s0.heap := e0.mod.kin.keeps fun b o e => (e0.bs b o e).1
  exact F.run A below s0 H ⟨us, ks.zip ws⟩ (pick pm (us ++ ws)) (pick pm (vs ++ zs)) Q E q hr e0 (hb s0 us ws kin (r.length.symm.trans l1) (rz.length.symm.trans l2)) (vals_pick (r.append rz) pm) h
/-- from the walk of a def's body -/
theorem fnA_of {x qual : Str} {st : Stmt} {N : List Str} (Fu : L2.Fun K x qual st f fd) (S : FnScope N ps (defScope st)) (len : ∀ vs H Q E, sp vs H Q E → vs.length = ps.length)
    (walk : ∀ (cdv : Value) (A : Around) (below : List Env) (s0 : Shared) (H : Hp) (vs : List V) (Q : VK) (E : XK), Qu A → Room k (A.deeper (envOfC qual (defScope st) s0.heap.objs.size f cdv)) → sp vs H Q E →
      ∃ t, PSs (cxOf CX P w K mg base N qual (defScope st) f cdv A below s0 H E) (defBody st) t ∧ t { nx := fun _ H2 => Q .non H2, rt := Q } (L2.start N vs) H) : FnA P w K mg base CX (k + 1) f fd ps sp := by
  obtain ⟨oc, od, kV, doc, pm, an, cdv, ct, osl, rfl, lk, hcd⟩ := Fu.ex
  refine ⟨len, fun A below s0 H gv us vs Q E qu room e0 hb rv hs => ?_⟩
  have kin : K.In s0.heap := e0.mod.kin.keeps fun b o e => (e0.bs b o e).1
  have lim : s0.heap.NoLimit := e0.mod.nolimit.keeps fun b o e => (e0.bs b o e).1
  refine codeAny_call_function room.depth (kin _ _ lk) rfl S.co S.gen rfl (PySem.W.codeRec_of kin hcd) (hb _ _ _ _ ?_)
  refine wpAny_newFunctionEnv_cells S.kind (fun y hy => ?_) fun env he s1 inn => ?_
  · rcases S.par y.1 (List.of_mem_zip (show (y.1, y.2) ∈ ps.zip us from hy)).1 with z | z
    · exact .inl z
    · exact .inr ⟨z, PySem.W.cellsFrom_some _ _ _ (.inl z)⟩
  · subst he
    obtain ⟨t, ht, hz⟩ := walk cdv A below s0 H vs Q E qu (room.deeper _) hs
    have I := inv_start (CX := CX) (f := f) (cd := cdv) (E := E) S room.hd e0 (len _ _ _ _ hs) rv inn
    refine ⟨lim.keeps inn.toInCall.keep, codeAny_func (wpAny_mono (ht.run [] s1 (L2.start N vs) H _ I hz) (fun fl s2 z => ?_) fun e s2 z => z)⟩
    cases fl with
    | ret u => obtain ⟨v, σ2, H2, J, r2, z⟩ := z; exact ⟨v, H2, J.os, J.bare, J.base, J.hok, r2, z⟩
    | next => obtain ⟨σ2, H2, J, z⟩ := z; exact ⟨.non, H2, J.os, J.bare, J.base, J.hok, rfl, z⟩
    | brk => obtain ⟨_, _, _, z⟩ := z; exact z.elim
    | cont => obtain ⟨_, _, _, z⟩ := z; exact z.elim
end
section
variable {X : Cx} {CX : CXT} {k n : Nat} {f C : Addr} {sp : Sp} {E : XK} {Q : VK} {pins : List (Addr × Obj)} {σ : Sg} {H : Hp} {s : Shared} {us ws : List Value} {vs zs : List V} {ks : List Str} {pm : List Nat}
/-- behind a call: what the callee's end is to the caller -/
def Came (X : Cx) (pins : List (Addr × Obj)) (σ : Sg) (Q : VK) (r : Result) (s2 : Shared) : Prop := match r with
  | .ok (.ret v) => EP X pins σ Q v s2
  | .ok _ => False
  | .error e => X.xe e s2
theorem came {r : Result} {s2 : Shared} (hx : Passes CX X E) (I : Inv X pins σ H s) (h : CR CX X.stack X.prog X.w H s Q E r s2) : Came X pins σ Q r s2 := by
  cases r with
  | error e => exact hx pins σ H s e s2 I h
  | ok fl =>
    cases fl with
    | ret u => exact I.after h
    | next => exact h
    | brk => exact h
    | cont => exact h
theorem run_G {A : Around} (F : FnG X.prog X.w X.K X.mg X.base CX k f sp) (q : Qu A) (hr : Room k A) (e0 : Env0 X.prog X.w X.K X.mg X.base A X.stack s H) (hx : Passes CX X E) (I : Inv X pins σ H s) (r : Vals vs us) (h : sp vs H Q E) :
    codeAny (model X.prog X.w) A (.call (.ref f) ⟨us, []⟩) (Came X pins σ Q) s := codeAny_mono (F A X.stack s H us vs Q E q hr e0 r h) fun _ _ z => came hx I z
end
end M

set_option Elab.async false
set_option linter.all false
set_option maxRecDepth 100000
set_option maxHeartbeats 4000000
/-! A9: the program's expressions and our trees. -/
namespace M
open PySem L2 PyProof.Rows

/-- the world that stays -/
structure Wo where
  P : Program
  w : World
  mg : Str → Option Value
  base : Heap
  Z : Zc
  K : Calls
  hot : Bool
structure Gd (W : Wo) (n : Nat) (X : Cx) (ex : XK) : Prop where
  hP : X.prog = W.P
  hw : X.w = W.w
  hK : X.K = W.Z.K
  hm : X.mg = W.mg
  hb : X.base = W.base
  calm1 : W.hot = false → X.calm = true
  nd : X.N.Nodup
  rm : L2H.RoomH n X.A
  hd1 : W.hot = false → X.A.handled = none
  ps : Passes (L2.CX X.prog X.w) X ex
  qu : Qu X.A
/-- nothing is handled -/
class Calm (W : Wo) : Prop where
  h : W.hot = false
theorem Gd.calm {W : Wo} [c : Calm W] {n : Nat} {X : Cx} {ex : XK} (g : Gd W n X ex) : X.calm = true := g.calm1 c.h
theorem Gd.room {W : Wo} [c : Calm W] {n : Nat} {X : Cx} {ex : XK} (g : Gd W n X ex) : Room n X.A := ⟨g.hd1 c.h, g.rm.dp, g.rm.un⟩
theorem Gd.units {W : Wo} {n : Nat} {X : Cx} {ex : XK} (g : Gd W n X ex) : X.A.units + 64 < cLine := by have := g.rm.un; omega
theorem Gd.un {W : Wo} {n : Nat} {X : Cx} {ex : XK} (g : Gd W n X ex) : X.A.units + 65 < cLine := by have := g.rm.un; omega
def ME (W : Wo) (X : Cx) (ex : XK) (e : Expr) (t : E) : Prop := ∀ pk, PE X e (tE W.Z W.K ex t pk)
def MT (W : Wo) (X : Cx) (ex : XK) (e : Expr) (t : T) : Prop := PT X e (tT W.Z W.K ex t)
def MW (W : Wo) (X : Cx) (ex : XK) (e : Expr) (t : T) : Prop := PW X e (tT W.Z W.K ex t)
def MA (W : Wo) (X : Cx) (ex : XK) (es : List Expr) (t : As) : Prop := PA X es (tA W.Z W.K ex t)
def MG (W : Wo) (X : Cx) (ex : XK) (es : List Expr) (t : Gs) : Prop := PA X es (tGs W.Z W.K ex t)
/-- a def by its name -/
structure Fd (W : Wo) (n : Nat) (x : Str) (f : Nat) : Prop where
  ex : ∃ a, FnG W.P W.w W.Z.K W.mg W.base (L2.CX W.P W.w) n a (spF W.Z W.K f) ∧ W.mg x = some (.ref a) ∧ PySem.W.keepIn W.Z.K (.ref a) = true
section
variable {W : Wo} {X : Cx} {ex : XK} {n : Nat} {pos p1 p2 p3 p4 : Pos} {a b c : Expr} {A B C : E} {x : Str}
theorem opr_or {f : Value → Value → Sem Value} {r r' : R2} (h : OpR X f r) (h' : OpR X f r') : OpR X f (fun x y H Q => r x y H Q ∨ r' x y H Q) := by
  intro pins s σ H x y v u Q I r1 r2 q
  rcases q with q | q
  · exact h pins s σ H x y v u Q I r1 r2 q
  · exact h' pins s σ H x y v u Q I r1 r2 q
theorem callr_or {f : Value} {r r' : List V → Hp → VK → Prop} (h : CallR X f r) (h' : CallR X f r') : CallR X f (fun x H Q => r x H Q ∨ r' x H Q) := by
  intro pins s σ H x v Q I r1 q
  rcases q with q | q
  · exact h pins s σ H x v Q I r1 q
  · exact h' pins s σ H x v Q I r1 q
theorem me_var (i : Nat) (hN : X.N[i]? = some x := by rfl) (hv : Vis X.env.scope x := by first | exact Or.inl rfl | exact Or.inr (Or.inl rfl) | exact Or.inr (Or.inr rfl)) (hd : (x == ("__debug__" : Str)) = false := by decide)
    (hcd : (x == ("__classdict__" : Str)) = false := by decide) : ME W X ex (.Name x pos) (.var i) := fun pk => (pe_var hN hv hd hcd).imp fun _ _ _ h => tE_var h
theorem lit_of {e : E} {pk : Bool} {d : D} {s : Sg} {H : Hp} {Q : VK} {v : V} (hv : ∀ R, Rep W.Z H R v d) (he : ∀ q, ev W.K e pk q = .ok (.val d) q) (h : tE W.Z W.K ex e pk s H Q) : Q v H := by
  obtain ⟨R, k⟩ := tE_lit h he
  exact k v (hv R)
theorem me_int {i : Int} {j : Nat} : ME W X ex (.Constant (.int i) j pos) (.con (.int i)) := fun pk => pe_int.imp fun _ _ _ h => lit_of (fun _ => .int i) (fun _ => rfl) h
theorem me_bl {i : Bool} {j : Nat} : ME W X ex (.Constant (.bool i) j pos) (.con (.bl i)) := fun pk => pe_bl.imp fun _ _ _ h => lit_of (fun _ => .bl i) (fun _ => rfl) h
theorem me_non {j : Nat} : ME W X ex (.Constant .none j pos) (.con .non) := fun pk => pe_non.imp fun _ _ _ h => lit_of (fun _ => .non) (fun _ => rfl) h
theorem me_str {i : Str} {j : Nat} : ME W X ex (.Constant (.str i) j pos) (.con (.str i)) := fun pk => pe_str.imp fun _ _ _ h => lit_of (fun _ => .str i) (fun _ => rfl) h
theorem me_gInt (g : Gd W n X ex) {i : Int} {t : Tok} (hm : W.mg x = some (.int i t)) (hg : Gl X x := by rfl) (hd : (x == ("__debug__" : Str)) = false := by decide) : ME W X ex (.Name x pos) (.glo x (.int i)) :=
  fun pk => (pe_glob (v := .int i) hg (by rw [g.hm]; exact hm) ⟨t, rfl⟩ hd).imp fun _ _ _ h => lit_of (fun _ => .int i) (fun _ => rfl) h
/-! two operands -/
theorem me_op {op : Operator} {p : P} {r : R2} (ho : OpR X (binaryOp op) r) (hp : ∀ x y H Q, PrimPost W.Z p [x, y] H Q → r x y H Q) (ha : ME W X ex a A) (hb : ME W X ex b B) :
    ME W X ex (.BinOp a op b pos) (.prm p (.cons A (.cons B .nil))) := fun pk => (pe_op ho (ha true) (hb true)).imp fun s H Q h => by
  exact (tEs2 (tE_prm h)).mono fun x H1 z => z.mono fun y H2 z => hp x y H2 Q z
theorem me_add (ha : ME W X ex a A) (hb : ME W X ex b B) (g : Gd W n X ex) : ME W X ex (.BinOp a .Add b pos) (.prm .add (.cons A (.cons B .nil))) :=
  me_op (opr_or op_add (opr_or op_add_str (opr_or op_catA op_catL))) (fun x y H Q h => by rw [g.hK]; exact pr_add h) ha hb
theorem me_mul (ha : ME W X ex a A) (hb : ME W X ex b B) (g : Gd W n X ex) : ME W X ex (.BinOp a .Mult b pos) (.prm .mul (.cons A (.cons B .nil))) :=
  me_op (opr_or op_mulB (opr_or op_repA op_repLA)) (fun x y H Q h => by rw [g.hK]; exact pr_mul h) ha hb
theorem me_mod (ha : ME W X ex a A) (hb : ME W X ex b B) : ME W X ex (.BinOp a .Mod b pos) (.prm .mod (.cons A (.cons B .nil))) := me_op op_modN (fun x y H Q h => pr_mod h) ha hb
theorem me_fdiv (ha : ME W X ex a A) (hb : ME W X ex b B) : ME W X ex (.BinOp a .FloorDiv b pos) (.prm .fdiv (.cons A (.cons B .nil))) := me_op op_fdivM (fun x y H Q h => pr_fdiv h) ha hb
theorem me_pow (ha : ME W X ex a A) (hb : ME W X ex b B) : ME W X ex (.BinOp a .Pow b pos) (.prm .pow (.cons A (.cons B .nil))) := me_op op_pow (fun x y H Q h => pr_pow h) ha hb
theorem me_neg (ha : ME W X ex a A) : ME W X ex (.UnaryOp .USub a pos) (.prm .neg (.cons A .nil)) := fun pk => (pe_un un_neg (ha true)).imp fun s H Q h =>
  (tEs1 (tE_prm h)).mono fun x H1 z => pr_neg z
theorem me_idx (ha : ME W X ex a A) (hb : ME W X ex b B) (g : Gd W n X ex) (hs : PlainIx b := by intro _ _; rfl) : ME W X ex (.Subscript a b pos) (.prm .idx (.cons A (.cons B .nil))) := fun pk =>
  (pe_ix ix_seq (ha true) (hb true) hs).imp fun s H Q h => (tEs2 (tE_prm h)).mono fun x H1 z => z.mono fun y H2 z => by rw [g.hK]; exact pr_idx z
/-! slices -/
theorem slr_ok (g : Gd W n X ex) {s : Sg} {H : Hp} {Q : VK} {x : V} {d : D} {R : Pr} {lo hi : Option Int} {nw : Bool} {r : D} (ht : ∀ b, R b → H b ≠ none) (rp : RepP W.Z H R x d) (e : sloD d lo hi = some (nw, r)) (k : ∀ w H', Same H H' → RepN W.Z H H' R w nw r → Q w H') :
    (rSlL X.K x lo hi H Q ∨ rSlA X.K x lo hi H Q) ∨ rSlS x lo hi H Q := by rw [g.hK]; exact sloD_ok ht rp e k
theorem me_slo01 (ha : ME W X ex a A) (hb : ME W X ex b B) (g : Gd W n X ex) : ME W X ex (.Subscript a (.Slice none (some b) none p1) pos) (.prm (.slo false true) (.cons A (.cons B .nil))) := fun pk =>
  (pe_slice ((sl_list.or sl_tupA).or sl_str) (ha true) po_none (po_some (hb true))).imp fun s H Q h => (tEs2 (tE_prm h)).mono fun x H1 z => z.mono fun y H2 z => by
    obtain ⟨R, ds, ht, rq, nw, d, e, k⟩ := z
    obtain ⟨d0, d1, rfl, rp, ri⟩ := repPs2 rq
    simp only [evP] at e
    cases d1 <;> first | (cases e; done) | skip
    exact ⟨_, ri.int, slr_ok (s := s) g ht.2 rp e k⟩
/-! displays -/
theorem ma_nil : MA W X ex [] .nil := pa_nil.imp fun _ _ _ h => tA_nil h
theorem ma_one {es : List Expr} {r : As} (ha : ME W X ex a A) (hr : MA W X ex es r) (hs : starEach (a :: es) X.env = (false, eval a X.env) :: starEach es X.env := by rfl) : MA W X ex (a :: es) (.one A r) :=
  (pa_cons (ha false) hr hs).imp fun _ _ _ h => tA_one h
theorem me_tup {es : List Expr} {r : As} {k : Nat} (h : MA W X ex es r) : ME W X ex (.Tuple es k pos) (.tup r) := fun pk => (pe_tup h).imp fun _ _ _ h => tE_tup h
theorem me_lst {es : List Expr} {r : As} (h : MA W X ex es r) : ME W X ex (.List es pos) (.lst r) := fun pk => (pe_lst h).imp fun _ _ _ h => tE_lst h
/-! tests and choices -/
theorem me_ife {t : T} (hc : MT W X ex c t) (ha : ME W X ex a A) (hb : ME W X ex b B) : ME W X ex (.IfExp c a b pos) (.ife t A B) := fun pk => (pe_ifExp hc (ha false) (hb false)).imp fun _ _ _ h => tE_ife h
theorem mt_val (g : Gd W n X ex) (ha : ME W X ex a A) (he : ∀ whole, isTrue a X.env whole = (do let v ← whole; standAt a.pos; holding [v] (truthy v)) := by intro _; rfl) : MT W X ex a (.val A) :=
  (pt_truth (ha true) he).imp fun _ _ _ h => by rw [g.hK]; exact tT_val h
theorem mt_not {t : T} (h : MT W X ex a t) : MT W X ex (.UnaryOp .Not a pos) (.not t) := (pt_not h).imp fun _ _ _ h => tT_not h
theorem mt_w {t : T} (h : MW W X ex a t) : MT W X ex a t := h.pt
theorem mw_and1 {t : T} (h : MT W X ex a t) : MW W X ex (.BoolOp .And [a] pos) t := pw_and1 h
theorem mw_or1 {t : T} (h : MT W X ex a t) : MW W X ex (.BoolOp .Or [a] pos) t := pw_or1 h
theorem mw_and {t u : T} {rest : List Expr} (h : MT W X ex a t) (h2 : MW W X ex (.BoolOp .And (b :: rest) pos) u) : MW W X ex (.BoolOp .And (a :: b :: rest) pos) (.all t u) := (pw_and h h2).imp fun _ _ _ h => tT_all h
theorem mw_or {t u : T} {rest : List Expr} (h : MT W X ex a t) (h2 : MW W X ex (.BoolOp .Or (b :: rest) pos) u) : MW W X ex (.BoolOp .Or (a :: b :: rest) pos) (.any t u) := (pw_or h h2).imp fun _ _ _ h => tT_any h
/-- a comparison: its value is a bool -/
structure Cm (W : Wo) (X : Cx) (op : CmpOp) (p : P) where
  r : R2
  ho : OpR X (compareOp op) r
  hp : ∀ x y H Q, PrimPost W.Z p [x, y] H Q → r x y H Q
  hb : ∀ x y H (Q Q' : VK), r x y H Q → (∀ k H', Q (.bl k) H' → Q' (.bl k) H') → r x y H Q'
theorem me_cmp {op : CmpOp} {p : P} (m : Cm W X op p) (ha : ME W X ex a A) (hb : ME W X ex b B) (h1 : behindInMarks op b = false := by rfl) : ME W X ex (.Compare a [op] [b] pos) (.prm p (.cons A (.cons B .nil))) := fun pk =>
  (pe_cmpR m.ho (ha true) (hb true) h1).imp fun s H Q h => (tEs2 (tE_prm h)).mono fun x H1 z => z.mono fun y H2 z => m.hp x y H2 Q z
theorem mt_cmp {op : CmpOp} {p : P} (m : Cm W X op p) (ha : ME W X ex a A) (hb : ME W X ex b B) (h1 : behindInMarks op b = false := by rfl) : MT W X ex (.Compare a [op] [b] pos) (.val (.prm p (.cons A (.cons B .nil)))) :=
  (pt_cmpR m.ho (ha true) (hb true) h1).imp fun s H Q h => (tEs2 (tE_prm (tT_val h))).mono fun x H1 z => z.mono fun y H2 z =>
    m.hb _ _ _ _ _ (m.hp x y H2 _ z) fun k H' q => by
      obtain ⟨k', e, q⟩ := q
      cases (show k' = k from e)
      exact ⟨_, rfl, q⟩
def cm_int {op : CmpOp} {p : P} {f : Int → Int → Bool} (ho : OpR X (compareOp op) (rI0 fun i j => .bl (f i j))) (hp : evP p = cmpI f) : Cm W X op p where
  r := rI0 fun i j => .bl (f i j)
  ho := ho
  hp := fun x y H Q h => pr_cmpI hp h
  hb := fun x y H Q Q' h k => by
    obtain ⟨i, j, e1, e2, q⟩ := h
    exact ⟨i, j, e1, e2, k _ _ q⟩
def cm_lt : Cm W X .Lt .lt := cm_int op_lt rfl
def cm_gt : Cm W X .Gt .gt := cm_int op_gt rfl
def cm_ge : Cm W X .GtE .ge := cm_int op_ge rfl
def cm_eq (g : Gd W n X ex) : Cm W X .Eq .eq where
  r := rEqD X.K
  ho := op_eqD g.units
  hp := fun x y H Q h => by rw [g.hK]; exact pr_eq h
  hb := fun x y H Q Q' h k => by
    obtain ⟨p, q, h1, h2, h3, h4, z⟩ := h
    exact ⟨p, q, h1, h2, h3, h4, k _ _ z⟩
def cm_ne (g : Gd W n X ex) : Cm W X .NotEq .ne where
  r := rNeD X.K
  ho := op_neD g.units
  hp := fun x y H Q h => by rw [g.hK]; exact pr_ne h
  hb := fun x y H Q Q' h k => by
    obtain ⟨p, q, h1, h2, h3, h4, z⟩ := h
    exact ⟨p, q, h1, h2, h3, h4, k _ _ z⟩
/-! a op b op c, ints -/
/-- an int comparison -/
structure Ci (X : Cx) (op : CmpOp) (p : P) where
  f : Int → Int → Bool
  ho : OpR X (compareOp op) (rI0 fun i j => .bl (f i j))
  hp : evP p = cmpI f
end
end M

set_option Elab.async false
set_option linter.all false
set_option maxRecDepth 100000
set_option maxHeartbeats 4000000
/-! A10: calls, builtins, classes. -/
namespace M
open PySem L2 PyProof.Rows SlX

section
variable {W : Wo} {X : Cx} {ex : XK} {n k : Nat} {pos p1 p2 p3 p4 : Pos} {a b c : Expr} {A B C : E} {x : Str} {es : List Expr}
theorem mg_nil : MG W X ex [] .nil := pa_nil.imp fun _ _ _ h => tGs_nil h
theorem mg_v {r : Gs} (ha : ME W X ex a A) (hr : MG W X ex es r) (hs : starEach (a :: es) X.env = (false, eval a X.env) :: starEach es X.env := by rfl) : MG W X ex (a :: es) (.v A r) :=
  (pa_cons (ha false) hr hs).imp fun _ _ _ h => tGs_v h
theorem mg_b (i : Nat) {r : Gs} (hr : MG W X ex es r) (hN : X.N[i]? = some x := by rfl) (hv : Vis X.env.scope x := by first | exact Or.inl rfl | exact Or.inr (Or.inl rfl) | exact Or.inr (Or.inr rfl)) (hd : (x == ("__debug__" : Str)) = false := by decide)
    (hcd : (x == ("__classdict__" : Str)) = false := by decide) : MG W X ex (.Name x pos :: es) (.b i r) :=
  (pa_cons (pe_var hN hv hd hcd) hr rfl).imp fun _ _ _ h => tGs_b h
/-- a call by a promise of positional values -/
theorem pe_callF {CX : CXT} {f : Addr} {sp : Sp} {E : XK} {e : Expr} {t : TA} (F : FnG X.prog X.w X.K X.mg X.base CX k f sp) (qu : Qu X.A) (hr : Room k X.A) (hg : Gl X x) (hm : X.mg x = some (.ref f)) (hk : PySem.W.keepIn X.K (.ref f) = true) (hx : Passes CX X E)
    (ha : PA X (e :: es) t) (hdb : (x == ("__debug__" : Str)) = false := by decide) (he : starEach (e :: es) X.env = (false, eval e X.env) :: starEach es X.env := by rfl) (hpl : (backTo pos (starEach es X.env)).any (·.1) = false := by rfl) :
    PE X (.Call (.Name x p1) (e :: es) [] pos) (fun σ H Q => t σ H fun vs H1 => sp vs H1 Q E) := by
  refine ⟨fun pins s σ H Q I h => ?_⟩
  refine wpAny_Call_Name_kw (ld_glob I hg hm ?_ hdb)
  refine PySem.W.callWith_K (h₀ := X.base) I.ok.mod.kin hk (thn (ha.run pos pins s σ H _ I h) fun us s1 ⟨vs, H1, I1, r, q⟩ => ⟨I1.kIn, ?_⟩) he hpl
  exact wpAny_call (run_G F qu hr I1.env0 hx I1 r q)
theorem Gd.fn (g : Gd W n X ex) {f : Addr} {sp : Sp} (F : FnG W.P W.w W.Z.K W.mg W.base (L2.CX W.P W.w) k f sp) : FnG X.prog X.w X.K X.mg X.base (L2.CX X.prog X.w) k f sp := by
  rw [g.hP, g.hw, g.hK, g.hm, g.hb]; exact F
theorem me_call [Calm W] {f : Nat} {gs : Gs} {e : Expr} (g : Gd W n X ex) (F : Fd W k x f) (ha : MG W X ex (e :: es) gs) (hk : k ≤ n := by omega) (hg : Gl X x := by rfl) (hdb : (x == ("__debug__" : Str)) = false := by decide) (he : starEach (e :: es) X.env = (false, eval e X.env) :: starEach es X.env := by rfl) (hpl : (backTo pos (starEach es X.env)).any (·.1) = false := by rfl) :
    ME W X ex (.Call (.Name x p1) (e :: es) [] pos) (.call f gs) := fun pk => by
  obtain ⟨a, h1, h2, h3⟩ := F.ex
  exact (pe_callF (g.fn h1) g.qu (g.room.mono hk) hg (by rw [g.hm]; exact h2) (by rw [g.hK]; exact h3) g.ps ha hdb he hpl).imp fun _ _ _ h => tE_call h
theorem me_callO [Calm W] {f : Nat} {e : Expr} (g : Gd W n X ex) (F : Fd W k x f) (ha : ME W X ex e A) (hk : k ≤ n := by omega) (hg : Gl X x := by rfl) (hdb : (x == ("__debug__" : Str)) = false := by decide) (he : starEach [e] X.env = (false, eval e X.env) :: starEach [] X.env := by rfl) (hpl : (backTo pos (starEach [] X.env)).any (·.1) = false := by rfl) :
    ME W X ex (.Call (.Name x p1) [e] [] pos) (.callO f A) := fun pk => by
  obtain ⟨a, h1, h2, h3⟩ := F.ex
  exact (pe_callF (g.fn h1) g.qu (g.room.mono hk) hg (by rw [g.hm]; exact h2) (by rw [g.hK]; exact h3) g.ps (pa_cons (ha false) pa_nil he) hdb he hpl).imp fun _ _ _ h => tE_callO h
/-! builtins -/
theorem me_b1 {p : P} {r : List V → Hp → VK → Prop} {id : String} (hc : CallR X (.builtin id) r) (hp : ∀ x H Q, PrimPost W.Z p [x] H Q → r [x] H Q) (hv : bootBuiltins x = some (.builtin id)) (hm : X.mg x = none) (ha : ME W X ex a A) (hg : Gl X x) (hn : x ≠ "__name__" := by decide)
    (hdb : (x == ("__debug__" : Str)) = false := by decide) (he : starEach [a] X.env = (false, eval a X.env) :: starEach [] X.env := by rfl) : ME W X ex (.Call (.Name x p1) [a] [] pos) (.prm p (.cons A .nil)) := fun pk =>
  (pe_callB hc hg hm hv (pa_cons (ha true) pa_nil he) hn hdb he rfl).imp fun s H Q h => (tEs1 (tE_prm h)).mono fun y H1 z => hp y H1 Q z
theorem me_t1 {p : P} {r : List V → Hp → VK → Prop} {id : String} (hc : CallR X (.type id) r) (hp : ∀ x H Q, PrimPost W.Z p [x] H Q → r [x] H Q) (hv : bootBuiltins x = some (.type id)) (hm : X.mg x = none) (ha : ME W X ex a A) (hg : Gl X x) (hn : x ≠ "__name__" := by decide)
    (hdb : (x == ("__debug__" : Str)) = false := by decide) (he : starEach [a] X.env = (false, eval a X.env) :: starEach [] X.env := by rfl) : ME W X ex (.Call (.Name x p1) [a] [] pos) (.prm p (.cons A .nil)) := fun pk =>
  (pe_callTy hc hg hm hv (pa_cons (ha true) pa_nil he) hn hdb he rfl).imp fun s H Q h => (tEs1 (tE_prm h)).mono fun y H1 z => hp y H1 Q z
theorem me_b2 {p : P} {r : List V → Hp → VK → Prop} {id : String} (hc : CallR X (.builtin id) r) (hp : ∀ x y H Q, PrimPost W.Z p [x, y] H Q → r [x, y] H Q) (hv : bootBuiltins x = some (.builtin id)) (hm : X.mg x = none) (ha : ME W X ex a A) (hb : ME W X ex b B) (hg : Gl X x) (hn : x ≠ "__name__" := by decide)
    (hdb : (x == ("__debug__" : Str)) = false := by decide) (he : starEach [a, b] X.env = (false, eval a X.env) :: starEach [b] X.env := by rfl) (he2 : starEach [b] X.env = (false, eval b X.env) :: starEach [] X.env := by rfl) (hpl : (backTo pos (starEach [b] X.env)).any (·.1) = false := by rfl) : ME W X ex (.Call (.Name x p1) [a, b] [] pos) (.prm p (.cons A (.cons B .nil))) := fun pk =>
  (pe_callB hc hg hm hv (pa_cons (ha true) (pa_cons (hb true) pa_nil he2) he) hn hdb he hpl).imp fun s H Q h => (tEs2 (tE_prm h)).mono fun y H1 z => z.mono fun u H2 z => hp y u H2 Q z
theorem me_len (g : Gd W n X ex) (hm : W.mg "len" = none) (ha : ME W X ex a A) (hg : Gl X "len" := by rfl) (he : starEach [a] X.env = (false, eval a X.env) :: starEach [] X.env := by rfl) : ME W X ex (.Call (.Name "len" p1) [a] [] pos) (.prm .len (.cons A .nil)) :=
  me_b1 (callr_or call_len_seq call_len_str) (fun x H Q h => by rw [g.hK]; exact pr_len h) boot_len (by rw [g.hm]; exact hm) ha hg (he := he)
theorem me_abs (g : Gd W n X ex) (hm : W.mg "abs" = none) (ha : ME W X ex a A) (hg : Gl X "abs" := by rfl) (he : starEach [a] X.env = (false, eval a X.env) :: starEach [] X.env := by rfl) : ME W X ex (.Call (.Name "abs" p1) [a] [] pos) (.prm .abs (.cons A .nil)) :=
  me_b1 call_abs (fun x H Q h => pr_abs h) boot_abs (by rw [g.hm]; exact hm) ha hg (he := he)
theorem me_all [Calm W] (g : Gd W n X ex) (hm : W.mg "all" = none) (ha : ME W X ex a A) (hg : Gl X "all" := by rfl) (he : starEach [a] X.env = (false, eval a X.env) :: starEach [] X.env := by rfl) : ME W X ex (.Call (.Name "all" p1) [a] [] pos) (.prm .all (.cons A .nil)) :=
  me_b1 (cr_all g.calm) (fun x H Q h => by rw [g.hK]; exact pr_all h) boot_all (by rw [g.hm]; exact hm) ha hg (he := he)
theorem me_max2 [Calm W] (g : Gd W n X ex) (hm : W.mg "max" = none) (ha : ME W X ex a A) (hb : ME W X ex b B) (hg : Gl X "max" := by rfl) (he : starEach [a, b] X.env = (false, eval a X.env) :: starEach [b] X.env := by rfl) (he2 : starEach [b] X.env = (false, eval b X.env) :: starEach [] X.env := by rfl) (hpl : (backTo pos (starEach [b] X.env)).any (·.1) = false := by rfl) : ME W X ex (.Call (.Name "max" p1) [a, b] [] pos) (.prm .max2 (.cons A (.cons B .nil))) :=
  me_b2 (call_max2 g.calm) (fun x y H Q h => pr_max2 h) boot_max (by rw [g.hm]; exact hm) ha hb hg (he := he) (he2 := he2) (hpl := hpl)
theorem me_min2 [Calm W] (g : Gd W n X ex) (hm : W.mg "min" = none) (ha : ME W X ex a A) (hb : ME W X ex b B) (hg : Gl X "min" := by rfl) (he : starEach [a, b] X.env = (false, eval a X.env) :: starEach [b] X.env := by rfl) (he2 : starEach [b] X.env = (false, eval b X.env) :: starEach [] X.env := by rfl) (hpl : (backTo pos (starEach [b] X.env)).any (·.1) = false := by rfl) : ME W X ex (.Call (.Name "min" p1) [a, b] [] pos) (.prm .min2 (.cons A (.cons B .nil))) :=
  me_b2 (call_min2 g.calm) (fun x y H Q h => pr_min2 h) boot_min (by rw [g.hm]; exact hm) ha hb hg (he := he) (he2 := he2) (hpl := hpl)
theorem me_divmod (g : Gd W n X ex) (hm : W.mg "divmod" = none) (ha : ME W X ex a A) (hb : ME W X ex b B) (hg : Gl X "divmod" := by rfl) (he : starEach [a, b] X.env = (false, eval a X.env) :: starEach [b] X.env := by rfl) (he2 : starEach [b] X.env = (false, eval b X.env) :: starEach [] X.env := by rfl) (hpl : (backTo pos (starEach [b] X.env)).any (·.1) = false := by rfl) : ME W X ex (.Call (.Name "divmod" p1) [a, b] [] pos) (.prm .divmod (.cons A (.cons B .nil))) :=
  me_b2 call_divmod (fun x y H Q h => pr_divmod h) boot_divmod (by rw [g.hm]; exact hm) ha hb hg (he := he) (he2 := he2) (hpl := hpl)
theorem me_toInt (g : Gd W n X ex) (hm : W.mg "int" = none) (ha : ME W X ex a A) (hg : Gl X "int" := by rfl) (he : starEach [a] X.env = (false, eval a X.env) :: starEach [] X.env := by rfl) : ME W X ex (.Call (.Name "int" p1) [a] [] pos) (.prm .int (.cons A .nil)) :=
  me_t1 (callr_or call_int1 call_int_str) (fun x H Q h => pr_int h) boot_int (by rw [g.hm]; exact hm) ha hg (he := he)
/-! classes with slots -/
/-- what isinstance asks of the classes 0 .. m-1 -/
structure Co (Z : Zc) (m : Nat) : Prop where
  sc : ∀ i, i < m → SCls Z.K (Z.C i)
  si : ∀ i, i < m → SIsi Z.K (Z.C i)
  kt : ∀ i, i < m → ∀ t ∈ ["int", "str", "tuple", "list", "bool"], PySem.W.kitOne Z.K (.ref (Z.C i)) (.type t) = some false
  kb : ∀ i, i < m → ∀ t ∈ ["int", "str", "tuple", "list", "bool", "NoneType", "dict"], PySem.W.kitOne Z.K (.type t) (.ref (Z.C i)) = some false
  kc : ∀ i j, i < m → j < m → PySem.W.kitOne Z.K (.ref (Z.C i)) (.ref (Z.C j)) = some (i == j)
/-! fields, properties -/
/-- the field f of the class c: the i-th -/
structure Sd (W : Wo) (c : Nat) (f : Str) (i : Nat) : Prop where
  sc : SCls W.Z.K (W.Z.C c)
  sl : ∃ p, Slot1 W.Z.K (W.Z.C c) f p i
/-- the property f of the class c: the def's promise -/
structure Pd (W : Wo) (k c : Nat) (x : Str) (f : Nat) : Prop where
  sc : SCls W.Z.K (W.Z.C c)
  ex : ∃ p a, PySem.W.findIn W.Z.K (.ref (W.Z.C c)) x = some (some (.ref p)) ∧ PySem.W.specialIn W.Z.K (.ref p) "__get__" = some (some (.builtin "property.__get__")) ∧ PySem.W.takesIn W.Z.K (.ref p) = some true ∧
    (∃ rest, PySem.W.recIn W.Z.K p "property" = some (.ref a :: rest)) ∧ FnG W.P W.w W.Z.K W.mg W.base (L2.CX W.P W.w) k a (spF W.Z W.K f)
/-! an instance is made -/
def AnC (Z : Zc) (E : XK) (C : Addr) (R0 : Pr) (x dx : Addr) (H : Hp) (Q : VK) : Res (List D) → Prop
  | .ok fs _ => ∀ ws H', KpN H H' x dx → Grd Z H' → H' x = some (SlO x C dx (ws.map some)) → H' dx = some (.xd []) → RepL Z H' R0 ws fs → Q .non H'
  | .exc c ds _ => ∀ d H', KpN H H' x dx → Grd Z H' → XRep Z H' R0 c ds d → E (.ref (Z.C c)) d H'
  | .bad => False
def spC (Z : Zc) (K : Calls) (c : Nat) : Sp := fun vs H Q E => ∃ x dx vs' R0 q, vs = .ref x :: vs' ∧ H x = some (.ins (Z.C c) dx []) ∧ H dx = some (.own x) ∧ dx ≠ x ∧ R0 x ∧ R0 dx ∧ FR Z R0 (vs'.map some) q H ∧
  (∀ (i : Nat) b d, q[i]? ≠ some (.ow b d)) ∧ AnC Z E (Z.C c) R0 x dx H Q (K.cn c q)
structure Md (W : Wo) (k : Nat) (x : Str) (c : Nat) : Prop where
  ex : ∃ a, Mk W.Z.K (W.Z.C c) a ∧ FnG W.P W.w W.Z.K W.mg W.base (L2.CX W.P W.w) k a (spC W.Z W.K c) ∧ W.mg x = some (.ref (W.Z.C c))
  lt : c < W.Z.nc
/-! append, extend -/
end
end M

set_option Elab.async false
set_option linter.all false
set_option maxRecDepth 100000
set_option maxHeartbeats 4000000
/-! A11: what is walked; targets. -/
namespace M
open PySem L2 PyProof.Rows

def Gen (Z : Zc) (R : Pr) (H : Hp) (J : It) (ds : List D) : Prop := ∃ G Y, Walk J ds.length G Y ∧ (∀ R' H', Lat R H R' H' → G H') ∧
  ∀ (i : Nat) x R' H' H'' d, ds[i]? = some d → Lat R H R' H' → (∀ b, R' b → H' b ≠ none) → Y i H' x H'' → Same H' H'' ∧ Rep Z H'' R' x d
def PoJ (Z : Zc) (R0 : Pr) (s : Sg) (H : Hp) (q' : Fm) (H' : Hp) (J : It) (ds : List D) : Prop := FR Z R0 s q' H' ∧ Gen Z (Rt R0 s q') H' J ds
def tI (Z : Zc) (K : Calls) (ex : XK) (it : I) : TI := TR Z ex (evI K it) (PoJ Z)
def MI (W : Wo) (X : Cx) (ex : XK) (tg e : Expr) (t : I) : Prop := PI X tg e (tI W.Z W.K ex t)
theorem _root_.L2.PI.imp {X : Cx} {tg e : Expr} {t t' : TI} (h : PI X tg e t) (i : ∀ s H Q, t' s H Q → t s H Q) : PI X tg e t' := ⟨fun pins s σ H Q I q => h.run pins s σ H Q I (i σ H Q q)⟩
theorem Gen.mono {Z : Zc} {R R' : Pr} {H H' : Hp} {J : It} {ds : List D} (g : Gen Z R H J ds) (l : Lat R H R' H') : Gen Z R' H' J ds := by
  obtain ⟨G, Y, w, h1, h2⟩ := g
  exact ⟨G, Y, w, fun R2 H2 l2 => h1 R2 H2 (l.trans l2), fun i x R2 H2 H3 d e l2 => h2 i x R2 H2 H3 d e (l.trans l2)⟩
section
variable {Z : Zc} {R : Pr} {H : Hp} {ds : List D} {a : Addr} {xs : List V}
theorem gen_lst (h : AtL Z.K H R a xs) (r : RepL Z H R xs ds) : Gen Z R H (Itl Z.K a) ds := by
  refine ⟨fun H => SqL Z.K H a xs, YAt xs, r.length ▸ walk_list, fun R' H' l => (h.lat l).sq, fun i x R' H' H'' d e l ht y => ?_⟩
  obtain ⟨rfl, y⟩ := y
  obtain ⟨v, h1, h2⟩ := (r.lat l).get e
  rw [y] at h1; cases h1
  exact ⟨Same.refl _, h2⟩
theorem gen_tup (h : AtT Z.K H R a xs) (r : RepL Z H R xs ds) : Gen Z R H (Itt Z.K a) ds := by
  refine ⟨fun H => SqT Z.K H a xs, YAt xs, r.length ▸ walk_tup, fun R' H' l => (h.lat l).sq, fun i x R' H' H'' d e l ht y => ?_⟩
  obtain ⟨rfl, y⟩ := y
  obtain ⟨v, h1, h2⟩ := (r.lat l).get e
  rw [y] at h1; cases h1
  exact ⟨Same.refl _, h2⟩
theorem gen_str (z : Str) : Gen Z R H (Its z) (strL z) := by
  have hl : (strL z).length = z.cps.size := by unfold strL; simp
  refine ⟨fun _ => True, _, hl ▸ walk_str, fun _ _ _ => True.intro, fun i x R' H' H'' d e l ht y => ?_⟩
  obtain ⟨rfl, c, h1, rfl⟩ := y
  refine ⟨Same.refl _, ?_⟩
  have : (strL z)[i]? = some (.str ⟨#[c]⟩) := by unfold strL; simp [h1]
  rw [this] at e; cases e
  exact .str _
theorem gen_rng {lo : Int} {n : Nat} : Gen Z R H (Itr lo n) (rngL lo n) := by
  have hl : (rngL lo n).length = n := by unfold rngL; simp
  refine ⟨fun _ => True, _, by rw [hl]; exact walk_range, fun _ _ _ => True.intro, fun i x R' H' H'' d e l ht y => ?_⟩
  obtain ⟨rfl, rfl⟩ := y
  refine ⟨Same.refl _, ?_⟩
  unfold rngL at e
  rw [List.getElem?_map] at e
  cases e2 : (List.range n)[i]? with
  | none => rw [e2] at e; cases e
  | some k =>
    rw [e2] at e; cases e
    have : k = i := by
      have := List.getElem?_eq_some_iff.mp e2
      obtain ⟨h1, h2⟩ := this
      simpa using h2.symm
    subst this
    exact .int _
/-- a list or a tuple -/
def AtX (b : Bool) (K : PySem.W.Frag) (H : Hp) (R : Pr) (a : Addr) (xs : List V) : Prop := match b with | true => AtT K H R a xs | false => AtL K H R a xs
theorem AtX.sq {b : Bool} {K : PySem.W.Frag} (h : AtX b K H R a xs) : SqX b K H a xs := by
  cases b with
  | true => exact AtT.sq h
  | false => exact AtL.sq h
theorem AtX.lat {b : Bool} {K : PySem.W.Frag} {R' : Pr} {H' : Hp} (l : Lat R H R' H') (h : AtX b K H R a xs) : AtX b K H' R' a xs := by
  cases b with
  | true => exact AtT.lat l h
  | false => exact AtL.lat l h
end
/-! rules -/
def iSeqX (K : PySem.W.Frag) (te : TE) : TI := fun σ H R => te σ H fun v H1 => (∃ a xs, v = .ref a ∧ SqL K H1 a xs ∧ R (Itl K a) H1) ∨ (∃ a xs, v = .ref a ∧ SqT K H1 a xs ∧ R (Itt K a) H1) ∨ ∃ z, v = .str z ∧ R (Its z) H1
theorem pi_seqX {X : Cx} {tg e : Expr} {te : TE} (he : PE X e te) : PI X tg e (iSeqX X.K te) := by
  refine ⟨fun pins s σ H R I h => ?_⟩
  refine thn (he.run pins s σ H _ I h) fun v s1 ⟨y, H1, I1, r1, q⟩ => ?_
  rcases q with ⟨a, xs, rfl, hq, q⟩ | ⟨a, xs, rfl, hq, q⟩ | ⟨x, rfl, q⟩
  · cases r1
    obtain ⟨its, rv, p, hz⟩ := I1.list hq
    refine wpAny_pyIter_list p.isList ?_
    refine ⟨s1.heap.objs.size, [s1.heap.objs.size], _, _, H1, rfl, I1.kept (t' := s1.toks) fun b o e => Heap.get?_push_of_some _ e, turn_list a _, ⟨_, Heap.get?_push_size _ rfl, rfl, rfl⟩, fun b hb => ?_, q⟩
    have e : b = s1.heap.objs.size := by simpa using hb
    subst e
    exact I1.fpOk (Nat.le_refl _) (I1.hok.fresh (Nat.le_refl _))
  · cases r1
    obtain ⟨its, rv, p, hz⟩ := I1.tuple hq
    refine wpAny_pyIter_tuple (show s1.heap.IsTuple a its.toArray from p) ?_
    refine ⟨s1.heap.objs.size, [s1.heap.objs.size], _, _, H1, rfl, I1.kept (t' := s1.toks) fun b o e => Heap.get?_push_of_some _ e, turn_tuple a _, ⟨_, Heap.get?_push_size _ rfl, rfl, rfl⟩, fun b hb => ?_, q⟩
    have e : b = s1.heap.objs.size := by simpa using hb
    subst e
    exact I1.fpOk (Nat.le_refl _) (I1.hok.fresh (Nat.le_refl _))
  · obtain ⟨t, rfl⟩ := r1
    cases ha : x.cps.all (· < 128)
    · exact wpAny_pyIter_wide ha (pi_one (tk := s1.toks) I1 _ (turn_str _ x t "str_iterator" (.inr rfl)) ⟨_, Heap.get?_push_size _ rfl, rfl, rfl⟩ q)
    · exact wpAny_pyIter_ascii ha (pi_one (tk := s1.toks) I1 _ (turn_str _ x t "str_ascii_iterator" (.inl rfl)) ⟨_, Heap.get?_push_size _ rfl, rfl, rfl⟩ q)
section
variable {W : Wo} {X : Cx} {ex : XK} {n : Nat} {pos p1 p2 : Pos} {a b c tg : Expr} {A B C : E} {x : Str}
theorem mi_seq (g : Gd W n X ex) (ha : ME W X ex a A) : MI W X ex tg a (.seq A) := (pi_seqX (ha false)).imp fun s H Q h => by
  unfold tI at h
  rw [show evI W.K (.seq A) = fun q => bindR (ev W.K A false q) fun r q1 => match r.vd with
    | some d => match itemsD d with
      | some l => .ok l q1
      | none => .bad
    | none => .bad from rfl] at h
  refine TR.bind h fun R0 q q1 r w H1 f0 l bk p z => ?_
  cases e : r.vd with
  | none => rw [e] at z; exact z.elim
  | some d =>
    rw [e] at z
    dsimp only at z
    obtain ⟨f1, rp⟩ := p.vd f0 e
    rw [g.hK]
    cases rp with
    | lst h1 h2 => exact .inl ⟨_, _, rfl, h1.sq, z _ H1 l bk ⟨f1, gen_lst h1 h2⟩⟩
    | tup h1 h2 => exact .inr (.inl ⟨_, _, rfl, h1.sq, z _ H1 l bk ⟨f1, gen_tup h1 h2⟩⟩)
    | str y => exact .inr (.inr ⟨_, rfl, z _ H1 l bk ⟨f1, gen_str y⟩⟩)
    | _ => exact z.elim
theorem vds_cons {r : RV} {rs : List RV} {ds : List D} (h : vds (r :: rs) = some ds) : ∃ d l, ds = d :: l ∧ r.vd = some d ∧ vds rs = some l := by
  unfold vds at h
  cases e : r.vd with
  | none => rw [e] at h; cases h
  | some d =>
    cases e2 : vds rs with
    | none => rw [e, e2] at h; cases h
    | some l => rw [e, e2] at h; cases h; exact ⟨d, l, rfl, rfl, rfl⟩
theorem vds_nil {ds : List D} (h : vds [] = some ds) : ds = [] := by cases h; rfl
theorem inR_iff {i : Int} (h : inR i = true) : -(2 ^ 62) ≤ i ∧ i < 2 ^ 62 := by
  unfold inR at h
  simpa using h
section
variable {Z : Zc} {K : Calls} {s : Sg} {H : Hp}
theorem tI_1 {it : I} {f : List D → Option (List D)} {Q : It → Hp → Prop} (he : evI K it = fun q => bindR (ev K A false q) fun r q1 => itR [r] q1 f) (h : tI Z K ex it s H Q) :
    tE Z K ex A false s H fun v H1 => ∃ R d l, (∀ b, R b → H1 b ≠ none) ∧ Rep Z H1 R v d ∧ f [d] = some l ∧ ∀ J, Gen Z R H1 J l → Q J H1 := by
  unfold tI at h
  rw [he] at h
  refine TR.bind h fun R0 q q1 r w H1 f0 l bk p z => ?_
  unfold itR at z
  cases e : vds [r] with
  | none => rw [e] at z; exact z.elim
  | some ds =>
    rw [e] at z
    dsimp only at z
    obtain ⟨d, l', rfl, e1, e2⟩ := vds_cons e
    cases vds_nil e2
    cases e3 : f [d] with
    | none => rw [e3] at z; exact z.elim
    | some li =>
      rw [e3] at z
      obtain ⟨f1, rp⟩ := p.vd f0 e1
      exact ⟨_, d, li, fun b hb => f1.rtT hb, rp, e3, fun J gg => z J H1 l bk ⟨f1, gg⟩⟩
end
theorem rep_int {Z : Zc} {H : Hp} {R : Pr} {v : V} {i : Int} (h : Rep Z H R v (.int i)) : v = .int i := by cases h; rfl
theorem mi_rng1 (g : Gd W n X ex) (hm : W.mg "range" = none) (ha : ME W X ex a A) (hg : Gl X "range" := by rfl) (hs : starEach [a] X.env = [(false, eval a X.env)] := by rfl) : MI W X ex tg (.Call (.Name "range" p1) [a] [] pos) (.rng1 A) :=
  (pi_range1 hg (by rw [g.hm]; exact hm) (pa_cons (ha false) pa_nil hs) hs).imp fun s H Q h => (tI_1 rfl h).mono fun v H1 z => by
    obtain ⟨R, d, l, ht, rp, e, k⟩ := z
    cases d with
    | int j =>
      simp only [rng1F] at e
      split at e
      · rename_i hr
        cases e
        obtain ⟨h1, h2⟩ := inR_iff hr
        exact ⟨j, by rw [rep_int rp], h1, h2, k _ gen_rng⟩
      · cases e
    | _ => cases e
end
end M

set_option Elab.async false
set_option linter.all false
set_option maxRecDepth 100000
set_option maxHeartbeats 4000000
/-! A12: targets. -/
namespace M
open PySem L2 PyProof.Rows

def BKs (σ : Sg) (q : Fm) (σ' : Sg) (q' : Fm) : Prop := ∀ i, bor q' i → bor q i ∧ σ'[i]? = σ[i]?
theorem BKs.refl (σ : Sg) (q : Fm) : BKs σ q σ q := fun _ h => ⟨h, rfl⟩
theorem BKs.trans {σ σ1 σ2 : Sg} {q q1 q2 : Fm} (a : BKs σ q σ1 q1) (b : BKs σ1 q1 σ2 q2) : BKs σ q σ2 q2 := fun i h => ⟨(a i (b i h).1).1, (b i h).2.trans (a i (b i h).1).2⟩
theorem BK.s {σ : Sg} {q q' : Fm} (b : BK q q') : BKs σ q σ q' := fun i h => ⟨b i h, rfl⟩
def PreG (Z : Zc) (R0 : Pr) (σ : Sg) (q : Fm) (H : Hp) (v : V) : RV → Prop
  | .val d => FR Z R0 σ q H ∧ Rep Z H (Rt R0 σ q) v d
  | .new d => ∃ a, v = .ref a ∧ ¬ R0 a ∧ FR Z (P1 R0 a) σ q H ∧ OwnAt Z H (Rt (P1 R0 a) σ q) a d
  | .slot _ => FR Z R0 σ q H
def Ax (r : RV) (v : V) : Pr := fun b => match r with | .new _ => v = .ref b | _ => False
def AnG (Z : Zc) (R0 : Pr) (σ : Sg) (q : Fm) (H : Hp) (B : Pr) (ns : List Nat) (Q : Sg → Hp → Prop) : Res Unit → Prop
  | .ok _ q' => ∀ σ' H', Lat B H (Ow σ' q') H' → BKs σ q σ' q' → (∀ i, i ∉ ns → σ'[i]? = σ[i]?) → σ'.length = σ.length → FR Z R0 σ' q' H' → Q σ' H'
  | _ => False
def tG (Z : Zc) (K : Calls) (l : LV) : TG := fun v σ H Q => ∃ R0 q r, PreG Z R0 σ q H v r ∧ AnG Z R0 σ q H (fun b => Ow σ q b ∨ Ax r v b) l.ns Q (evL K l r q)
def tGl (Z : Zc) (K : Calls) (l : LVs) : TGs := fun vs σ H Q => ∃ R0 q ds, FR Z R0 σ q H ∧ RepL Z H (Rt R0 σ q) vs ds ∧ AnG Z R0 σ q H (Ow σ q) l.ns Q (evLs K l ds q)
def ML (W : Wo) (X : Cx) (tg : Expr) (l : LV) : Prop := PG X tg (tG W.Z W.K l)
def MLs (W : Wo) (X : Cx) (tg : List Expr) (l : LVs) : Prop := PGs X tg (tGl W.Z W.K l)
theorem _root_.L2.PG.imp {X : Cx} {tg : Expr} {t t' : TG} (h : PG X tg t) (i : ∀ v s H Q, t' v s H Q → t v s H Q) : PG X tg t' := ⟨fun pins s σ H v u Q I r q => h.run pins s σ H v u Q I r (i v σ H Q q)⟩
theorem _root_.L2.PGs.imp {X : Cx} {tg : List Expr} {t t' : TGs} (h : PGs X tg t) (i : ∀ v s H Q, t' v s H Q → t v s H Q) : PGs X tg t' := ⟨fun pins s σ H v u Q I r q => h.run pins s σ H v u Q I r (i v σ H Q q)⟩
section
variable {Z : Zc} {K : Calls} {R0 : Pr} {σ : Sg} {q : Fm} {H : Hp} {v : V}
theorem own_rep {a : Addr} {d : D} (n : ¬ R0 a) (f : FR Z (P1 R0 a) σ q H) (o : OwnAt Z H (Rt (P1 R0 a) σ q) a d) : FR Z R0 σ q H ∧ Rep Z H (Rt R0 σ q) (.ref a) d := by
  refine ⟨f.fewer fun b z => .inl z, ?_⟩
  obtain ⟨ds, xs, e, h1, h2⟩ := o
  subst e
  refine .lst (.inl ⟨.inl h1, fun z => ?_⟩) (h2.lat (Lat.sub fun c z => Or.elim z (fun z => .inl (.inl z)) .inr))
  rcases z with z | ⟨i, b, d, z1, z2⟩
  · exact n z
  · obtain ⟨a', e1, n, _⟩ := f.ow i b d z1
    rw [z2] at e1; cases e1
    exact n (.inr rfl)
theorem PreG.vd {r : RV} {d : D} (h : PreG Z R0 σ q H v r) (e : r.vd = some d) : FR Z R0 σ q H ∧ Rep Z H (Rt R0 σ q) v d := by
  cases r with
  | val d' => cases e; exact h
  | new d' =>
    cases e
    obtain ⟨a, rfl, n, f, o⟩ := h
    exact own_rep n f o
  | slot i => cases e
theorem set_ow {i : Nat} {t : Slot} {b : Addr} (ht : t.isOw = false) {x : Option V} (h : Ow (σ.set i x) (q.set i t) b) : Ow σ q b := by
  obtain ⟨j, b', d, h1, h2⟩ := h
  by_cases hj : i = j
  · subst hj
    by_cases hl : i < q.length
    · rw [List.getElem?_set_self hl] at h1; cases h1; cases ht
    · rw [List.getElem?_eq_none (by simpa using hl)] at h1; cases h1
  · rw [List.getElem?_set_ne hj] at h1 h2
    exact ⟨j, b', d, h1, h2⟩
/-- a name gets a shared value -/
theorem FR.setSh (f : FR Z R0 σ q H) {i : Nat} {d : D} (hi : i < q.length) (r : Rep Z H (Rt R0 σ q) v d) : FR Z R0 (σ.set i (some v)) (q.set i (.sh false d)) H := by
  have lt : Lat (Rt R0 σ q) H (Rt R0 (σ.set i (some v)) (q.set i (.sh false d))) H := Lat.sub fun b z => Or.elim z .inl fun z => .inr (set_ow rfl z)
  have hs : i < σ.length := by rw [f.len]; exact hi
  refine ⟨by rw [List.length_set, List.length_set]; exact f.len, f.tb, f.trk, fun j b d' e => ?_, fun j b d' e => ?_, fun j k b b' d1 d2 a e e' h1 h2 => ?_⟩
  · by_cases hj : i = j
    · subst hj
      rw [List.getElem?_set_self hi] at e; cases e
      exact ⟨v, List.getElem?_set_self hs, r.lat lt⟩
    · rw [List.getElem?_set_ne hj] at e
      obtain ⟨w, h1, h2⟩ := f.sh j b d' e
      exact ⟨w, by rw [List.getElem?_set_ne hj]; exact h1, h2.lat lt⟩
  · by_cases hj : i = j
    · subst hj
      rw [List.getElem?_set_self hi] at e; cases e
    · rw [List.getElem?_set_ne hj] at e
      obtain ⟨a, h1, h2, h3⟩ := f.ow j b d' e
      exact ⟨a, by rw [List.getElem?_set_ne hj]; exact h1, h2, h3.lat lt rfl⟩
  · have n1 : i ≠ j := fun z => by subst z; rw [List.getElem?_set_self hi] at e; cases e
    have n2 : i ≠ k := fun z => by subst z; rw [List.getElem?_set_self hi] at e'; cases e'
    rw [List.getElem?_set_ne n1] at e h1
    rw [List.getElem?_set_ne n2] at e' h2
    exact f.sep j k b b' d1 d2 a e e' h1 h2
theorem setOw_ow {i : Nat} {a b : Addr} {d : D} (hs : i < σ.length) (h : Ow (σ.set i (some (.ref a))) (q.set i (.ow false d)) b) : Ow σ q b ∨ b = a := by
  obtain ⟨j, b', d', h1, h2⟩ := h
  by_cases hj : i = j
  · subst hj
    rw [List.getElem?_set_self hs] at h2
    cases h2
    exact .inr rfl
  · rw [List.getElem?_set_ne hj] at h1 h2
    exact .inl ⟨j, b', d', h1, h2⟩
/-- a name gets a new list -/
theorem FR.setOw {a : Addr} (f : FR Z (P1 R0 a) σ q H) (n : ¬ R0 a) {i : Nat} {d : D} (hi : i < q.length) (o : OwnAt Z H (Rt (P1 R0 a) σ q) a d) : FR Z R0 (σ.set i (some (.ref a))) (q.set i (.ow false d)) H := by
  have hs : i < σ.length := by rw [f.len]; exact hi
  have lt : Lat (Rt (P1 R0 a) σ q) H (Rt R0 (σ.set i (some (.ref a))) (q.set i (.ow false d))) H := Lat.sub fun b z => by
    rcases z with z | z
    · exact .inl (.inl z)
    · exact Or.elim (setOw_ow hs z) .inr fun e => .inl (.inr e)
  refine ⟨by rw [List.length_set, List.length_set]; exact f.len, f.tb, fun b z => f.trk b (.inl z), fun j b d' e => ?_, fun j b d' e => ?_, fun j k b b' d1 d2 c e e' h1 h2 => ?_⟩
  · have hj : i ≠ j := fun z => by subst z; rw [List.getElem?_set_self hi] at e; cases e
    rw [List.getElem?_set_ne hj] at e
    obtain ⟨w, h1, h2⟩ := f.sh j b d' e
    exact ⟨w, by rw [List.getElem?_set_ne hj]; exact h1, h2.lat lt⟩
  · by_cases hj : i = j
    · subst hj
      rw [List.getElem?_set_self hi] at e; cases e
      exact ⟨a, List.getElem?_set_self hs, n, o.lat lt rfl⟩
    · rw [List.getElem?_set_ne hj] at e
      obtain ⟨a', h1, h2, h3⟩ := f.ow j b d' e
      exact ⟨a', by rw [List.getElem?_set_ne hj]; exact h1, fun z => h2 (.inl z), h3.lat lt rfl⟩
  · have key : ∀ {k : Nat} {b' : Bool} {d2 : D}, i ≠ k → q[k]? = some (.ow b' d2) → σ[k]? = some (some (.ref a)) → False := fun {k b' d2} hk e h => by
      obtain ⟨a', h1, h2, _⟩ := f.ow k b' d2 e
      rw [h] at h1; cases h1
      exact h2 (.inr rfl)
    by_cases hj : i = j
    · by_cases hk : i = k
      · exact hj.symm.trans hk
      · subst hj
        rw [List.getElem?_set_self hs] at h1; cases h1
        rw [List.getElem?_set_ne hk] at e' h2
        exact (key hk e' h2).elim
    · by_cases hk : i = k
      · subst hk
        rw [List.getElem?_set_self hs] at h2; cases h2
        rw [List.getElem?_set_ne hj] at e h1
        exact (key hj e h1).elim
      · rw [List.getElem?_set_ne hj] at e h1
        rw [List.getElem?_set_ne hk] at e' h2
        exact f.sep j k b b' d1 d2 c e e' h1 h2
/-- an owned list is written -/
theorem FR.put (f : FR Z R0 σ q H) {i : Nat} {b : Bool} {d : D} {a : Addr} {ds : List D} {xs : List V} (e : q[i]? = some (.ow b d)) (es : σ[i]? = some (some (.ref a))) (r : RepL Z H (Rt R0 σ q) xs ds) :
    FR Z R0 σ (q.set i (.ow b (.lst ds))) (upd H a (.lst xs)) ∧ Lat (Ow σ q) H (Ow σ (q.set i (.ow b (.lst ds)))) (upd H a (.lst xs)) ∧ BK q (q.set i (.ow b (.lst ds))) := by
  have hi : i < q.length := (List.getElem?_eq_some_iff.mp e).1
  have ow' : ∀ {c : Addr}, Ow σ (q.set i (.ow b (.lst ds))) c → Ow σ q c := fun {c} ⟨j, b', d', h1, h2⟩ => by
    by_cases hj : i = j
    · subst hj
      exact ⟨i, b, d, e, h2⟩
    · rw [List.getElem?_set_ne hj] at h1
      exact ⟨j, b', d', h1, h2⟩
  have ha : Ow σ q a := ⟨i, b, d, e, es⟩
  have lt : Lat (Ow σ q) H (Ow σ (q.set i (.ow b (.lst ds)))) (upd H a (.lst xs)) := by
    refine ⟨fun c o h n _ => ?_, fun c z => .inl (ow' z), fun c h => ?_⟩
    · rw [upd_ne (fun z => by subst z; exact n ha)]; exact h
    · by_cases hc : c = a
      · rw [hc, upd_same]; exact fun z => nomatch z
      · rw [upd_ne hc]; exact h
  have lr := lat_rt (R0 := R0) lt
  refine ⟨⟨by rw [List.length_set]; exact f.len, f.tb.upd (f.owT ha).choose_spec, fun c z => lt.tr c (f.trk c z), fun j b' d' z => ?_, fun j b' d' z => ?_, fun j k b1 b2 d1 d2 c z1 z2 h1 h2 => ?_⟩, lt, bk_set e fun z => z⟩
  · have hj : i ≠ j := fun y => by subst y; rw [List.getElem?_set_self hi] at z; cases z
    rw [List.getElem?_set_ne hj] at z
    obtain ⟨w, h1, h2⟩ := f.sh j b' d' z
    exact ⟨w, h1, h2.lat lr⟩
  · by_cases hj : i = j
    · subst hj
      rw [List.getElem?_set_self hi] at z; cases z
      obtain ⟨a', h1, h2, _⟩ := f.ow i b d e
      rw [es] at h1; cases h1
      exact ⟨a, es, h2, ds, xs, rfl, upd_same, r.lat lr⟩
    · rw [List.getElem?_set_ne hj] at z
      obtain ⟨a', h1, h2, ds', xs', h3, h4, h5⟩ := f.ow j b' d' z
      refine ⟨a', h1, h2, ds', xs', h3, ?_, h5.lat lr⟩
      rw [upd_ne (fun y => by subst y; exact hj (f.sep i j b b' d d' _ e z es h1))]
      exact h4
  · have g1 : ∃ b' d', q[j]? = some (.ow b' d') := by
      by_cases hj : i = j
      · exact ⟨b, d, hj ▸ e⟩
      · rw [List.getElem?_set_ne hj] at z1; exact ⟨_, _, z1⟩
    have g2 : ∃ b' d', q[k]? = some (.ow b' d') := by
      by_cases hj : i = k
      · exact ⟨b, d, hj ▸ e⟩
      · rw [List.getElem?_set_ne hj] at z2; exact ⟨_, _, z2⟩
    obtain ⟨_, _, g1⟩ := g1
    obtain ⟨_, _, g2⟩ := g2
    exact f.sep j k _ _ _ _ c g1 g2 h1 h2
theorem bks_set {i : Nat} {t t' : Slot} {x : Option V} (e : q[i]? = some t) (h : t'.isBor = false) : BKs σ q (σ.set i x) (q.set i t') := by
  intro j ⟨u, h1, h2⟩
  by_cases hj : i = j
  · subst hj
    rw [List.getElem?_set_self (List.getElem?_eq_some_iff.mp e).1] at h1; cases h1
    rw [h] at h2; cases h2
  · rw [List.getElem?_set_ne hj] at h1 ⊢
    exact ⟨⟨u, h1, h2⟩, rfl⟩
theorem tG_nm {i : Nat} {Q : Sg → Hp → Prop} (h : tG Z K (.nm i) v σ H Q) : gName i v σ H Q := by
  obtain ⟨R0, q, r, p, h⟩ := h
  rw [show evL K (.nm i) r q = setName i r q from rfl] at h
  unfold setName at h
  cases e : q[i]? with
  | none => rw [e] at h; exact h.elim
  | some t =>
    rw [e] at h
    dsimp only at h
    cases hb : t.isBor with
    | true => rw [hb] at h; exact h.elim
    | false =>
      rw [hb] at h
      have hi : i < q.length := (List.getElem?_eq_some_iff.mp e).1
      have ns : ∀ x : Option V, ∀ j, j ∉ (LV.nm i).ns → (σ.set i x)[j]? = σ[j]? := fun x j hj => List.getElem?_set_ne (fun z => hj (by subst z; simp [LV.ns]))
      cases r with
      | slot _ => exact h.elim
      | val d =>
        obtain ⟨f, rp⟩ := p
        exact h (σ.set i (some v)) H (Lat.sub fun b z => .inl (set_ow rfl z)) (bks_set e rfl) (ns _) List.length_set (f.setSh hi rp)
      | new d =>
        obtain ⟨a, rfl, n, f, o⟩ := p
        have hs : i < σ.length := by rw [f.len]; exact hi
        exact h (σ.set i (some (.ref a))) H (Lat.sub fun b z => Or.elim (setOw_ow hs z) .inl fun e => .inr (by rw [e]; exact rfl)) (bks_set e rfl) (ns _) List.length_set (f.setOw n hi o)
theorem tGl_nil {Q : Sg → Hp → Prop} {vs : List V} (h : tGl Z K .nil vs σ H Q) : gNil vs σ H Q := by
  obtain ⟨R0, q, ds, f, r, h⟩ := h
  cases r with
  | nil => exact ⟨rfl, h σ H (Lat.refl _ _) (BKs.refl _ _) (fun _ _ => rfl) rfl f⟩
  | cons _ _ => exact h.elim
theorem tGl_cons {l : LV} {ls : LVs} {Q : Sg → Hp → Prop} {vs : List V} (h : tGl Z K (.cons l ls) vs σ H Q) : gCons (tG Z K l) (tGl Z K ls) vs σ H Q := by
  obtain ⟨R0, q, ds, f, r, h⟩ := h
  cases r with
  | nil => exact h.elim
  | @cons v vs d ds r1 r2 =>
    rw [show evLs K (.cons l ls) (d :: ds) q = (match evL K l (.val d) q with
      | .ok _ q1 => evLs K ls ds q1
      | _ => .bad) from rfl] at h
    refine ⟨v, vs, rfl, R0, q, .val d, ⟨f, r1⟩, ?_⟩
    cases e : evL K l (.val d) q with
    | bad => rw [e] at h; exact h.elim
    | exc _ _ _ => rw [e] at h; exact h.elim
    | ok u q1 =>
      rw [e] at h
      intro σ1 H1 l1 b1 n1 len1 f1
      have l1 : Lat (Ow σ q) H (Ow σ1 q1) H1 := ⟨fun b o hb n => l1.kp b o hb fun z => Or.elim z n fun z => z.elim, fun b z => Or.elim (l1.nw b z) (fun z => Or.elim z .inl fun z => z.elim) .inr, l1.tr⟩
      refine ⟨R0, q1, ds, f1, r2.lat l1.more, ?_⟩
      dsimp only at h
      cases e2 : evLs K ls ds q1 with
      | bad => rw [e2] at h; exact h.elim
      | exc _ _ _ => rw [e2] at h; exact h.elim
      | ok u2 q2 =>
        rw [e2] at h
        intro σ2 H2 l2 b2 n2 len2 f2
        refine h σ2 H2 (l1.trans l2) (b1.trans b2) (fun i hi => ?_) (len2.trans len1) f2
        have hi' : i ∉ l.ns ∧ i ∉ ls.ns := by simpa [LVs.ns] using hi
        exact (n2 i hi'.2).trans (n1 i hi'.1)
theorem tG_tp {ls : LVs} {Q : Sg → Hp → Prop} (h : tG Z K (.tp ls) v σ H Q) : gTup Z.K ls.len (tGl Z K ls) v σ H Q := by
  obtain ⟨R0, q, r, p, h⟩ := h
  rw [show evL K (.tp ls) r q = (match r.vd with
    | some (.tup ds) => if ds.length = ls.len then evLs K ls ds q else .bad
    | _ => .bad) from rfl] at h
  cases e : r.vd with
  | none => rw [e] at h; exact h.elim
  | some d =>
    rw [e] at h
    cases d with
    | tup ds =>
      dsimp only at h
      by_cases hl : ds.length = ls.len
      case neg => rw [if_neg hl] at h; exact h.elim
      rw [if_pos hl] at h
      obtain ⟨f, rp⟩ := p.vd e
      cases rp with
      | tup h1 h2 =>
        refine ⟨_, _, rfl, h1.sq, by rw [h2.length]; exact hl, R0, q, ds, f, h2, ?_⟩
        cases e2 : evLs K ls ds q with
        | bad => rw [e2] at h; exact h.elim
        | exc _ _ _ => rw [e2] at h; exact h.elim
        | ok u q1 =>
          rw [e2] at h
          intro σ1 H1 l1 b1 n1 len1 f1
          exact h σ1 H1 ⟨fun b o hb n => l1.kp b o hb fun z => n (.inl z), fun b z => Or.elim (l1.nw b z) (fun z => .inl (.inl z)) .inr, l1.tr⟩ b1 n1 len1 f1
    | _ => exact h.elim
theorem tG_sub {i : Nat} {k : E} {Q : Sg → Hp → Prop} {ex : XK} (h : tG Z K (.sub i k) v σ H Q) : gSub (tVar i) (tE Z K ex k false) rSetL v σ H Q := by
  obtain ⟨R0, q, r, p, h⟩ := h
  rw [show evL K (.sub i k) r q = (match r.vd, q[i]? with
    | some d, some (.ow _ _) => match ev K k false q with
      | .ok (.val z) q1 => setSub i z d q1
      | _ => .bad
    | _, _ => .bad) from rfl] at h
  cases e : r.vd with
  | none => rw [e] at h; exact h.elim
  | some d =>
    obtain ⟨f, rp⟩ := p.vd e
    cases e2 : q[i]? with
    | none => rw [e, e2] at h; exact h.elim
    | some t =>
      cases t with
      | no => rw [e, e2] at h; exact h.elim
      | pin => rw [e, e2] at h; exact h.elim
      | sh _ _ => rw [e, e2] at h; exact h.elim
      | ow b0 d0 =>
        rw [e, e2] at h
        dsimp only at h
        obtain ⟨a, ha, _⟩ := f.ow i b0 d0 e2
        refine ⟨.ref a, ha, R0, q, f, ?_⟩
        cases e3 : ev K k false q with
        | bad => rw [e3] at h; exact h.elim
        | exc _ _ _ => rw [e3] at h; exact h.elim
        | ok x q1 =>
          rw [e3] at h
          intro w H2 l2 b2 p2
          cases x with
          | new _ => exact h.elim
          | slot _ => exact h.elim
          | val z =>
            dsimp only at h
            obtain ⟨f2, rz⟩ := p2
            unfold setSub at h
            cases e4 : q1[i]? with
            | none => rw [e4] at h; exact h.elim
            | some t =>
              cases t with
              | no => rw [e4] at h; exact h.elim
              | pin => rw [e4] at h; exact h.elim
              | sh _ _ => rw [e4] at h; exact h.elim
              | ow b1 d1 =>
                cases d1 with
                | lst ds =>
                  cases z with
                  | int zi =>
                    rw [e4] at h
                    dsimp only at h
                    cases rz
                    obtain ⟨a', ha', _, ds', xs, hd, hx, hr⟩ := f2.ow i b1 _ e4
                    cases hd
                    rw [ha] at ha'; cases ha'
                    cases e5 : ixN ds.length zi with
                    | none => rw [e5] at h; exact h.elim
                    | some j =>
                      rw [e5] at h
                      dsimp only at h
                      have rv : Rep Z H2 (Rt R0 σ q1) v d := rp.lat (lat_rt l2)
                      obtain ⟨f3, l3, b3⟩ := f2.put e4 ha (hr.set rv j)
                      refine ⟨a, xs, zi, j, rfl, rfl, hx, by rw [hr.length]; exact e5, ?_⟩
                      have l4 := l2.trans l3
                      exact h σ _ ⟨fun b o hb n => l4.kp b o hb fun z => n (.inl z), fun b z => Or.elim (l4.nw b z) (fun z => .inl (.inl z)) .inr, l4.tr⟩ (b2.s.trans b3.s) (fun _ _ => rfl) rfl f3
                  | _ => rw [e4] at h; exact h.elim
                | _ => rw [e4] at h; exact h.elim
end
section
variable {W : Wo} {X : Cx} {ex : XK} {n : Nat} {pos p1 p2 : Pos} {a b c tg : Expr} {A B C : E} {x : Str}
theorem ml_nm (g : Gd W n X ex) (i : Nat) (hi : X.N[i]? = some x := by rfl) (hx : Loc X.env.scope x := by first | exact Or.inl rfl | exact Or.inr rfl) (hf : X.fn x = true ∨ X.env.scope.names.lookup x = some .local := by first | exact .inl rfl | exact .inr rfl) : ML W X (.Name x pos) (.nm i) :=
  (pg_name g.nd hi hx hf).imp fun _ _ _ _ h => tG_nm h
theorem mls_nil : MLs W X [] .nil := pgs_nil.imp fun _ _ _ _ h => tGl_nil h
theorem mls_cons {l : LV} {ls : LVs} {es : List Expr} (h1 : ML W X a l) (h2 : MLs W X es ls) (hs : (assignEach (a :: es) X.env).map (·.2) = assign a X.env :: (assignEach es X.env).map (·.2) := by rfl) : MLs W X (a :: es) (.cons l ls) :=
  (pgs_cons h1 h2 hs).imp fun _ _ _ _ h => tGl_cons h
theorem ml_tp [Calm W] {ls : LVs} {es : List Expr} {k : Nat} (g : Gd W n X ex) (h : MLs W X es ls) (hn : (assignEach es X.env).length = ls.len := by rfl) (hst : (assignEach es X.env).findIdx? (·.1) = none := by rfl) : ML W X (.Tuple es k pos) (.tp ls) :=
  (pg_tup g.calm h hn hst).imp fun _ _ _ _ h => by rw [g.hK]; exact tG_tp h
theorem ml_sub {k : E} (g : Gd W n X ex) (i : Nat) (hk : ME W X ex b k) (hN : X.N[i]? = some x := by rfl) (hv : Vis X.env.scope x := by first | exact Or.inl rfl | exact Or.inr (Or.inl rfl) | exact Or.inr (Or.inr rfl)) (hd : (x == ("__debug__" : Str)) = false := by decide)
    (hcd : (x == ("__classdict__" : Str)) = false := by decide) (ha : ∀ v, assign (.Subscript (.Name x p1) b pos) X.env v = (do
      let ov ← holding [v] (eval (.Name x p1) X.env)
      let iv ← holding [v, ov] (eval b X.env)
      standAt pos
      holding [v, ov, iv] (setItem ov iv v)
      release [v, ov, iv] []) := by intro _; rfl) : ML W X (.Subscript (.Name x p1) b pos) (.sub i k) :=
  (pg_sub (pe_var hN hv hd hcd) (hk false) set_list ha).imp fun _ _ _ _ h => tG_sub h
end
end M

set_option Elab.async false
set_option linter.all false
set_option maxRecDepth 100000
set_option maxHeartbeats 4000000
/-! A13: comprehensions. -/
namespace M
open PySem L2 PyProof.Rows

theorem wipe_out {σ : Sg} {i : Nat} : ∀ {vs : List Nat}, i ∉ vs → (wipe σ vs)[i]? = σ[i]?
  | [], _ => rfl
  | v :: vs, h => by
    have h' : i ≠ v ∧ i ∉ vs := by simpa using h
    unfold wipe
    rw [List.getElem?_set_ne (Ne.symm h'.1), wipe_out h'.2]
theorem wipe_in {σ : Sg} {i : Nat} : ∀ {vs : List Nat}, i ∈ vs → (wipe σ vs)[i]? = if i < σ.length then some none else none
  | [], h => by cases h
  | v :: vs, h => by
    unfold wipe
    by_cases hv : v = i
    · subst hv
      by_cases hl : v < σ.length
      · rw [List.getElem?_set_self (by rw [wipe_length]; exact hl), if_pos hl]
      · rw [if_neg hl]; exact List.getElem?_eq_none (by rw [List.length_set, wipe_length]; omega)
    · rw [List.getElem?_set_ne hv]
      exact wipe_in (by simpa [Ne.symm hv] using h)
theorem wipe_ext {σ σ' : Sg} {vs : List Nat} (hl : σ'.length = σ.length) (h : ∀ i, i ∉ vs → σ'[i]? = σ[i]?) : wipe σ' vs = wipe σ vs := by
  apply List.ext_getElem?
  intro i
  by_cases hi : i ∈ vs
  · rw [wipe_in hi, wipe_in hi, hl]
  · rw [wipe_out hi, wipe_out hi, h i hi]
theorem wipe_idem {σ : Sg} {vs : List Nat} : wipe (wipe σ vs) vs = wipe σ vs := wipe_ext (wipe_length σ vs) fun _ h => wipe_out h
theorem wipeF_len {q : Fm} : ∀ {vs : List Nat}, (wipeF vs q).length = q.length
  | [] => rfl
  | v :: vs => by
    show ((wipeF vs q).set v .no).length = _
    rw [List.length_set, wipeF_len]
theorem wipeF_out {q : Fm} {i : Nat} : ∀ {vs : List Nat}, i ∉ vs → (wipeF vs q)[i]? = q[i]?
  | [], _ => rfl
  | v :: vs, h => by
    have h' : i ≠ v ∧ i ∉ vs := by simpa using h
    show ((wipeF vs q).set v .no)[i]? = _
    rw [List.getElem?_set_ne (Ne.symm h'.1), wipeF_out h'.2]
theorem wipeF_in {q : Fm} {i : Nat} {t : Slot} : ∀ {vs : List Nat}, i ∈ vs → (wipeF vs q)[i]? = some t → t = .no
  | [], h, _ => by cases h
  | v :: vs, h, e => by
    have e : ((wipeF vs q).set v .no)[i]? = some t := e
    by_cases hv : v = i
    · subst hv
      have hl : v < (wipeF vs q).length := by simpa using (List.getElem?_eq_some_iff.mp e).1
      rw [List.getElem?_set_self hl] at e; cases e; rfl
    · rw [List.getElem?_set_ne hv] at e
      exact wipeF_in (by simpa [Ne.symm hv] using h) e
theorem backF_len {old q : Fm} : ∀ {vs : List Nat}, (backF vs old q).length = q.length
  | [] => rfl
  | v :: vs => by
    show ((backF vs old q).set v (old.getD v .no)).length = _
    rw [List.length_set, backF_len]
theorem backF_out {old q : Fm} {i : Nat} : ∀ {vs : List Nat}, i ∉ vs → (backF vs old q)[i]? = q[i]?
  | [], _ => rfl
  | v :: vs, h => by
    have h' : i ≠ v ∧ i ∉ vs := by simpa using h
    show ((backF vs old q).set v (old.getD v .no))[i]? = _
    rw [List.getElem?_set_ne (Ne.symm h'.1), backF_out h'.2]
theorem backF_in {old q : Fm} {i : Nat} {t : Slot} : ∀ {vs : List Nat}, i ∈ vs → (backF vs old q)[i]? = some t → t = old.getD i .no
  | [], h, _ => by cases h
  | v :: vs, h, e => by
    have e : ((backF vs old q).set v (old.getD v .no))[i]? = some t := e
    by_cases hv : v = i
    · subst hv
      have hl : v < (backF vs old q).length := by simpa using (List.getElem?_eq_some_iff.mp e).1
      rw [List.getElem?_set_self hl] at e; cases e; rfl
    · rw [List.getElem?_set_ne hv] at e
      exact backF_in (by simpa [Ne.symm hv] using h) e
section
variable {Z : Zc} {K : Calls} {ex : XK} {R0 R1 : Pr} {σ : Sg} {q q1 q2 : Fm} {H H' : Hp} {vs : List Nat}
theorem wipe_ow {b : Addr} (h : Ow (wipe σ vs) (wipeF vs q) b) : Ow σ q b := by
  obtain ⟨i, b', d, h1, h2⟩ := h
  have hi : i ∉ vs := fun hi => nomatch (wipeF_in hi h1)
  rw [wipeF_out hi] at h1
  rw [wipe_out hi] at h2
  exact ⟨i, b', d, h1, h2⟩
theorem FR.wipe (f : FR Z R0 σ q H) (vs : List Nat) : FR Z R0 (wipe σ vs) (wipeF vs q) H := by
  have lt : Lat (Rt R0 σ q) H (Rt R0 (L2.wipe σ vs) (wipeF vs q)) H := Lat.sub fun b z => Or.elim z .inl fun z => .inr (wipe_ow z)
  refine ⟨by rw [wipe_length, wipeF_len]; exact f.len, f.tb, f.trk, fun i b d e => ?_, fun i b d e => ?_, fun i j b b' d d' a e e' h1 h2 => ?_⟩
  · have hi : i ∉ vs := fun hi => nomatch (wipeF_in hi e)
    rw [wipeF_out hi] at e
    obtain ⟨v, h1, h2⟩ := f.sh i b d e
    exact ⟨v, by rw [wipe_out hi]; exact h1, h2.lat lt⟩
  · have hi : i ∉ vs := fun hi => nomatch (wipeF_in hi e)
    rw [wipeF_out hi] at e
    obtain ⟨v, h1, h2, h3⟩ := f.ow i b d e
    exact ⟨v, by rw [wipe_out hi]; exact h1, h2, h3.lat lt rfl⟩
  · have hi : i ∉ vs := fun hi => nomatch (wipeF_in hi e)
    have hj : j ∉ vs := fun hi => nomatch (wipeF_in hi e')
    rw [wipeF_out hi] at e
    rw [wipeF_out hj] at e'
    rw [wipe_out hi] at h1
    rw [wipe_out hj] at h2
    exact f.sep i j b b' d d' a e e' h1 h2
theorem noOw_at (h : noOw vs q = true) {i : Nat} (hi : i ∈ vs) {b : Bool} {d : D} : q[i]? ≠ some (.ow b d) := by
  intro e
  unfold noOw at h
  rw [List.all_eq_true] at h
  have := h i hi
  rw [e] at this
  cases this
theorem back_slot (hn : noOw vs q1 = true) {i : Nat} {t : Slot} (h : (backF vs q1 q2)[i]? = some t) : (i ∈ vs ∧ (t = .no ∨ (t = .pin ∧ q1[i]? = some .pin) ∨ ∃ b d, t = .sh b d ∧ q1[i]? = some (.sh b d))) ∨ (i ∉ vs ∧ q2[i]? = some t) := by
  by_cases hi : i ∈ vs
  · have e := backF_in hi h
    refine .inl ⟨hi, ?_⟩
    rw [List.getD_eq_getElem?_getD] at e
    cases e1 : q1[i]? with
    | none => rw [e1] at e; exact .inl e
    | some u =>
      rw [e1] at e
      have e : t = u := e
      subst e
      cases t with
      | no => exact .inl rfl
      | pin => exact .inr (.inl ⟨rfl, rfl⟩)
      | sh b d => exact .inr (.inr ⟨b, d, rfl, rfl⟩)
      | ow b d => exact absurd e1 (noOw_at hn hi)
  · rw [backF_out hi] at h
    exact .inr ⟨hi, h⟩
theorem back_ow (hn : noOw vs q1 = true) {b : Addr} (h : Ow σ (backF vs q1 q2) b) : Ow (wipe σ vs) (wipeF vs q2) b := by
  obtain ⟨i, b', d, h1, h2⟩ := h
  rcases back_slot hn h1 with ⟨_, e | ⟨e, _⟩ | ⟨_, _, e, _⟩⟩ | ⟨hi, e⟩
  · cases e
  · cases e
  · cases e
  · exact ⟨i, b', d, by rw [wipeF_out hi]; exact e, by rw [wipe_out hi]; exact h2⟩
theorem FR.back (f1 : FR Z R0 σ q1 H) (hn : noOw vs q1 = true) (f2 : FR Z R1 (L2.wipe σ vs) (wipeF vs q2) H') (l : Lat (Rt R0 σ q1) H (Rt R1 (L2.wipe σ vs) (wipeF vs q2)) H') : FR Z R1 σ (backF vs q1 q2) H' := by
  have lt : Lat (Rt R1 (L2.wipe σ vs) (wipeF vs q2)) H' (Rt R1 σ (backF vs q1 q2)) H' := Lat.sub fun b z => Or.elim z .inl fun z => .inr (back_ow hn z)
  refine ⟨?_, f2.tb, f2.trk, fun i b d e => ?_, fun i b d e => ?_, fun i j b b' d d' a e e' h1 h2 => ?_⟩
  · rw [backF_len, ← wipeF_len (vs := vs), ← f2.len, wipe_length]
  · rcases back_slot hn e with ⟨_, e | ⟨e, _⟩ | ⟨_, _, e, e1⟩⟩ | ⟨hi, e⟩
    · cases e
    · cases e
    · cases e
      obtain ⟨v, h1, h2⟩ := f1.sh i b d e1
      exact ⟨v, h1, h2.lat (l.trans lt)⟩
    · obtain ⟨v, h1, h2⟩ := f2.sh i b d (by rw [wipeF_out hi]; exact e)
      rw [wipe_out hi] at h1
      exact ⟨v, h1, h2.lat lt⟩
  · rcases back_slot hn e with ⟨_, e | ⟨e, _⟩ | ⟨_, _, e, e1⟩⟩ | ⟨hi, e⟩
    · cases e
    · cases e
    · cases e
    · obtain ⟨v, h1, h2, h3⟩ := f2.ow i b d (by rw [wipeF_out hi]; exact e)
      rw [wipe_out hi] at h1
      exact ⟨v, h1, h2, h3.lat lt rfl⟩
  · rcases back_slot hn e with ⟨_, e | ⟨e, _⟩ | ⟨_, _, e, e1⟩⟩ | ⟨hi, e⟩
    · cases e
    · cases e
    · cases e
    · rcases back_slot hn e' with ⟨_, e' | ⟨e', _⟩ | ⟨_, _, e', e1⟩⟩ | ⟨hj, e'⟩
      · cases e'
      · cases e'
      · cases e'
      · exact f2.sep i j b b' d d' a (by rw [wipeF_out hi]; exact e) (by rw [wipeF_out hj]; exact e') (by rw [wipe_out hi]; exact h1) (by rw [wipe_out hj]; exact h2)
/-- a walk, with an invariant -/
theorem walk_by {J : It} {n : Nat} {G : Hp → Prop} {Y : Nat → Hp → V → Hp → Prop} (w : Walk J n G Y) {Hs : Hp} {Qd : Hp → Prop} {B : V → Hp → (Hp → Prop) → Prop} (Pv : Nat → Hp → Prop) (h0 : Pv 0 Hs) (hG : ∀ i H, i ≤ n → Pv i H → G H)
    (hs : ∀ i x H H', i < n → Pv i H → Y i H x H' → B x H' (Pv (i + 1))) (hd : ∀ H, Pv n H → Qd H) :
    ∃ W : Nat → Nat → Hp → Prop, (∃ m, W 0 m Hs) ∧ ∀ i m H, W i m H →
      (J.stop i H ∧ Qd H) ∨ (J.go i H ∧ ∃ Nx : Hp → Prop, (∀ H', Nx H' → ∃ m', m' < m ∧ W (i + 1) m' H') ∧ ∀ x H', J.yld i H x H' → B x H' Nx) := by
  refine ⟨fun i m H => m = n - i ∧ i ≤ n ∧ Pv i H, ⟨n, by simp, Nat.zero_le _, h0⟩, ?_⟩
  rintro i m H ⟨rfl, hi, p⟩
  have q := hG i H hi p
  by_cases hlt : i < n
  · exact .inr ⟨w.goes i H hlt q, Pv (i + 1), fun H' p' => ⟨n - (i + 1), by omega, rfl, hlt, p'⟩, fun x H' y => hs i x H H' hlt p (w.yields i H x H' hlt q y)⟩
  · have e : i = n := by omega
    subst e
    exact .inl ⟨w.stops H q, hd H p⟩
/-! the list that is being made stands at L -/
/-- Lat with L besides -/
def LaD (L : Addr) (σ : Sg) (q : Fm) (H : Hp) (σ' : Sg) (q' : Fm) (H' : Hp) : Prop := Lat (fun b => Ow σ q b ∨ b = L) H (fun b => Ow σ' q' b ∨ b = L) H'
theorem LaD.of {L : Addr} {σ' : Sg} {q' : Fm} (l : Lat (Ow σ q) H (Ow σ' q') H') : LaD L σ q H σ' q' H' :=
  ⟨fun b o h n => l.kp b o h fun z => n (.inl z), fun b z => Or.elim z (fun z => Or.elim (l.nw b z) (fun z => .inl (.inl z)) .inr) fun z => .inl (.inr z), l.tr⟩
/-- the state of the making -/
structure CI (Z : Zc) (R0 : Pr) (L : Addr) (σ : Sg) (q : Fm) (H : Hp) (acc : List D) : Prop where
  fr : FR Z (P1 R0 L) σ q H
  li : ∃ xs, H L = some (.lst xs) ∧ RepL Z H (Rt (P1 R0 L) σ q) xs acc
variable {L : Addr} {acc : List D}
theorem CI.not (c : CI Z R0 L σ q H acc) : ¬ Ow σ q L := fun ⟨i, b, d, h1, h2⟩ => by
  obtain ⟨a, e, n, _⟩ := c.fr.ow i b d h1
  rw [h2] at e; cases e
  exact n (.inr rfl)
/-- an evaluation goes by it -/
theorem CI.step {σ' : Sg} {q' : Fm} (c : CI Z R0 L σ q H acc) (l : Lat (Ow σ q) H (Ow σ' q') H') (f : FR Z (P1 R0 L) σ' q' H') : CI Z R0 L σ' q' H' acc := by
  obtain ⟨xs, h1, h2⟩ := c.li
  exact ⟨f, xs, l.kp L _ h1 c.not (fun _ z => nomatch z), h2.lat l.more⟩
theorem CI.wipe (c : CI Z R0 L σ q H acc) (vs : List Nat) : CI Z R0 L (wipe σ vs) (wipeF vs q) H acc := by
  obtain ⟨xs, h1, h2⟩ := c.li
  exact ⟨c.fr.wipe vs, xs, h1, h2.lat (Lat.sub fun b z => Or.elim z .inl fun z => .inr (wipe_ow z))⟩
/-- one more item -/
theorem CI.add {v : V} {d : D} (c : CI Z R0 L σ q H acc) (r : Rep Z H (Rt (P1 R0 L) σ q) v d) : ∃ xs, H L = some (.lst xs) ∧ xs.length = acc.length ∧ CI Z R0 L σ q (upd H L (.lst (xs ++ [v]))) (acc ++ [d]) ∧ LaD L σ q H σ q (upd H L (.lst (xs ++ [v]))) := by
  obtain ⟨xs, h1, h2⟩ := c.li
  have lt : Lat (fun b => b = L) H (fun b => b = L) (upd H L (.lst (xs ++ [v]))) := ⟨fun b o h n _ => by rw [upd_ne n]; exact h, fun b h => .inl h, fun b h => by
    by_cases hb : b = L
    · rw [hb, upd_same]; exact fun z => nomatch z
    · rw [upd_ne hb]; exact h⟩
  have lr : Lat (Rt (P1 R0 L) σ q) H (Rt (P1 R0 L) σ q) (upd H L (.lst (xs ++ [v]))) := ⟨fun b o h n => lt.kp b o h fun z => n (.inl (.inr z)), fun b h => .inl h, lt.tr⟩
  refine ⟨xs, h1, h2.length, ⟨⟨c.fr.len, c.fr.tb.upd h1, fun b z => lt.tr b (c.fr.trk b z), fun i b d e => ?_, fun i b d e => ?_, c.fr.sep⟩, xs ++ [v], upd_same, (h2.append (.cons r .nil)).lat lr⟩, ⟨fun b o h n => lt.kp b o h fun z => n (.inr z), fun b h => .inl h, lt.tr⟩⟩
  · obtain ⟨w, e1, e2⟩ := c.fr.sh i b d e
    exact ⟨w, e1, e2.lat lr⟩
  · obtain ⟨a, e1, n, ds, ys, e2, e3, e4⟩ := c.fr.ow i b d e
    exact ⟨a, e1, n, ds, ys, e2, lt.kp a _ e3 (fun z => n (.inr z)) (fun _ z => nomatch z), e4.lat lr⟩
/-- target and test of a turn -/
theorem turn_ok {g : LV} {t : T} {d : D} {v : V} {B : Sg → Bool → Hp → Prop} (hσ : wipe σ vs = σ) (c : CI Z R0 L σ q H acc) (rv : Rep Z H (Rt (P1 R0 L) σ q) v d) (hns : ∀ i, i ∈ g.ns → i ∈ vs)
    (k : ∃ u qa b qb, evL K g (.val d) q = .ok u qa ∧ evT K t qa = .ok b qb ∧ ∀ σ2 H3, wipe σ2 vs = σ → σ2.length = σ.length → CI Z R0 L σ2 qb H3 acc → Lat (Ow σ q) H (Ow σ2 qb) H3 → BKs σ q σ2 qb → B σ2 b H3) :
    tG Z K g v σ H fun σ2 H2 => wipe σ2 vs = σ ∧ tT Z K E0 t σ2 H2 fun b H3 => B σ2 b H3 := by
  obtain ⟨u, qa, b, qb, e1, e2, k⟩ := k
  refine ⟨P1 R0 L, q, .val d, ⟨c.fr, rv⟩, ?_⟩
  rw [e1]
  intro σ2 H2 l2 b2 n2 len2 f2
  have l2 : Lat (Ow σ q) H (Ow σ2 qa) H2 := ⟨fun b o hb n => l2.kp b o hb fun z => Or.elim z n fun z => z.elim, fun b z => Or.elim (l2.nw b z) (fun z => Or.elim z .inl fun z => z.elim) .inr, l2.tr⟩
  have hw : wipe σ2 vs = wipe σ vs := wipe_ext len2 fun i hi => n2 i fun z => hi (hns i z)
  refine ⟨hw.trans hσ, P1 R0 L, qa, f2, ?_⟩
  rw [e2]
  intro w H3 l3 b3 p3
  obtain ⟨f3, rfl⟩ := p3
  exact k σ2 H3 (hw.trans hσ) len2 ((c.step l2 f2).step l3 f3) (l2.trans l3) (b2.trans b3.s)
theorem elt_ok {e : E} {Nx : Hp → Prop} (c : CI Z R0 L σ q H acc) (hl : acc.length < sizeLine) (k : ∃ r qc x, ev K e false q = .ok r qc ∧ r.vd = some x ∧ ∀ H', CI Z R0 L σ qc H' (acc ++ [x]) → LaD L σ q H σ qc H' → BK q qc → Nx H') :
    tE Z K E0 e false σ H fun y H4 => ∃ xs, H4 L = some (.lst xs) ∧ xs.length < sizeLine ∧ Nx (upd H4 L (.lst (xs ++ [y]))) := by
  obtain ⟨r, qc, x, e1, e2, k⟩ := k
  refine ⟨P1 R0 L, q, c.fr, ?_⟩
  rw [e1]
  intro w H4 l4 b4 p4
  obtain ⟨f4, rp⟩ := p4.vd c.fr e2
  obtain ⟨xs, h1, h2, c5, l5⟩ := (c.step l4 f4).add rp
  exact ⟨xs, h1, by rw [h2]; exact hl, k _ c5 ((LaD.of l4).trans l5) b4⟩
theorem drop_at {l : List D} {i : Nat} {d : D} (h : l[i]? = some d) : l.drop i = d :: l.drop (i + 1) := by
  obtain ⟨h1, h2⟩ := List.getElem?_eq_some_iff.mp h
  rw [List.drop_eq_getElem_cons h1, h2]
/-- how a turn of the plain loop goes -/
theorem loopC_inv {asg : D → Fm → Res Unit} {test : Fm → Res Bool} {elt : Fm → Res RV} {d : D} {ds r : List D} {qe : Fm} (h : loopC vs asg test elt acc (d :: ds) q = .ok r qe) :
    ∃ u qa b qb, asg d (wipeF vs q) = .ok u qa ∧ test qa = .ok b qb ∧ ((b = false ∧ loopC vs asg test elt acc ds qb = .ok r qe) ∨
      (b = true ∧ ∃ x qc y, elt qb = .ok x qc ∧ x.vd = some y ∧ acc.length < sizeLine ∧ loopC vs asg test elt (acc ++ [y]) ds qc = .ok r qe)) := by
  rw [loopC] at h
  cases e1 : asg d (wipeF vs q) with
  | bad => rw [e1] at h; cases h
  | exc _ _ _ => rw [e1] at h; cases h
  | ok u qa =>
    rw [e1] at h
    dsimp only at h
    cases e2 : test qa with
    | bad => rw [e2] at h; cases h
    | exc _ _ _ => rw [e2] at h; cases h
    | ok b qb =>
      rw [e2] at h
      refine ⟨u, qa, b, qb, rfl, e2, ?_⟩
      cases b with
      | false =>
        dsimp only at h
        split at h
        · exact .inl ⟨rfl, h⟩
        · cases h
      | true =>
        dsimp only at h
        cases e3 : elt qb with
        | bad => rw [e3] at h; cases h
        | exc _ _ _ => rw [e3] at h; cases h
        | ok x qc =>
          rw [e3] at h
          dsimp only at h
          cases e4 : x.vd with
          | none => rw [e4] at h; cases h
          | some y =>
            rw [e4] at h
            dsimp only at h
            split at h
            · rename_i hh
              rw [Bool.and_eq_true] at hh
              exact .inr ⟨rfl, x, qc, y, rfl, e4, of_decide_eq_true hh.1, h⟩
            · cases h
/-- bors, but for the names of the block -/
def BKo (vs : List Nat) (q q' : Fm) : Prop := ∀ i, i ∉ vs → bor q' i → bor q i
theorem bor_wipe {i : Nat} (h : bor (wipeF vs q) i) : bor q i ∧ i ∉ vs := by
  obtain ⟨t, h1, h2⟩ := h
  have hi : i ∉ vs := fun hi => by
    have := wipeF_in hi h1
    subst this
    cases h2
  rw [wipeF_out hi] at h1
  exact ⟨⟨t, h1, h2⟩, hi⟩
theorem tE_lc {g : LV} {it : I} {t : T} {e : E} {pk : Bool} {Q : VK} (hns : ∀ i, i ∈ g.ns → i ∈ vs) (h : tE Z K ex (.lc vs g it t e) pk σ H Q) : tLc (tI Z K ex it) (tG Z K g) (tT Z K E0 t) (tE Z K E0 e false) vs σ H Q := by
  unfold tE at h
  rw [show ev K (.lc vs g it t e) pk = fun q => bindR (evI K it q) fun l q1 => if noOw vs q1 then
      match loopC vs (fun d q => evL K g (.val d) q) (evT K t) (ev K e false) [] l q1 with
      | .ok ds q2 => .ok (.new (.lst ds)) (backF vs q1 q2)
      | _ => .bad
    else .bad from rfl] at h
  refine TR.bind h fun R0 q q1 l J H1 f0 la bk p z => ?_
  obtain ⟨f1, G, Y, wk, gG, gY⟩ := p
  intro L hL
  have hno : noOw vs q1 = true := by
    cases e : noOw vs q1 with
    | true => rfl
    | false => rw [e] at z; exact z.elim
  rw [if_pos hno] at z
  cases hr : loopC vs (fun d q => evL K g (.val d) q) (evT K t) (ev K e false) [] l q1 with
  | bad => rw [hr] at z; exact z.elim
  | exc _ _ _ => rw [hr] at z; exact z.elim
  | ok dsr qr =>
    rw [hr] at z
    dsimp only at z
    have sm : Same H1 (upd H1 L (.lst [])) := same_upd hL
    have t0 : ∀ b, P1 R0 L b → (upd H1 L (.lst [])) b ≠ none := fun b y => by
      rcases y with y | y
      · exact (Lat.same (R := Ow σ q) sm).tr b (f1.trk b y)
      · rw [y, upd_same]; exact fun z => nomatch z
    have c0 : CI Z R0 L σ q1 (upd H1 L (.lst [])) [] := ⟨f1.on sm (fun b y => Or.elim y .inl fun e => .inr (e ▸ hL)) t0, [], upd_same, RepL.nil⟩
    have l0 : ∀ {q' : Fm} {H' : Hp}, LaD L (wipe σ vs) (wipeF vs q1) (upd H1 L (.lst [])) (wipe σ vs) (wipeF vs q') H' → Lat (Ow σ q1) H1 (Ow (wipe σ vs) (wipeF vs q')) H' := fun {q' H'} l2 => by
      refine ⟨fun b o hb n => l2.kp b o (sm b o hb) fun y => ?_, fun b y => ?_, fun b hb => l2.tr b ((Lat.same (R := Ow σ q) sm).tr b hb)⟩
      · rcases y with y | y
        · exact n (wipe_ow y)
        · rw [y, hL] at hb; cases hb
      · rcases l2.nw b (.inl y) with (y | y) | y
        · exact .inl (wipe_ow y)
        · exact .inr (y ▸ hL)
        · exact .inr (sm.free y)
    refine walk_by wk (B := fun x H' Nx => tG Z K g x (wipe σ vs) H' fun σ2 H2 => wipe σ2 vs = wipe σ vs ∧ tT Z K E0 t σ2 H2 fun b H3 =>
        if b = true then tE Z K E0 e false σ2 H3 fun y H4 => ∃ acc, H4 L = some (.lst acc) ∧ acc.length < sizeLine ∧ Nx (upd H4 L (.lst (acc ++ [y]))) else Nx H3)
      (fun i H' => ∃ qi acc, CI Z R0 L (wipe σ vs) (wipeF vs qi) H' acc ∧ LaD L (wipe σ vs) (wipeF vs q1) (upd H1 L (.lst [])) (wipe σ vs) (wipeF vs qi) H' ∧ BKo vs q1 qi ∧ loopC vs (fun d q => evL K g (.val d) q) (evT K t) (ev K e false) acc (l.drop i) qi = .ok dsr qr) ?_ ?_ ?_ ?_
    · exact ⟨q1, [], c0.wipe vs, Lat.refl _ _, fun _ _ h => h, hr⟩
    · rintro i H' hi ⟨qi, acc, c, lp, _, _⟩
      refine gG (Rt R0 (wipe σ vs) (wipeF vs qi)) H' ((l0 lp).more)
    · rintro i x H2 H3 hi ⟨qi, acc, c, lp, bo, hl⟩ y
      obtain ⟨d, hd⟩ : ∃ d, l[i]? = some d := ⟨l[i], by simp [hi]⟩
      obtain ⟨s3, rx⟩ := gY i x (Rt (P1 R0 L) (wipe σ vs) (wipeF vs qi)) H2 H3 d hd ((Lat.more (S := R0) (l0 lp)).less fun b y => by
        rcases y with (y | y) | y
        · exact .inl (.inl y)
        · exact .inr (y ▸ hL)
        · exact .inl (.inr y)) (fun b hb => c.fr.rtT hb) y
      have c3 : CI Z R0 L (wipe σ vs) (wipeF vs qi) H3 acc := c.step (Lat.same s3) (c.fr.on s3 (fun _ y => .inl y) fun b y => (Lat.same (R := Ow σ q) s3).tr b (c.fr.trk b y))
      rw [drop_at hd] at hl
      obtain ⟨u, qa, b, qb, e1, e2, hl⟩ := loopC_inv hl
      refine turn_ok wipe_idem c3 rx hns ⟨u, qa, b, qb, e1, e2, fun σ2 H4 hw len2 c4 l4 b4 => ?_⟩
      have bo2 : BKo vs q1 qb := fun j hj hb => bo j hj (bor_wipe (b4 j hb).1).1
      have l5 : LaD L (wipe σ vs) (wipeF vs q1) (upd H1 L (.lst [])) σ2 qb H4 := (lp.trans (LaD.of (Lat.same s3))).trans (LaD.of l4)
      have fin : ∀ {acc' : List D} {qc : Fm} {H5 : Hp}, CI Z R0 L σ2 qc H5 acc' → LaD L σ2 qb H4 σ2 qc H5 → BK qb qc → loopC vs (fun d q => evL K g (.val d) q) (evT K t) (ev K e false) acc' (l.drop (i + 1)) qc = .ok dsr qr →
          ∃ qi acc, CI Z R0 L (wipe σ vs) (wipeF vs qi) H5 acc ∧ LaD L (wipe σ vs) (wipeF vs q1) (upd H1 L (.lst [])) (wipe σ vs) (wipeF vs qi) H5 ∧ BKo vs q1 qi ∧ loopC vs (fun d q => evL K g (.val d) q) (evT K t) (ev K e false) acc (l.drop (i + 1)) qi = .ok dsr qr := fun {acc' qc H5} c5 l6 b6 hl' => by
        refine ⟨qc, acc', ?_, (l5.trans l6).trans (Lat.sub fun b y => Or.elim y (fun y => .inl (wipe_ow (by rw [hw]; exact y))) .inr), fun j hj hb => bo2 j hj (b6 j hb), hl'⟩
        have := c5.wipe vs
        rw [hw] at this
        exact this
      rcases hl with ⟨rfl, hl⟩ | ⟨rfl, x2, qc, y2, e3, e4, e5, hl⟩
      · exact iteF (fin c4 (Lat.refl _ _) (BK.refl _) hl)
      · exact iteT (elt_ok c4 e5 ⟨x2, qc, y2, e3, e4, fun H5 c5 l6 b6 => fin c5 l6 b6 hl⟩)
    · rintro H2 ⟨qi, acc, c, lp, bo, hl⟩
      rw [List.drop_length] at hl
      rw [loopC] at hl
      cases hl
      have lz := l0 lp
      obtain ⟨xs, h1, h2⟩ := c.li
      have lb : Lat (Rt R0 σ q1) H1 (Rt (P1 R0 L) (wipe σ vs) (wipeF vs qr)) H2 := (Lat.more (S := R0) lz).less fun b y => by
        rcases y with (y | y) | y
        · exact .inl (.inl y)
        · exact .inr (y ▸ hL)
        · exact .inl (.inr y)
      have fb := f1.back hno c.fr lb
      have ls : Lat (Ow (wipe σ vs) (wipeF vs qr)) H2 (Ow σ (backF vs q1 qr)) H2 := Lat.sub fun b y => back_ow hno y
      refine z (.ref L) H2 (la.trans (lz.trans ls)) (bk.trans fun i ⟨t, e1, e2⟩ => ?_) ⟨L, rfl, la.new hL, fb, _, xs, rfl, h1, h2.lat (Lat.more ls)⟩
      rcases back_slot hno e1 with ⟨_, e | ⟨e, e3⟩ | ⟨b, d, e, e3⟩⟩ | ⟨hi, e⟩
      · subst e; cases e2
      · subst e; exact ⟨_, e3, e2⟩
      · subst e; exact ⟨_, e3, e2⟩
      · exact bo i hi ⟨t, e, e2⟩
end
section
variable {Z : Zc} {K : Calls} {ex : XK} {R0 R1 : Pr} {σ : Sg} {q q1 q2 : Fm} {H H' : Hp} {vs vs1 : List Nat} {L : Addr} {acc : List D}
end
section
variable {W : Wo} {X : Cx} {ex : XK} {n : Nat} {pos p1 p2 : Pos} {a b c tg tg1 elt iter iter1 : Expr} {A B C : E} {x : Str}
theorem Gd.blk (g : Gd W n X ex) (s : Shared) (H : Hp) (scope : Scope) (cenv : Env) (fp : List Addr) : Gd W n (X.blk s H scope cenv fp) E0 := ⟨g.hP, g.hw, g.hK, g.hm, g.hb, g.calm1, g.nd, g.rm, g.hd1, passL, g.qu⟩
/-- a clause's tests -/
def MTs (W : Wo) (X : Cx) (ex : XK) (es : List Expr) (t : T) : Prop := PTs X es (tT W.Z W.K ex t)
theorem mts_nil : MTs W X ex [] .yes := ⟨fun pins s σ H Q I h => pts_nil.run pins s σ H Q I (tT_yes h)⟩
theorem me_lc [Calm W] {ifs : List Expr} {scope : Scope} (own : List (Str × Nat)) {g : LV} {it : I} {t : T} (gd : Gd W n X ex) (hi : MI W X ex tg iter it)
    (hg : ∀ s H C cl fp, Gd W n (X.blk s H scope (compEnvC scope cl C X.env) fp) E0 → ML W (X.blk s H scope (compEnvC scope cl C X.env) fp) tg g)
    (ht : ∀ s H C cl fp, Gd W n (X.blk s H scope (compEnvC scope cl C X.env) fp) E0 → MTs W (X.blk s H scope (compEnvC scope cl C X.env) fp) E0 ifs t)
    (he : ∀ s H C cl fp, Gd W n (X.blk s H scope (compEnvC scope cl C X.env) fp) E0 → ME W (X.blk s H scope (compEnvC scope cl C X.env) fp) E0 elt A)
    (ok : blkC X.N X.env.scope scope own = true := by kernel_rfl) (hns : ∀ i, i ∈ g.ns → i ∈ own.map (·.2) := by decide +kernel) (hs : ∀ x, foldedSetIterable iter X.env x = pure x := by intro _; rfl) :
    ME W X ex (.ListComp elt [⟨tg, iter, ifs, 0⟩] scope pos) (.lc (own.map (·.2)) g it t A) := fun pk =>
  (pe_lc gd.calm gd.nd hi (blkOk_by ok) (fun s H C cl fp => hg s H C cl fp (gd.blk ..)) (fun s H C cl fp => ht s H C cl fp (gd.blk ..)) (fun s H C cl fp => he s H C cl fp (gd.blk ..) false) hs).imp fun _ _ _ h => tE_lc hns h
end
end M

set_option Elab.async false
set_option linter.all false
set_option maxRecDepth 100000
set_option maxHeartbeats 4000000
/-! A14: statements. -/
namespace M
open PySem L2 PyProof.Rows

def AnS (Z : Zc) (E : XK) (R0 : Pr) (σ : Sg) (q : Fm) (H : Hp) (D : Ends) : SRes → Prop
  | .nx q' => ∀ σ' H', Lat (Ow σ q) H (Ow σ' q') H' → BKs σ q σ' q' → FR Z R0 σ' q' H' → D.nx σ' H'
  | .brk q' => ∀ σ' H', Lat (Ow σ q) H (Ow σ' q') H' → BKs σ q σ' q' → FR Z R0 σ' q' H' → D.bk σ' H'
  | .cnt q' => ∀ σ' H', Lat (Ow σ q) H (Ow σ' q') H' → BKs σ q σ' q' → FR Z R0 σ' q' H' → D.ct σ' H'
  | .ret r q' => ∀ w σ' H', Lat (Ow σ q) H (Ow σ' q') H' → BKs σ q σ' q' → PoV Z R0 σ' H q' H' w r → D.rt w H'
  | .exc c ds q' => ∀ d σ' H', Lat (Ow σ q) H (Ow σ' q') H' → BKs σ q σ' q' → FR Z R0 σ' q' H' → XRep Z H' (Rt R0 σ' q') c ds d → E (.ref (Z.C c)) d H'
  | .bad => False
def tS (Z : Zc) (K : Calls) (ex : XK) (s : S) : TS := fun D σ H => ∃ R0 q, FR Z R0 σ q H ∧ AnS Z ex R0 σ q H D (evS K s q)
def tSs (Z : Zc) (K : Calls) (ex : XK) (s : Ss) : TS := fun D σ H => ∃ R0 q, FR Z R0 σ q H ∧ AnS Z ex R0 σ q H D (evSs K s q)
def MS (W : Wo) (X : Cx) (ex : XK) (st : Stmt) (s : S) : Prop := PS X st (tS W.Z W.K ex s)
def MSs (W : Wo) (X : Cx) (ex : XK) (st : List Stmt) (s : Ss) : Prop := PSs X st (tSs W.Z W.K ex s)
theorem _root_.L2.PS.imp {X : Cx} {st : Stmt} {t t' : TS} (h : PS X st t) (i : ∀ D s H, t' D s H → t D s H) : PS X st t' := ⟨fun pins s σ H D I q => h.run pins s σ H D I (i D σ H q)⟩
theorem _root_.L2.PSs.imp {X : Cx} {st : List Stmt} {t t' : TS} (h : PSs X st t) (i : ∀ D s H, t' D s H → t D s H) : PSs X st t' := ⟨fun pins s σ H D I q => h.run pins s σ H D I (i D σ H q)⟩
section
variable {Z : Zc} {K : Calls} {ex : XK} {R0 : Pr} {σ σ1 : Sg} {q q1 : Fm} {H H1 : Hp} {D D' : Ends}
theorem PoV.early' {σ' : Sg} {q' : Fm} {H' : Hp} {w : V} {r : RV} (l : ∀ b, H1 b = none → H b = none) (h : PoV Z R0 σ' H1 q' H' w r) : PoV Z R0 σ' H q' H' w r := by
  cases r with
  | val d => exact h
  | new d =>
    obtain ⟨a, e, hn, f, o⟩ := h
    exact ⟨a, e, l a hn, f, o⟩
  | slot i => exact h
/-- from a later start; other ends -/
theorem AnS.late (l : Lat (Ow σ q) H (Ow σ1 q1) H1) (b : BKs σ q σ1 q1) : ∀ {r : SRes}, AnS Z ex R0 σ q H D r → AnS Z ex R0 σ1 q1 H1 D r
  | .nx _, h => fun σ' H' l2 b2 f => h σ' H' (l.trans l2) (b.trans b2) f
  | .brk _, h => fun σ' H' l2 b2 f => h σ' H' (l.trans l2) (b.trans b2) f
  | .cnt _, h => fun σ' H' l2 b2 f => h σ' H' (l.trans l2) (b.trans b2) f
  | .ret _ _, h => fun w σ' H' l2 b2 p => h w σ' H' (l.trans l2) (b.trans b2) (p.early' fun b hb => l.new hb)
  | .exc _ _ _, h => fun d σ' H' l2 b2 f x => h d σ' H' (l.trans l2) (b.trans b2) f x
  | .bad, h => h
theorem AnS.bind {α W : Type} {f : Res α} {g : α → Fm → SRes} {Po : Fm → Hp → W → α → Prop} {Q : W → Hp → Prop} : ∀ {r : Res α}, AnS Z ex R0 σ q H D (ofR r g) →
    (∀ q1 w H1 a, r = .ok a q1 → Lat (Ow σ q) H (Ow σ q1) H1 → BK q q1 → Po q1 H1 w a → AnS Z ex R0 σ q H D (g a q1) → Q w H1) → An Z ex R0 σ q H Po Q r
  | .ok a q1, h, k => fun w H1 l b p => k q1 w H1 a rfl l b p h
  | .exc c ds q1, h, _ => fun d H' l b f x => h d σ H' l b.s f x
  | .bad, h, _ => h
theorem tS_ret {e : E} (h : tS Z K ex (.ret e) D σ H) : tRet (tE Z K ex e false) D σ H := by
  obtain ⟨R0, q, f0, h⟩ := h
  refine ⟨R0, q, f0, AnS.bind (f := ev K e false q) (g := fun r q1 => .ret r q1) h fun q1 w H1 a _ l b p z => ?_⟩
  exact z w σ H1 l b.s p
theorem pov_pre {q0 : Fm} {v : V} {r : RV} (f0 : FR Z R0 σ q0 H) (p : PoV Z R0 σ H q1 H1 v r) : PreG Z R0 σ q1 H1 v r := by
  cases r with
  | val d => exact p
  | new d =>
    obtain ⟨a, rfl, hn, f, o⟩ := p
    exact ⟨a, rfl, fun z => f0.trk a z hn, f, o⟩
  | slot i => exact p.1
theorem pov_ax {q0 : Fm} {v : V} {r : RV} (l : Lat (Ow σ q) H (Ow σ q1) H1) (p : PoV Z R0 σ H q1 H1 v r) : Lat (Ow σ q) H (fun b => Ow σ q1 b ∨ Ax r v b) H1 := l.less fun b z => by
  rcases z with z | z
  · exact .inl z
  · cases r with
    | val d => exact z.elim
    | slot d => exact z.elim
    | new d =>
      obtain ⟨a, rfl, hn, _⟩ := p
      have e : V.ref a = V.ref b := z
      cases e
      exact .inr hn
theorem tS_asgS {l : LV} {e : E} (h : tS Z K ex (.asgS l e) D σ H) : tAsg (tE Z K ex e false) (tG Z K l) D σ H := by
  obtain ⟨R0, q, f0, h⟩ := h
  refine ⟨R0, q, f0, AnS.bind (f := ev K e false q) (g := fun r q1 => match evL K l r.down q1 with
    | .ok _ q2 => .nx q2
    | _ => .bad) h fun q1 w H1 r _ la b p z => ?_⟩
  have p' : PoV Z R0 σ H q1 H1 w r.down := by
    cases r with
    | new d => exact p.down f0
    | val d => exact p
    | slot i => exact p
  have hax : ∀ b, Ax r.down w b → False := fun b h => by cases r <;> exact h
  refine ⟨R0, q1, r.down, pov_pre f0 p', ?_⟩
  cases e1 : evL K l r.down q1 with
  | bad => rw [e1] at z; exact z.elim
  | exc _ _ _ => rw [e1] at z; exact z.elim
  | ok u q2 =>
    rw [e1] at z
    intro σ' H' l2 b2 _ _ f2
    exact z σ' H' ((pov_ax (q0 := q) la p').trans l2) (b.s.trans b2) f2
theorem set_no {q : Fm} {i j : Nat} {t : Slot} (h : (q.set i .no)[j]? = some t) (ht : t ≠ .no) : j ≠ i ∧ q[j]? = some t := by
  by_cases e : i = j
  · subst e
    rw [List.getElem?_set] at h
    rw [if_pos rfl] at h
    by_cases hl : i < q.length
    · rw [if_pos hl] at h; cases h; exact absurd rfl ht
    · rw [if_neg hl] at h; cases h
  · rw [List.getElem?_set_ne e] at h; exact ⟨fun z => e z.symm, h⟩
/-- an owned list given away -/
theorem FR.give {i : Nat} {w : V} {d : M.D} (f : FR Z R0 σ q H) (hw : σ[i]? = some (some w)) (hs : q[i]? = some (.ow false d)) : ∃ a, w = .ref a ∧ Ow σ q a ∧ FR Z (P1 R0 a) σ (q.set i .no) H ∧ OwnAt Z H (Rt (P1 R0 a) σ (q.set i .no)) a d ∧ Lat (Ow σ q) H (Ow σ (q.set i .no)) H ∧ BKs σ q σ (q.set i .no) := by
  obtain ⟨a, h1, h2, ds, xs, h3, h4, h5⟩ := f.ow i false d hs
  rw [hw] at h1; cases h1
  have oa : Ow σ q a := ⟨i, false, d, hs, hw⟩
  have os : ∀ b, Ow σ (q.set i .no) b → Ow σ q b := fun b ⟨j, b', d', z1, z2⟩ => ⟨j, b', d', (set_no z1 (fun z => nomatch z)).2, z2⟩
  have sub : ∀ b, Rt (P1 R0 a) σ (q.set i .no) b → Rt R0 σ q b := fun b z => by
    rcases z with (z | z) | z
    · exact .inl z
    · subst z; exact .inr oa
    · exact .inr (os b z)
  refine ⟨a, rfl, oa, ⟨?_, f.tb, fun b z => ?_, fun j b d' e => ?_, fun j b d' e => ?_, fun j k b b' d1 d2 c e1 e2 z1 z2 => ?_⟩, ⟨ds, xs, h3, h4, h5.lat (Lat.sub sub)⟩, Lat.sub os, fun j ⟨t, z1, z2⟩ => ?_⟩
  · rw [List.length_set]; exact f.len
  · rcases z with z | z
    · exact f.trk b z
    · subst z; rw [h4]; exact fun z => nomatch z
  · obtain ⟨_, e1⟩ := set_no e (fun z => nomatch z)
    obtain ⟨v, g1, g2⟩ := f.sh j b d' e1
    exact ⟨v, g1, g2.lat (Lat.sub sub)⟩
  · obtain ⟨n, e1⟩ := set_no e (fun z => nomatch z)
    obtain ⟨c, g1, g2, g3⟩ := f.ow j b d' e1
    refine ⟨c, g1, fun z => ?_, g3.lat (Lat.sub sub) rfl⟩
    rcases z with z | z
    · exact g2 z
    · subst z; exact n (f.sep j i _ _ _ _ _ e1 hs g1 hw)
  · exact f.sep j k b b' d1 d2 c (set_no e1 (fun z => nomatch z)).2 (set_no e2 (fun z => nomatch z)).2 z1 z2
  · have ht : t ≠ .no := fun z => by subst z; cases z2
    exact ⟨⟨t, (set_no z1 ht).2, z2⟩, rfl⟩
theorem no_ow {as : Fm} (h : noOwA as = true) {s : Sg} {a : Addr} : ¬ Ow s as a := fun ⟨i, b, d, h1, _⟩ => by
  have := List.all_eq_true.mp h _ (List.mem_of_getElem? h1)
  cases this
theorem tS_retS {e : E} (h : tS Z K ex (.retS e) D σ H) : tRet (tE Z K ex e false) D σ H := by
  obtain ⟨R0, q, f0, h⟩ := h
  refine ⟨R0, q, f0, AnS.bind (f := ev K e false q) (g := fun r q1 => .ret r.down q1) h fun q1 w H1 r _ l b p z => ?_⟩
  refine z w σ H1 l b.s ?_
  cases r with
  | new d => exact p.down f0
  | val d => exact p
  | slot i => exact p
/-! several names at once -/
def RX (R : Pr) (r : RV) (w : V) : Pr := fun b => R b ∨ Ax r w b
def Hd (Z : Zc) (H : Hp) (R : Pr) (w : V) : RV → Prop
  | .val d => Rep Z H R w d
  | .new d => ∃ a, w = .ref a ∧ OwnAt Z H R a d
  | .slot _ => False
def RXs (R : Pr) : List V → List RV → Pr
  | w :: ws, r :: rs => fun b => RXs R ws rs b ∨ Ax r w b
  | _, _ => R
def HN (Z : Zc) (R0 : Pr) (σ : Sg) (q : Fm) (H : Hp) (R : Pr) : List V → List RV → Prop
  | [], [] => True
  | w :: ws, r :: rs => Hd Z H R w r ∧ (∀ b, Ax r w b → ¬ RXs R0 ws rs b) ∧ HN Z R0 σ q H R ws rs
  | _, _ => False
theorem RXs.base {R : Pr} {b : Addr} : ∀ {ws : List V} {rs : List RV}, R b → RXs R ws rs b
  | [], _, h => h
  | _ :: _, [], h => h
  | _ :: _, _ :: _, h => .inl (RXs.base h)
theorem Hd.pre {w : V} {r : RV} (f : FR Z (RX R0 r w) σ q H) (h : Hd Z H (Rt (RX R0 r w) σ q) w r) (n : ∀ b, Ax r w b → ¬ R0 b) : PreG Z R0 σ q H w r := by
  cases r with
  | slot i => exact h.elim
  | val d => exact ⟨f.fewer fun b z => .inl z, h.lat (Lat.sub fun b z => Or.elim z (fun z => .inl (.inl z)) .inr)⟩
  | new d =>
    obtain ⟨a, rfl, o⟩ := h
    have e : ∀ b, P1 R0 a b → RX R0 (.new d) (.ref a) b := fun b z => Or.elim z .inl fun z => .inr (by subst z; rfl)
    exact ⟨a, rfl, n a rfl, f.fewer e, o.lat (Lat.sub fun b z => Or.elim z (fun z => .inl (e b z)) .inr) rfl⟩
theorem Hd.lat {R R' : Pr} {w : V} {r : RV} (h : Hd Z H R w r) (l : Lat R H R' H1) (k : ∀ b o, Ax r w b → H b = some o → NT o → H1 b = some o) : Hd Z H1 R' w r := by
  cases r with
  | slot i => exact h
  | val d => exact Rep.lat l h
  | new d =>
    obtain ⟨a, rfl, ds, xs, e1, e2, e3⟩ := h
    exact ⟨a, rfl, ds, xs, e1, k a _ rfl e2 (fun _ z => nomatch z), e3.lat l⟩
theorem HN.lat {q' : Fm} {σ' : Sg} {R R' : Pr} (l : Lat R H R' H1) : ∀ {ws : List V} {rs : List RV}, HN Z R0 σ q H R ws rs → (∀ b o, RXs R0 ws rs b → H b = some o → NT o → H1 b = some o) → HN Z R0 σ' q' H1 R' ws rs
  | [], [], _, _ => True.intro
  | w :: ws, r :: rs, ⟨h1, h2, h3⟩, k => ⟨h1.lat l fun b o a => k b o (.inr a), h2, HN.lat l h3 fun b o a => k b o (.inl a)⟩
  | [], _ :: _, h, _ => h.elim
  | _ :: _, [], h, _ => h.elim
theorem AnS.bindR {α W : Type} {f : Res α} {g : α → Fm → SRes} {R1 : Pr} {Po : Fm → Hp → W → α → Prop} {Q : W → Hp → Prop} (hR : ∀ b, R0 b → R1 b) : ∀ {r : Res α}, AnS Z ex R0 σ q H D (ofR r g) →
    (∀ q1 w H1 a, r = .ok a q1 → Lat (Ow σ q) H (Ow σ q1) H1 → BK q q1 → Po q1 H1 w a → AnS Z ex R0 σ q H D (g a q1) → Q w H1) → An Z ex R1 σ q H Po Q r
  | .ok a q1, h, k => fun w H1 l b p => k q1 w H1 a rfl l b p h
  | .exc c ds q1, h, _ => fun d H' l b f x => h d σ H' l b.s (f.fewer hR) (x.lat (Lat.sub fun b z => Or.elim z (fun z => .inl (hR b z)) .inr))
  | .bad, h, _ => h
theorem tS_ift {t : T} {a b : Ss} (h : tS Z K ex (.ift t a b) D σ H) : tIfS (tT Z K ex t) (tSs Z K ex a) (tSs Z K ex b) D σ H := by
  obtain ⟨R0, q, f0, h⟩ := h
  refine ⟨R0, q, f0, AnS.bind (f := evT K t q) (g := fun c q1 => if c then evSs K a q1 else evSs K b q1) h fun q1 w H1 c _ l bk p z => ?_⟩
  obtain ⟨f1, rfl⟩ := p
  cases w with
  | true => exact iteT ⟨R0, q1, f1, AnS.late l bk.s z⟩
  | false => exact iteF ⟨R0, q1, f1, AnS.late l bk.s z⟩
theorem tSs_nil (h : tSs Z K ex .nil D σ H) : tNext D σ H := by
  obtain ⟨R0, q, f0, h⟩ := h
  exact h σ H (Lat.refl _ _) (BKs.refl _ _) f0
theorem tSs_cons {s : S} {r : Ss} (h : tSs Z K ex (.cons s r) D σ H) : tSeq (tS Z K ex s) (tSs Z K ex r) D σ H := by
  obtain ⟨R0, q, f0, h⟩ := h
  refine ⟨R0, q, f0, ?_⟩
  rw [show evSs K (.cons s r) q = (match evS K s q with
    | .nx q1 => evSs K r q1
    | x => x) from rfl] at h
  cases e : evS K s q with
  | nx q1 =>
    rw [e] at h
    intro σ' H' l b f
    exact ⟨R0, q1, f, AnS.late l b h⟩
  | _ => rw [e] at h; exact h
theorem FR.less {q' : Fm} (f : FR Z R0 σ q H) (hl : q'.length = q.length) (ho : ∀ (i : Nat) (b : Bool) (d : M.D), q'[i]? = some (.ow b d) → q[i]? = some (.ow b d)) (hs : ∀ (i : Nat) (b : Bool) (d : M.D), q'[i]? = some (.sh b d) → q[i]? = some (.sh b d) ∨ q[i]? = some (.ow b d)) :
    FR Z R0 σ q' H ∧ ∀ b, Ow σ q' b → Ow σ q b := by
  have ow : ∀ b, Ow σ q' b → Ow σ q b := fun b ⟨i, b', d, h1, h2⟩ => ⟨i, b', d, ho i b' d h1, h2⟩
  have lt : Lat (Rt R0 σ q) H (Rt R0 σ q') H := Lat.sub fun b z => Or.elim z .inl fun z => .inr (ow b z)
  refine ⟨⟨f.len.trans hl.symm, f.tb, f.trk, fun i b d e => ?_, fun i b d e => ?_, fun i j b b' d d' a e e' h1 h2 => f.sep i j b b' d d' a (ho _ _ _ e) (ho _ _ _ e') h1 h2⟩, ow⟩
  · rcases hs i b d e with e' | e'
    · obtain ⟨v, h1, h2⟩ := f.sh i b d e'
      exact ⟨v, h1, h2.lat lt⟩
    · obtain ⟨a, h1, h2, ds, xs, h3, h4, h5⟩ := f.ow i b d e'
      subst h3
      refine ⟨.ref a, h1, .lst (.inl ⟨.inl h4, fun z => ?_⟩) (h5.lat lt)⟩
      rcases z with z | ⟨j, b2, d2, z1, z2⟩
      · exact h2 z
      · have := f.sep i j b b2 _ d2 a e' (ho _ _ _ z1) h1 z2
        subst this
        rw [e] at z1; cases z1
  · obtain ⟨a, h1, h2, h3⟩ := f.ow i b d (ho i b d e)
    exact ⟨a, h1, h2, h3.lat lt rfl⟩
theorem FR.kil1 {i : Nat} (f : FR Z R0 σ q H) : FR Z R0 σ (q.set i .no) H ∧ (∀ b, Ow σ (q.set i .no) b → Ow σ q b) ∧ BKs σ q σ (q.set i .no) := by
  have key : ∀ {j : Nat} {s : Slot}, (q.set i .no)[j]? = some s → s ≠ .no → q[j]? = some s := fun {j s} e n => by
    by_cases hj : i = j
    · subst hj
      by_cases hl : i < q.length
      · rw [List.getElem?_set_self hl] at e; cases e; exact absurd rfl n
      · rw [List.getElem?_eq_none (by simpa using hl)] at e; cases e
    · rw [List.getElem?_set_ne hj] at e; exact e
  obtain ⟨f1, o1⟩ := f.less (q' := q.set i .no) List.length_set (fun j b d e => key e (fun z => nomatch z)) (fun j b d e => .inl (key e (fun z => nomatch z)))
  exact ⟨f1, o1, fun j ⟨s, h1, h2⟩ => ⟨⟨s, key h1 (fun z => by subst z; cases h2), h2⟩, rfl⟩⟩
theorem FR.kil : ∀ {is : List Nat}, FR Z R0 σ q H → FR Z R0 σ (wipeF is q) H ∧ (∀ b, Ow σ (wipeF is q) b → Ow σ q b) ∧ BKs σ q σ (wipeF is q)
  | [], f => ⟨f, fun _ z => z, BKs.refl _ _⟩
  | i :: is, f => by
    obtain ⟨f1, o1, b1⟩ := FR.kil (is := is) f
    obtain ⟨f2, o2, b2⟩ := FR.kil1 (i := i) f1
    exact ⟨f2, fun b z => o1 b (o2 b z), b1.trans b2⟩
theorem FR.shr1 {i : Nat} (f : FR Z R0 σ q H) : FR Z R0 σ (M.shr1 i q) H ∧ (∀ b, Ow σ (M.shr1 i q) b → Ow σ q b) ∧ BKs σ q σ (M.shr1 i q) := by
  unfold M.shr1
  cases e1 : q[i]? with
  | none => exact ⟨f, fun _ z => z, BKs.refl _ _⟩
  | some s =>
    cases s with
    | ow b d =>
      dsimp only
      have hl : i < q.length := (List.getElem?_eq_some_iff.mp e1).1
      have key : ∀ {j : Nat} {s : Slot}, (q.set i (.sh b d))[j]? = some s → (j = i ∧ s = .sh b d) ∨ q[j]? = some s := fun {j s} e => by
        by_cases hj : i = j
        · subst hj
          rw [List.getElem?_set_self hl] at e; cases e
          exact .inl ⟨rfl, rfl⟩
        · rw [List.getElem?_set_ne hj] at e; exact .inr e
      obtain ⟨f1, o1⟩ := f.less (q' := q.set i (.sh b d)) List.length_set (fun j b' d' e => Or.elim (key e) (fun z => nomatch z.2) fun z => z) (fun j b' d' e => Or.elim (key e) (fun z => by obtain ⟨rfl, z⟩ := z; cases z; exact .inr e1) .inl)
      refine ⟨f1, o1, fun j ⟨s, h1, h2⟩ => ⟨?_, rfl⟩⟩
      rcases key h1 with ⟨rfl, rfl⟩ | z
      · exact ⟨_, e1, h2⟩
      · exact ⟨s, z, h2⟩
    | _ => exact ⟨f, fun _ z => z, BKs.refl _ _⟩
theorem FR.shr : ∀ {is : List Nat}, FR Z R0 σ q H → FR Z R0 σ (shrF is q) H ∧ (∀ b, Ow σ (shrF is q) b → Ow σ q b) ∧ BKs σ q σ (shrF is q)
  | [], f => ⟨f, fun _ z => z, BKs.refl _ _⟩
  | i :: is, f => by
    obtain ⟨f1, o1, b1⟩ := FR.shr (is := is) f
    obtain ⟨f2, o2, b2⟩ := FR.shr1 (i := i) f1
    exact ⟨f2, fun b z => o1 b (o2 b z), b1.trans b2⟩
theorem tSs_kil {is : List Nat} {r : Ss} (h : tSs Z K ex (.cons (.kil is) r) D σ H) : tSs Z K ex r D σ H := by
  obtain ⟨R0, q, f0, h⟩ := h
  obtain ⟨f1, o1, b1⟩ := f0.kil (is := is)
  exact ⟨R0, wipeF is q, f1, AnS.late (Lat.sub o1) b1 h⟩
theorem tS_for {l : LV} {it : I} {b : Ss} (h : tS Z K ex (.for l it b) D σ H) : tFor (tI Z K ex it) (tG Z K l) (tSs Z K ex b) D σ H := by
  obtain ⟨R0, q, f0, h⟩ := h
  refine ⟨R0, q, f0, AnS.bind (f := evI K it q) (g := fun ds q1 => loopF (fun d q => evL K l (.val d) q) (evSs K b) ds q1) h fun q1 J H1 ds _ la bk p z => ?_⟩
  obtain ⟨f1, G, Y, wk, gG, gY⟩ := p
  refine for_it wk (fun i σi Hi => ∃ qi, FR Z R0 σi qi Hi ∧ Lat (Ow σ q1) H1 (Ow σi qi) Hi ∧ BKs σ q1 σi qi ∧ AnS Z ex R0 σ q H D (loopF (fun d q => evL K l (.val d) q) (evSs K b) (ds.drop i) qi)) ?_ ?_ ?_ ?_
  · exact ⟨q1, f1, Lat.refl _ _, BKs.refl _ _, z⟩
  · rintro i σi Hi hi ⟨qi, fi, li, _, _⟩
    exact gG _ Hi li.more
  · rintro i x σi Hi H2 hi ⟨qi, fi, li, bi, z⟩ y
    obtain ⟨d, hd⟩ : ∃ d, ds[i]? = some d := ⟨ds[i], by simp [hi]⟩
    obtain ⟨sm, rx⟩ := gY i x (Rt R0 σi qi) Hi H2 d hd li.more (fun b hb => fi.rtT hb) y
    rw [drop_at hd, loopF] at z
    have f2 : FR Z R0 σi qi H2 := fi.on sm (fun _ y => .inl y) fun b y => (Lat.same (R := Ow σ q) sm).tr b (fi.trk b y)
    refine ⟨R0, qi, .val d, ⟨f2, rx⟩, ?_⟩
    cases e1 : evL K l (.val d) qi with
    | bad => rw [e1] at z; exact z.elim
    | exc _ _ _ => rw [e1] at z; exact z.elim
    | ok u q3 =>
      rw [e1] at z
      dsimp only at z
      intro σ3 H3 l3 b3 _ _ f3
      have l3' : Lat (Ow σi qi) H2 (Ow σ3 q3) H3 := ⟨fun b o hb n => l3.kp b o hb fun y => Or.elim y n fun y => y.elim, fun b y => Or.elim (l3.nw b y) (fun y => Or.elim y .inl fun y => y.elim) .inr, l3.tr⟩
      have l03 : Lat (Ow σ q1) H1 (Ow σ3 q3) H3 := (li.trans (Lat.same sm)).trans l3'
      have b03 : BKs σ q1 σ3 q3 := bi.trans b3
      refine ⟨R0, q3, f3, ?_⟩
      cases e2 : evSs K b q3 with
      | bad => rw [e2] at z; exact z.elim
      | nx q4 =>
        rw [e2] at z
        intro σ' H' l' b' f'
        exact ⟨q4, f', l03.trans l', b03.trans b', z⟩
      | cnt q4 =>
        rw [e2] at z
        intro σ' H' l' b' f'
        exact ⟨q4, f', l03.trans l', b03.trans b', z⟩
      | brk q4 =>
        rw [e2] at z
        intro σ' H' l' b' f'
        exact z σ' H' (la.trans (l03.trans l')) (bk.s.trans (b03.trans b')) f'
      | ret r q4 =>
        rw [e2] at z
        intro w σ' H' l' b' p'
        exact z w σ' H' (la.trans (l03.trans l')) (bk.s.trans (b03.trans b')) (p'.early' fun b hb => (la.trans l03).new hb)
      | exc c es q4 =>
        rw [e2] at z
        intro d σ' H' l' b' f' x
        exact z d σ' H' (la.trans (l03.trans l')) (bk.s.trans (b03.trans b')) f' x
  · rintro σi Hi ⟨qi, fi, li, bi, z⟩
    rw [List.drop_length, loopF] at z
    exact z σi Hi (la.trans li) (bk.s.trans bi) fi
end
section
variable {W : Wo} {X : Cx} {ex : XK} {n : Nat} {pos p1 p2 p3 p4 : Pos} {a b c e tg iter : Expr} {A B : E} {x : Str} {sa sb : List Stmt} {ta tb : Ss} {st : Stmt} {s : S}
theorem mss_nil : MSs W X ex [] .nil := pss_nil.imp fun _ _ _ h => tSs_nil h
theorem mss_cons (h1 : MS W X ex st s) (h2 : MSs W X ex sb tb) : MSs W X ex (st :: sb) (.cons s tb) := (pss_cons h1 h2).imp fun _ _ _ h => tSs_cons h
theorem ms_ret (h : ME W X ex a A) : MS W X ex (.Return (some a) pos) (.ret A) := (ps_ret (h false)).imp fun _ _ _ h => tS_ret h
theorem mss_kil {is : List Nat} (h : MSs W X ex sb tb) : MSs W X ex sb (.cons (.kil is) tb) := h.imp fun _ _ _ h => tSs_kil h
theorem ms_retS (h : ME W X ex a A) : MS W X ex (.Return (some a) pos) (.retS A) := (ps_ret (h false)).imp fun _ _ _ h => tS_retS h
theorem ms_ift {t : T} (hc : MT W X ex c t) (ha : MSs W X ex sa ta) (hb : MSs W X ex sb tb) : MS W X ex (.If c sa sb pos) (.ift t ta tb) := (ps_if hc ha hb).imp fun _ _ _ h => tS_ift h
theorem ms_asgS {l : LV} (he : ME W X ex e A) (hg : ML W X tg l) (hs : swapsWithSole [tg] e pos.line X.env = pure false := by rfl) (hw : swappedStores [tg] e X.env = pure none := by rfl) (h1 : (assignEach [tg] X.env).map (·.2) = [assign tg X.env] := by rfl) :
    MS W X ex (.Assign [tg] e pos) (.asgS l A) := (ps_asg (he false) hg hs hw h1).imp fun _ _ _ h => tS_asgS h
theorem ms_for [Calm W] {l : LV} {it : I} (g : Gd W n X ex) (hp : PassesOwn (model X.prog X.w) X.A X.env X.xe) (hi : MI W X ex tg iter it) (hg : ML W X tg l) (hb : MSs W X ex sb tb) (hs : ∀ x, foldedSetIterable iter X.env x = pure x := by intro _; rfl) : MS W X ex (.For tg iter sb [] pos) (.for l it tb) :=
  (ps_for hp g.calm hi hg hb hs).imp fun _ _ _ h => tS_for h
/-- name = [..] on its own line -/
theorem ms_setLcS [Calm W] {i : Nat} {ifs : List Expr} {scope : Scope} {elt : Expr} (own : List (Str × Nat)) {g : LV} {it : I} {t : T} (gd : Gd W n X ex) (hi : MI W X ex tg iter it)
    (hg : ∀ s H C cl fp, Gd W n (X.blk s H scope (compEnvC scope cl C X.env) fp) E0 → ML W (X.blk s H scope (compEnvC scope cl C X.env) fp) tg g)
    (ht : ∀ s H C cl fp, Gd W n (X.blk s H scope (compEnvC scope cl C X.env) fp) E0 → MTs W (X.blk s H scope (compEnvC scope cl C X.env) fp) E0 ifs t)
    (he : ∀ s H C cl fp, Gd W n (X.blk s H scope (compEnvC scope cl C X.env) fp) E0 → ME W (X.blk s H scope (compEnvC scope cl C X.env) fp) E0 elt A)
    (hy : X.N[i]? = some x := by rfl) (hyl : X.env.scope.names.lookup x = some .local := by rfl) (hsw : swapsWith (.ListComp elt [⟨tg, iter, ifs, 0⟩] scope p1) (some (.Name x p2)) pos.line X.env = pure true := by rfl)
    (ok : blkC X.N X.env.scope scope own = true := by kernel_rfl) (hns : ∀ i, i ∈ g.ns → i ∈ own.map (·.2) := by decide +kernel) (hs : ∀ x, foldedSetIterable iter X.env x = pure x := by intro _; rfl) :
    MS W X ex (.Assign [.Name x p2] (.ListComp elt [⟨tg, iter, ifs, 0⟩] scope p1) pos) (.asgS (.nm i) (.lc (own.map (·.2)) g it t A)) :=
  (ps_setLc gd.calm gd.nd hy hyl hsw hi (blkOk_by ok) (fun s H C cl fp => hg s H C cl fp (gd.blk ..)) (fun s H C cl fp => ht s H C cl fp (gd.blk ..)) (fun s H C cl fp => he s H C cl fp (gd.blk ..) false) hs).imp fun D s H h => by
    exact tE_lc hns ((tS_asgS h).mono fun v H1 z => tG_nm z)
end
end M

set_option Elab.async false
set_option linter.all false
set_option maxRecDepth 100000
set_option maxHeartbeats 4000000
/-! G3: lists that grow and shrink, x op= e, while; texts, repr, in; calls with names, methods. -/
namespace M
open PySem L2 PyProof.Rows SlX
section
variable {Z : Zc} {K : Calls} {ex : XK} {σ : Sg} {H : Hp} {D : Ends}
end
section
variable {W : Wo} {X : Cx} {ex : XK} {n : Nat} {pos p1 p2 p3 p4 apos : Pos} {a b c : Expr} {A B C : E} {x : Str}
end
/-! ### x op= e, while -/
section
variable {Z : Zc} {K : Calls} {ex : XK} {σ : Sg} {H : Hp} {D : Ends}
end
section
variable {W : Wo} {X : Cx} {ex : XK} {n : Nat} {pos p1 p2 p3 p4 apos : Pos} {a b c e : Expr} {A B C : E} {x : Str} {sb : List Stmt} {tb : Ss}
end
/-! ### x, y = a, b by way of a tuple (names that inner scopes read) -/
section
variable {Z : Zc} {K : Calls} {ex : XK} {R0 : Pr} {σ : Sg} {q : Fm} {H : Hp} {D : Ends}
def later (D : Ends) : Ends := { D with nx := fun σ2 H2 => ∀ H3, Same H2 H3 → D.nx σ2 H3 }
theorem AnS.later : ∀ {r : SRes}, AnS Z ex R0 σ q H D r → AnS Z ex R0 σ q H (later D) r
  | .nx q', h => fun σ2 H2 l b f H3 sm => h σ2 H3 (l.trans (Lat.same sm)) b (f.on sm (fun _ z => .inl z) fun b hb => (Lat.same (R := Ow σ q) sm).tr b (f.trk b hb))
  | .brk _, h => h
  | .cnt _, h => h
  | .ret _ _, h => h
  | .exc _ _ _, h => h
  | .bad, h => h
end
section
variable {W : Wo} {X : Cx} {ex : XK} {n : Nat} {pos p1 p2 p3 p4 p5 : Pos} {a b c : Expr} {A B C : E} {x y z : Str}
end
end M

set_option Elab.async false
set_option linter.all false
set_option maxRecDepth 100000
set_option maxHeartbeats 4000000
/-! G4: repr, f-strings, in, [::-1], calls with names, methods. -/
namespace M
open PySem L2 PyProof.Rows SlX
/-! ### repr -/
mutual
theorem Dq.reads {X : Cx} {pins : List (Addr × Obj)} {σ : Sg} {H : Hp} {s : Shared} (I : Inv X pins σ H s) (sy : ∃ o, H sysModules = some (.frz o (.own 0))) (ks : X.K.lookup sysModules = none) :
    ∀ (d : PyData) (v : V) (u : Value), Dq X.K H v d → RelV v u → ∃ as, Reads s.heap u d as ∧ sysModules ∉ as
  | .none, _, _, h, r => by
    cases h
    cases r
    exact ⟨_, Reads.none, by simp⟩
  | .bool b, _, _, h, r => by
    cases h
    cases r
    exact ⟨_, Reads.bool b, by simp⟩
  | .int i, _, _, h, r => by
    cases h
    obtain ⟨t, rfl⟩ := r
    exact ⟨_, Reads.int i t, by simp⟩
  | .str x, _, _, h, r => by
    cases h
    obtain ⟨t, rfl⟩ := r
    exact ⟨_, Reads.str x t, by simp⟩
  | .list ds, _, _, h, r => by
    cases h with
    | @lst a _ _ hs ha =>
      cases r
      have hne : a ≠ sysModules := fun z => by
        subst z
        obtain ⟨o, e⟩ := sy
        rcases hs with (h1 | ⟨o2, h1⟩) | ⟨o2, its, n, h1, _⟩
        · rw [e] at h1; cases h1
        · rw [e] at h1; cases h1
        · rw [ks] at h1; cases h1
      obtain ⟨its, rv, ⟨o, n, ho, hc, _, hd⟩, _⟩ := I.list hs
      obtain ⟨as, hr, hn⟩ := Dq.readsAll I sy ks ds _ its ha rv
      exact ⟨_, Reads.list ho hc hd hr, fun z => by
        rcases List.mem_cons.mp z with z | z
        · exact hne z.symm
        · exact hn z⟩
  | .tuple ds, _, _, h, r => by
    cases h with
    | tup hs ha =>
      cases r
      obtain ⟨its, rv, ⟨o, ho, hc, n, hd⟩, _⟩ := I.tuple hs
      obtain ⟨as, hr, hn⟩ := Dq.readsAll I sy ks ds _ its ha rv
      exact ⟨_, Reads.tuple ho hc hd hr, hn⟩
  | .dict kvs0, _, u0, h, r => by
    cases h with
    | @dct a kvs ea =>
      cases r
      have ok : ObjOk X.prog X.w H s.heap a (.dK (kvs.map fun p => ((Sum.inr p.1 : Key), V.int p.2))) := I.hok a _ ea
      obtain ⟨_, hsm, vs, kv, o, es, ep, ho, hx, hd, _, ps, _⟩ := ok
      have key : ∀ (kvs : List (Str × Int)) (vs : List (Key × Value)) (es : List DictEntry), KV (kvs.map fun p => ((Sum.inr p.1 : Key), V.int p.2)) vs → Pairs (mixKind X.prog X.w) es vs →
          ReadsAll s.heap (es.map (·.key)) (kvs.map fun p => PyData.str p.1) [] ∧ ReadsAll s.heap (es.map (·.val)) (kvs.map fun p => PyData.int p.2) [] := by
        intro kvs
        induction kvs with
        | nil =>
          intro vs es h1 h2
          cases h1
          cases h2
          exact ⟨.nil, .nil⟩
        | cons p kvs ih =>
          intro vs es h1 h2
          cases h1 with
          | @cons _ kw _ _ hp h1 =>
            cases h2 with
            | cons hk hv h2 =>
              obtain ⟨i1, i2⟩ := ih _ _ h1 h2
              obtain ⟨e1, e2⟩ := hp
              have e1 : (Sum.inr p.1 : Key) = kw.1 := e1
              have e2 : L2.RelV (V.int p.2) kw.2 := e2
              obtain ⟨t2, e2⟩ := e2
              rw [← e1] at hk
              obtain ⟨t1, e3⟩ := Value.isStrOf_shape (show Value.isStrOf p.1 _ = true from hk)
              refine ⟨?_, ?_⟩
              · rw [List.map_cons, List.map_cons, e3]
                exact ReadsAll.cons (as := []) (Reads.str _ _) i1
              · rw [List.map_cons, List.map_cons, hv, e2]
                exact ReadsAll.cons (as := []) (Reads.int _ _) i2
      obtain ⟨i1, i2⟩ := key kvs vs es.toList kv ps
      refine ⟨a :: [] ++ [], Reads.dict ho hx.1 hd ?_ ?_, fun z => ?_⟩
      · rw [List.map_map]; exact i1
      · rw [List.map_map]; exact i2
      · have e : sysModules = a := by simpa using z
        rw [e] at hsm
        simp at hsm
theorem Dq.readsAll {X : Cx} {pins : List (Addr × Obj)} {σ : Sg} {H : Hp} {s : Shared} (I : Inv X pins σ H s) (sy : ∃ o, H sysModules = some (.frz o (.own 0))) (ks : X.K.lookup sysModules = none) :
    ∀ (ds : List PyData) (vs : List V) (us : List Value), DqAll X.K H vs ds → Vals vs us → ∃ as, ReadsAll s.heap us ds as ∧ sysModules ∉ as
  | [], _, _, h, r => by
    cases h
    cases r
    exact ⟨_, ReadsAll.nil, by simp⟩
  | d :: ds, _, _, h, r => by
    cases h with
    | cons h1 h2 =>
      cases r with
      | cons r1 r2 =>
        obtain ⟨as, q1, n1⟩ := Dq.reads I sy ks d _ _ h1 r1
        obtain ⟨bs, q2, n2⟩ := Dq.readsAll I sy ks ds _ _ h2 r2
        exact ⟨_, ReadsAll.cons q1 q2, fun z => (List.mem_append.mp z).elim n1 n2⟩
end
def rRepr (K : PySem.W.Frag) : List V → Hp → VK → Prop := fun xs H Q => ∃ x p, xs = [x] ∧ Dq K H x p ∧ (∃ o, H sysModules = some (.frz o (.own 0))) ∧ K.lookup sysModules = none ∧ p.showable = true ∧ p.depth ≤ 64 ∧ p.shown.length ≤ sizeLine ∧ Q (.str p.shown) H
theorem call_reprD {X : Cx} (qu : Qu X.A) (hu : X.A.units + 65 < cLine) : CallR X (.builtin "repr") (rRepr X.K) := by
  intro pins s σ H xs us Q I r h
  obtain ⟨x, p, rfl, hd, sy, ks, hs, hdp, hl, q⟩ := h
  obtain ⟨u, rfl, ru⟩ := r.one
  obtain ⟨as, rd, nsm⟩ := Dq.reads I sy ks p x u hd ru
  have big : ∀ {a : Addr}, u = .ref a → wpAny (model X.prog X.w) X.A (call (.builtin "repr") [u]) (EP X pins σ Q) X.xe s := fun {a} e => by
    subst e
    exact repr_of_reads' rd hs (fun _ => nsm) qu (by omega) (fun _ _ e => e) (fun h' t tk k => ⟨.str p.shown, H, I.kept (t' := tk) k, ⟨_, rfl⟩, q⟩) hl
  cases hd with
  | non =>
    cases ru
    rw [show PyData.none.shown = "None" from by simp only [PyData.shown]] at q
    exact PySem.P.repr_of_none ⟨.str _, H, I.tok _, ⟨_, rfl⟩, q⟩
  | bl b =>
    cases ru
    rw [show (PyData.bool b).shown = if b then Str.ofString "True" else Str.ofString "False" from by simp only [PyData.shown]] at q
    exact PySem.P.repr_of_bool ⟨.str _, H, I.tok _, ⟨_, rfl⟩, q⟩
  | int i =>
    obtain ⟨t, rfl⟩ := ru
    rw [show (PyData.int i).shown = toString i from by simp only [PyData.shown]] at q
    exact PySem.P.repr_of_int (by simpa [PyData.showable] using hs) ⟨.str _, H, I.tok _, ⟨_, rfl⟩, q⟩
  | str z =>
    obtain ⟨t, rfl⟩ := ru
    rw [show (PyData.str z).shown = reprText z from by simp only [PyData.shown]] at q hl
    exact PySem.P.repr_of_str ⟨.str _, H, I.tok _, ⟨_, rfl⟩, q⟩ hl
  | lst a b => exact big ru
  | tup a b => exact big ru
  | dct a => exact big ru
theorem pr_repr {Z : Zc} {x : V} {H : Hp} {Q : VK} (h : PrimPost Z .repr [x] H Q) : rRepr Z.K [x] H Q := by
  obtain ⟨R, ds, ht, hr, nw, d, e, k⟩ := h
  obtain ⟨d0, rfl, rp⟩ := repPs1 hr
  have e : reprD d0 = some (nw, d) := e
  unfold reprD at e
  cases hp : d0.py with
  | none => rw [hp] at e; cases e
  | some p =>
    rw [hp] at e
    dsimp only at e
    by_cases hc : p.showable = true ∧ p.depth ≤ 64 ∧ p.shown.length ≤ sizeLine
    · rw [if_pos hc] at e
      cases e
      exact ⟨x, p, rfl, rp.dp hp, ht.1.sy, ht.1.ks, hc.1, hc.2.1, hc.2.2, k _ H (Same.refl H) (.str _)⟩
    · rw [if_neg hc] at e; cases e
/-! ### in -/
def rInX (K : PySem.W.Frag) (neg : Bool) : R2 := fun x y H Q => (∃ i j, x = .str i ∧ y = .str j ∧ Q (.bl (neg ^^ !(Builtin.Str.occurrences j i 0 j.length 1).isEmpty)) H) ∨
  ∃ d ds, Dp K H x d ∧ (Dp K H y (.list ds) ∨ Dp K H y (.tuple ds)) ∧ SeqAt.shaped d = true ∧ SeqAt.shaped (.list ds) = true ∧ Q (.bl (neg ^^ ds.any fun z => PyData.eqv z d)) H
theorem op_inX {X : Cx} (hu : X.A.units + 65 < cLine) : OpR X (compareOp .In) (rInX X.K false) := by
  intro pins s σ H x y v u Q I rx ry h
  rcases h with ⟨i, j, rfl, rfl, q⟩ | ⟨d, ds, hd, he, sd, se, q⟩
  · exact op_in_str pins s σ H _ _ v u Q I rx ry ⟨i, j, rfl, rfl, by simpa using q⟩
  · obtain ⟨as, r1⟩ := Dp.reads I d x v hd rx
    have q' : Q (.bl (ds.any fun z => PyData.eqv z d)) H := by simpa using q
    rcases he with he | he
    · obtain ⟨bs, r2⟩ := Dp.reads I (.list ds) y u he ry
      exact SeqAt.in_list_reads r2 r1 (SeqAt.canLay_of_shaped se) (SeqAt.canLay_of_shaped sd) (room_in_shaped sd hu) ⟨.bl _, H, I, rfl, q'⟩
    · obtain ⟨bs, r2⟩ := Dp.reads I (.tuple ds) y u he ry
      exact SeqAt.in_tuple_reads r2 r1 (SeqAt.canLay_of_shaped se) (SeqAt.canLay_of_shaped sd) (room_in_shaped sd hu) ⟨.bl _, H, I, rfl, q'⟩
theorem shapedD_inv {d : D} {p : PyData} (h : shapedD d = some p) : d.py = some p ∧ SeqAt.shaped p = true := by
  unfold shapedD at h
  cases hp : d.py with
  | none => rw [hp] at h; cases h
  | some p' =>
    rw [hp] at h
    dsimp only at h
    by_cases hs : SeqAt.shaped p' = true
    · rw [if_pos hs] at h; cases h; exact ⟨rfl, hs⟩
    · rw [if_neg hs] at h; cases h
theorem shapedL_inv {ds : List D} {ps : List PyData} (h : shapedL ds = some ps) : D.pys ds = some ps ∧ SeqAt.shaped (.list ps) = true := by
  unfold shapedL at h
  cases hp : D.pys ds with
  | none => rw [hp] at h; cases h
  | some p' =>
    rw [hp] at h
    dsimp only at h
    by_cases hs : SeqAt.shaped (.list p') = true
    · rw [if_pos hs] at h; cases h; exact ⟨rfl, hs⟩
    · rw [if_neg hs] at h; cases h
theorem inD_inv {Z : Zc} {H : Hp} {R : Pr} {x y : V} {a b : D} {c : Bool} (h : inD a b = some c) (ra : RepP Z H R x a) (rb : RepP Z H R y b) : (∃ i j, x = .str i ∧ y = .str j ∧ c = !(Builtin.Str.occurrences j i 0 j.length 1).isEmpty) ∨
    ∃ d ds, Dp Z.K H x d ∧ (Dp Z.K H y (.list ds) ∨ Dp Z.K H y (.tuple ds)) ∧ SeqAt.shaped d = true ∧ SeqAt.shaped (.list ds) = true ∧ c = ds.any fun z => PyData.eqv z d := by
  have seq : ∀ {ds : List D} {b : D}, (match shapedD a, shapedL ds with | some p, some ps => some (ps.any fun z => PyData.eqv z p) | _, _ => none) = some c → (b = .lst ds ∨ b = .tup ds) → RepP Z H R y b →
      ∃ d ds, Dp Z.K H x d ∧ (Dp Z.K H y (.list ds) ∨ Dp Z.K H y (.tuple ds)) ∧ SeqAt.shaped d = true ∧ SeqAt.shaped (.list ds) = true ∧ c = ds.any fun z => PyData.eqv z d := fun {ds b} h hb rb => by
    cases h1 : shapedD a with
    | none => rw [h1] at h; cases h
    | some p =>
      cases h2 : shapedL ds with
      | none => rw [h1, h2] at h; cases h
      | some ps =>
        rw [h1, h2] at h
        cases h
        obtain ⟨e1, s1⟩ := shapedD_inv h1
        obtain ⟨e2, s2⟩ := shapedL_inv h2
        refine ⟨p, ps, (ra.dp e1).shaped s1, ?_, s1, s2, rfl⟩
        rcases hb with rfl | rfl
        · exact .inl ((rb.dp (by unfold D.py; rw [e2])).shaped s2)
        · exact .inr ((rb.dp (by unfold D.py; rw [e2])).shaped s2)
  cases b with
  | lst ds =>
    unfold inD at h
    cases a <;> exact .inr (seq h (.inl rfl) rb)
  | tup ds =>
    unfold inD at h
    cases a <;> exact .inr (seq h (.inr rfl) rb)
  | str j =>
    cases a with
    | str i => cases h; exact .inl ⟨i, j, ra.str, rb.str, rfl⟩
    | _ => cases h
  | _ => cases a <;> cases h
theorem pr_isIn {Z : Zc} {x y : V} {H : Hp} {Q : VK} (h : PrimPost Z .isIn [x, y] H Q) : rInX Z.K false x y H Q := by
  obtain ⟨R, ds, ht, hr, nw, d, e, k⟩ := h
  obtain ⟨d1, d2, rfl, r1, r2⟩ := repPs2 hr
  obtain ⟨c, e1, e2⟩ := Option.map_eq_some_iff.mp (show (inD d1 d2).map _ = _ from e)
  cases e2
  have z := k _ H (Same.refl H) (.bl c)
  rcases inD_inv e1 r1 r2 with ⟨i, j, h1, h2, rfl⟩ | ⟨d, ds, h1, h2, h3, h4, rfl⟩
  · exact .inl ⟨i, j, h1, h2, by simpa using z⟩
  · exact .inr ⟨d, ds, h1, h2, h3, h4, by simpa using z⟩
/-! ### f-strings -/
section
variable {Z : Zc} {K : Calls} {ex : XK} {s : Sg} {H : Hp}
end
section
variable {W : Wo} {X : Cx} {ex : XK} {n m k j : Nat} {pos p1 p2 p3 p4 apos : Pos} {a b c e : Expr} {es : List Expr} {A B C : E} {x y : Str} {gs : Gs} {kws : List Keyword}
/-! ### builtins, operators -/
theorem boot_repr' : bootBuiltins "repr" = some (.builtin "repr") := by decide +kernel
theorem me_repr (g : Gd W n X ex) (hm : W.mg "repr" = none) (ha : ME W X ex a A) (hg : Gl X "repr" := by rfl) (he : starEach [a] X.env = (false, eval a X.env) :: starEach [] X.env := by rfl) : ME W X ex (.Call (.Name "repr" p1) [a] [] pos) (.prm .repr (.cons A .nil)) :=
  me_b1 (call_reprD g.qu g.un) (fun x H Q h => by rw [g.hK]; exact pr_repr h) boot_repr' (by rw [g.hm]; exact hm) ha hg (he := he)
def cm_in (g : Gd W n X ex) : Cm W X .In .isIn where
  r := rInX X.K false
  ho := op_inX g.un
  hp := fun x y H Q h => by rw [g.hK]; exact pr_isIn h
  hb := fun x y H Q Q' h i => h.imp (fun ⟨a, b, h1, h2, q⟩ => ⟨a, b, h1, h2, i _ _ q⟩) fun ⟨d, ds, h1, h2, h3, h4, q⟩ => ⟨d, ds, h1, h2, h3, h4, i _ _ q⟩
/-! ### calls with names -/
/-- a def called with names -/
structure Fk (W : Wo) (n : Nat) (x : Str) (f : Nat) (m : Nat) (ks : List Str) (pm : List Nat) : Prop where
  ex : ∃ a, FnK W.P W.w W.Z.K W.mg W.base (L2.CX W.P W.w) n a m ks pm (spF W.Z W.K f) ∧ W.mg x = some (.ref a) ∧ PySem.W.keepIn W.Z.K (.ref a) = true
/-- a class whose constructor is called with names -/
structure Mk0 (W : Wo) (k : Nat) (x : Str) (c : Nat) (ks : List Str) (pm : List Nat) : Prop where
  ex : ∃ a, Mk W.Z.K (W.Z.C c) a ∧ FnK W.P W.w W.Z.K W.mg W.base (L2.CX W.P W.w) k a 1 ks (0 :: pm.map (· + 1)) (spC W.Z W.K c) ∧ W.mg x = some (.ref (W.Z.C c))
  lt : c < W.Z.nc
/-! ### a class's own methods -/
structure Cd (W : Wo) (k : Nat) (x m : Str) (c f : Nat) : Prop where
  ex : ∃ mc p a, ClX.CRead W.Z.K (W.Z.C c) mc ∧ ClX.CMet W.Z.K (W.Z.C c) mc m p a ∧ FnG W.P W.w W.Z.K W.mg W.base (L2.CX W.P W.w) k a (spF W.Z W.K f)
  mg : W.mg x = some (.ref (W.Z.C c))
/-- a method of an instance with slots -/
structure Id (W : Wo) (k : Nat) (m : Str) (c f : Nat) : Prop where
  sc : SCls W.Z.K (W.Z.C c)
  ex : ∃ a, Meth W.Z.K (W.Z.C c) m a ∧ FnG W.P W.w W.Z.K W.mg W.base (L2.CX W.P W.w) k a (spF W.Z W.K f)
end
end M

set_option Elab.async false
set_option linter.all false
set_option maxRecDepth 100000
set_option maxHeartbeats 4000000
/-! G5: str(x), len(x), repr(x), bool(x) of an instance with slots, by the class's own defs. -/
namespace M
open PySem L2 PyProof.Rows SlX
section
variable {P : Program} {w : World} {A : Around} {E : Value → Shared → Prop} {s : Shared} {K : PySem.W.Frag} {x C f : Addr} {ox : Obj} {od : Option Obj}
end
section
variable {X : Cx} {CX : CXT} {C f : Addr} {sp : Sp} {E : XK} {n : Nat}
end
end M

set_option Elab.async false
set_option linter.all false
set_option maxRecDepth 100000
set_option maxHeartbeats 4000000
/-! G6: bool(x) of an instance with slots. -/
namespace M
open PySem L2 PyProof.Rows SlX
section
variable {P : Program} {w : World} {A : Around} {E : Value → Shared → Prop} {s : Shared} {K : PySem.W.Frag} {x C f : Addr} {ox : Obj} {od : Option Obj}
end
section
variable {X : Cx} {CX : CXT} {C f : Addr} {sp : Sp} {E : XK} {n : Nat}
end
section
variable {Z : Zc} {H : Hp} {x : V} {Q : VK}
end
section
variable {W : Wo} {n k : Nat} {X : Cx} {ex : XK} {a : Expr} {A : E} {pos p1 : Pos}
/-- the def x of the class c: its promise -/
structure Dd (W : Wo) (k c : Nat) (x : Str) (f : Nat) : Prop where
  sc : SCls W.Z.K (W.Z.C c)
  ex : ∃ a, PySem.W.findIn W.Z.K (.ref (W.Z.C c)) x = some (some (.ref a)) ∧ PySem.W.isFn W.Z.K (.ref a) = true ∧ FnG W.P W.w W.Z.K W.mg W.base (L2.CX W.P W.w) k a (spF W.Z W.K f)
end
end M

set_option Elab.async false
set_option linter.all false
set_option maxRecDepth 100000
set_option maxHeartbeats 4000000
/-! G7: == and != of two instances with slots, by the class's own __eq__. -/
namespace M
open PySem L2 PyProof.Rows SlX
section
variable {P : Program} {w : World} {A : Around} {E : Value → Shared → Prop} {s : Shared} {K : PySem.W.Frag} {x y C f : Addr} {ox oy : Obj} {od od2 : Option Obj}
end
section
variable {W : Wo} {n k : Nat} {X : Cx} {ex : XK} {a b : Expr} {A B : E} {pos : Pos}
end
end M

set_option Elab.async false
set_option linter.all false
set_option maxRecDepth 100000
set_option maxHeartbeats 4000000
/-! G8: C.m(name=..), m a class method. -/
namespace M
open PySem L2 PyProof.Rows SlX
section
variable {W : Wo} {n k : Nat} {X : Cx} {ex : XK} {pos p1 apos : Pos} {gs : Gs} {kws : List Keyword} {x : Str}
/-- the class method m of the class c, its values by the names ks -/
structure Ck (W : Wo) (k : Nat) (x m : Str) (c f : Nat) (ks : List Str) (pm : List Nat) : Prop where
  ex : ∃ mc p a, ClX.CRead W.Z.K (W.Z.C c) mc ∧ ClX.CMet W.Z.K (W.Z.C c) mc m p a ∧ FnK W.P W.w W.Z.K W.mg W.base (L2.CX W.P W.w) k a 1 ks pm (spF W.Z W.K f)
  mg : W.mg x = some (.ref (W.Z.C c))
end
end M

set_option Elab.async false
set_option linter.all false
set_option maxRecDepth 100000
set_option maxHeartbeats 4000000
/-! G9: t[::-1], t a list or a tuple. -/
namespace M
open PySem L2 PyProof.Rows SlX HT
section
variable {P : Program} {w : World} {A : Around} {E : Value → Shared → Prop} {s : Shared}
end
section
variable {X : Cx}
end
section
variable {W : Wo} {n : Nat} {X : Cx} {ex : XK} {a : Expr} {A : E} {pos p1 p2 p3 : Pos}
end
end M

set_option Elab.async false
set_option linter.all false
set_option maxRecDepth 100000
set_option maxHeartbeats 4000000
/-! G10: sorted(list, key=a def of the text). -/
namespace M
open PySem L2 PyProof.Rows SlX
section
variable {X : Cx} {pins : List (Addr × Obj)} {σ : Sg} {H : Hp} {s : Shared}
end
section
variable {X : Cx} {pins : List (Addr × Obj)} {σ : Sg} {H : Hp} {s : Shared} {A : Around} {D kS : Addr} {vs : List Value} {kz : List Int} {keys : Array Value} {e e1 : Nat} {P : PySem.Fin → Shared → Prop}
end
section
variable {X : Cx} {pins : List (Addr × Obj)} {σ : Sg} {H : Hp} {s : Shared} {D kS f : Addr} {vs : List Value} {xs : List V} {e1 n : Nat} {P : PySem.Fin → Shared → Prop} {sp : Sp} {Q : List Int → Hp → Prop}
end
end M

set_option Elab.async false
set_option linter.all false
set_option maxRecDepth 100000
set_option maxHeartbeats 4000000
/-! G11: sorted(list, key=a def): the call. -/
namespace M
open PySem L2 PyProof.Rows SlX
inductive F2 {α β : Type} (R : α → β → Prop) : List α → List β → Prop
  | nil : F2 R [] []
  | cons {a : α} {b : β} {l : List α} {m : List β} (r : R a b) (h : F2 R l m) : F2 R (a :: l) (b :: m)
section
variable {X : Cx} {f : Addr} {sp : Sp} {n : Nat}
end
end M

set_option Elab.async false
set_option linter.all false
set_option maxRecDepth 100000
set_option maxHeartbeats 4000000
/-! G12: sorted(list, key=a def): the tree's reading. -/
namespace M
open PySem L2 PyProof.Rows SlX
/-! sorting by distinct keys -/
section
variable {Z : Zc} {K : Calls} {ex : XK} {s : Sg} {R0 : Pr} {q1 : Fm} {f : Nat}
end
end M

set_option Elab.async false
set_option linter.all false
set_option maxRecDepth 100000
set_option maxHeartbeats 4000000
/-! G13: sorted(list, key=a def): read in the text. -/
namespace M
open PySem L2 PyProof.Rows SlX
section
variable {W : Wo} {n k : Nat} {X : Cx} {ex : XK} {a : Expr} {A : E} {pos p1 p2 kp : Pos} {fx : Str} {f : Nat}
end
end M

set_option Elab.async false
set_option linter.all false
set_option maxRecDepth 100000
set_option maxHeartbeats 4000000
/-! A15: defs and constructors. -/
namespace M
open PySem L2 PyProof.Rows SlX

abbrev cxF (W : Wo) (N : List Str) (qual : Str) (sc : Scope) (f : Addr) (cdv : Value) (A : Around) (outer : List Env) (s : Shared) (H : Hp) (E : XK) : Cx := cxOf (L2.CX W.P W.w) W.P W.w W.Z.K W.mg W.base N qual sc f cdv A outer s H E
section
variable {W : Wo} {N ps : List Str} {qual : Str} {sc : Scope} {f : Addr} {cdv : Value} {A : Around} {outer : List Env} {s : Shared} {H : Hp} {E : XK} {n : Nat}
theorem gd_cx (S : FnScope N ps sc) (qu : Qu A) (hr : Room n (A.deeper (envOfC qual sc s.heap.objs.size f cdv))) : Gd W n (cxF W N qual sc f cdv A outer s H E) E :=
  ⟨rfl, rfl, rfl, rfl, rfl, fun _ => rfl, S.nd, ⟨hr.dp, hr.un⟩, fun _ => hr.hd, passes_call (takes_of rfl rfl rfl rfl) fun _ _ _ _ h => h, qu⟩
theorem po_cx : PassesOwn (model (cxF W N qual sc f cdv A outer s H E).prog (cxF W N qual sc f cdv A outer s H E).w) (cxF W N qual sc f cdv A outer s H E).A (cxF W N qual sc f cdv A outer s H E).env (cxF W N qual sc f cdv A outer s H E).xe := passes_of rfl
end
section
variable {Z : Zc} {R0 R1 : Pr} {σ : Sg} {q : Fm} {H H' : Hp}
theorem rep_none_get {i k : Nat} {v : V} : (List.replicate k (none : Option V))[i]? ≠ some (some v) := by
  rw [List.getElem?_replicate]
  split <;> (intro h; cases h)
theorem rep_no_get {i k : Nat} {t : Slot} (h : (List.replicate k Slot.no)[i]? = some t) : t = .no := by
  rw [List.getElem?_replicate] at h
  split at h
  · cases h; rfl
  · cases h
theorem ext_slot {k i : Nat} {t : Slot} (h : (q ++ List.replicate k Slot.no)[i]? = some t) : q[i]? = some t ∨ t = .no := by
  by_cases hi : i < q.length
  · rw [List.getElem?_append_left hi] at h; exact .inl h
  · rw [List.getElem?_append_right (by omega)] at h; exact .inr (rep_no_get h)
theorem ext_val {k i : Nat} {v : V} : (σ ++ List.replicate k none)[i]? = some (some v) ↔ σ[i]? = some (some v) := by
  by_cases hi : i < σ.length
  · rw [List.getElem?_append_left hi]
  · rw [List.getElem?_append_right (by omega), List.getElem?_eq_none (l := σ) (by omega)]
    exact ⟨fun h => absurd h rep_none_get, fun h => nomatch h⟩
theorem ext_ow {k : Nat} {b : Addr} : Ow (σ ++ List.replicate k none) (q ++ List.replicate k .no) b ↔ Ow σ q b := by
  constructor
  · rintro ⟨i, b', d, h1, h2⟩
    rcases ext_slot h1 with h | h
    · exact ⟨i, b', d, h, ext_val.mp h2⟩
    · cases h
  · rintro ⟨i, b', d, h1, h2⟩
    exact ⟨i, b', d, by rw [List.getElem?_append_left (List.getElem?_eq_some_iff.mp h1).1]; exact h1, ext_val.mpr h2⟩
theorem FR.ext (f : FR Z R0 σ q H) (k : Nat) : FR Z R0 (σ ++ List.replicate k none) (q ++ List.replicate k .no) H := by
  have lt : Lat (Rt R0 σ q) H (Rt R0 (σ ++ List.replicate k none) (q ++ List.replicate k .no)) H := Lat.sub fun b z => Or.elim z .inl fun z => .inr (ext_ow.mp z)
  refine ⟨by rw [List.length_append, List.length_append, List.length_replicate, List.length_replicate, f.len], f.tb, f.trk, fun i b d e => ?_, fun i b d e => ?_, fun i j b b' d d' a e e' h1 h2 => ?_⟩
  · rcases ext_slot e with e | e
    · obtain ⟨v, h1, h2⟩ := f.sh i b d e
      exact ⟨v, ext_val.mpr h1, h2.lat lt⟩
    · cases e
  · rcases ext_slot e with e | e
    · obtain ⟨v, h1, h2, h3⟩ := f.ow i b d e
      exact ⟨v, ext_val.mpr h1, h2, h3.lat lt rfl⟩
    · cases e
  · rcases ext_slot e with e | e
    · rcases ext_slot e' with e' | e'
      · exact f.sep i j b b' d d' a e e' (ext_val.mp h1) (ext_val.mp h2)
      · cases e'
    · cases e
/-- self ahead -/
theorem pin_ow {x : V} {b : Addr} : Ow (some x :: σ) (.pin :: q) b ↔ Ow σ q b := by
  constructor
  · rintro ⟨i, b', d, h1, h2⟩
    cases i with
    | zero => simp at h1
    | succ i => exact ⟨i, b', d, by simpa using h1, by simpa using h2⟩
  · rintro ⟨i, b', d, h1, h2⟩
    exact ⟨i + 1, b', d, by simpa using h1, by simpa using h2⟩
theorem FR.pin (f : FR Z R0 σ q H) (x : V) : FR Z R0 (some x :: σ) (.pin :: q) H := by
  have lt : Lat (Rt R0 σ q) H (Rt R0 (some x :: σ) (.pin :: q)) H := Lat.sub fun b z => Or.elim z .inl fun z => .inr (pin_ow.mp z)
  refine ⟨by rw [List.length_cons, List.length_cons, f.len], f.tb, f.trk, fun i b d e => ?_, fun i b d e => ?_, fun i j b b' d d' a e e' h1 h2 => ?_⟩
  · cases i with
    | zero => simp at e
    | succ i =>
      obtain ⟨v, h1, h2⟩ := f.sh i b d (by simpa using e)
      exact ⟨v, by simpa using h1, h2.lat lt⟩
  · cases i with
    | zero => simp at e
    | succ i =>
      obtain ⟨v, h1, h2, h3⟩ := f.ow i b d (by simpa using e)
      exact ⟨v, by simpa using h1, h2, h3.lat lt rfl⟩
  · cases i with
    | zero => simp at e
    | succ i =>
      cases j with
      | zero => simp at e'
      | succ j => rw [f.sep i j b b' d d' a (by simpa using e) (by simpa using e') (by simpa using h1) (by simpa using h2)]
/-- the frame of the end, cut to the parameters -/
theorem cut_slot {n i : Nat} {t : Slot} (h : (lentBack n q)[i]? = some t) (ht : t ≠ .no) : q[i]? = some t ∧ i < n ∧ t.isBor = true := by
  unfold lentBack at h
  rw [List.getElem?_map] at h
  cases e : (q.take n)[i]? with
  | none => rw [e] at h; cases h
  | some u =>
    rw [e] at h
    have hi : i < n := by
      have := (List.getElem?_eq_some_iff.mp e).1
      rw [List.length_take] at this
      omega
    rw [List.getElem?_take_of_lt hi] at e
    have h : (if u.isBor then u else .no) = t := by simpa using h
    cases hb : u.isBor with
    | true => rw [hb] at h; simp at h; subst h; exact ⟨e, hi, hb⟩
    | false => rw [hb] at h; exact absurd h.symm ht
theorem FR.cut {vs : List V} {q0 : Fm} {k : Nat} (f : FR Z R1 σ q H') (hq : vs.length ≤ q.length) (b : BKs (vs.map some ++ List.replicate k none) q0 σ q) : FR Z R1 (vs.map some) (lentBack vs.length q) H' ∧ (∀ c, Ow (vs.map some) (lentBack vs.length q) c → Ow σ q c) ∧ BK q0 (lentBack vs.length q) := by
  have key : ∀ {i : Nat} {t : Slot}, (lentBack vs.length q)[i]? = some t → t ≠ .no → q[i]? = some t ∧ bor q0 i ∧ (vs.map some)[i]? = σ[i]? := fun {i t} h ht => by
    obtain ⟨h1, h2, h3⟩ := cut_slot h ht
    obtain ⟨b1, b2⟩ := b i ⟨t, h1, h3⟩
    rw [List.getElem?_append_left (by simpa using h2)] at b2
    exact ⟨h1, b1, b2.symm⟩
  have ow : ∀ c, Ow (vs.map some) (lentBack vs.length q) c → Ow σ q c := fun c ⟨i, b', d, h1, h2⟩ => by
    obtain ⟨e1, _, e2⟩ := key h1 (fun z => nomatch z)
    exact ⟨i, b', d, e1, by rw [← e2]; exact h2⟩
  have lt : Lat (Rt R1 σ q) H' (Rt R1 (vs.map some) (lentBack vs.length q)) H' := Lat.sub fun c z => Or.elim z .inl fun z => .inr (ow c z)
  refine ⟨⟨?_, f.tb, f.trk, fun i b d e => ?_, fun i b d e => ?_, fun i j b b' d d' a e e' h1 h2 => ?_⟩, ow, fun i ⟨t, h1, h2⟩ => ?_⟩
  · unfold lentBack
    rw [List.length_map, List.length_map, List.length_take]
    omega
  · obtain ⟨e1, _, e2⟩ := key e (fun z => nomatch z)
    obtain ⟨v, h1, h2⟩ := f.sh i b d e1
    exact ⟨v, by rw [e2]; exact h1, h2.lat lt⟩
  · obtain ⟨e1, _, e2⟩ := key e (fun z => nomatch z)
    obtain ⟨v, h1, h2, h3⟩ := f.ow i b d e1
    exact ⟨v, by rw [e2]; exact h1, h2, h3.lat lt rfl⟩
  · obtain ⟨e1, _, e2⟩ := key e (fun z => nomatch z)
    obtain ⟨e3, _, e4⟩ := key e' (fun z => nomatch z)
    exact f.sep i j b b' d d' a e1 e3 (by rw [← e2]; exact h1) (by rw [← e4]; exact h2)
  · have ht : t ≠ .no := fun z => by subst z; cases h2
    exact (key h1 ht).2.1
end
theorem spF_len {W : Wo} {K' : Calls} {fi : Nat} {d : FDef} (hK : ∀ as, K'.fn fi as = runF W.K d as) {vs : List V} {H : Hp} {Q : VK} {E : XK} (h : spF W.Z K' fi vs H Q E) : vs.length = d.nps := by
  obtain ⟨R0, as, f, h⟩ := h
  have h : An W.Z E R0 (vs.map some) as H (PoV W.Z R0 (vs.map some) H) Q (noSlot (K'.fn fi as)) := h
  rw [hK] at h
  unfold runF at h
  by_cases hl : as.length = d.nps
  · rw [← hl, ← f.len, List.length_map]
  · rw [if_neg hl] at h; exact h.elim
/-- THE RULE for a def -/
theorem fn_ok {W : Wo} {n : Nat} {K' : Calls} {fi : Nat} {d : FDef} {N ps : List Str} {x qual : Str} {st : Stmt} {f : Addr} {fd : FuncData} (hK : ∀ as, K'.fn fi as = runF W.K d as) (Fu : L2.Fun W.Z.K x qual st f fd) (S : FnScope N ps (defScope st)) (hN : N.length = d.nN) (hp : ps.length = d.nps)
    (body : ∀ cdv A outer s H E, Gd W n (cxF W N qual (defScope st) f cdv A outer s H E) E → MSs W (cxF W N qual (defScope st) f cdv A outer s H E) E (defBody st) d.body) : FnA W.P W.w W.Z.K W.mg W.base (L2.CX W.P W.w) (n + 1) f fd ps (spF W.Z K' fi) := by
  have hle : d.nps ≤ d.nN := by
    have := congrArg List.length S.pre
    rw [List.length_take] at this
    omega
  refine fnA_of Fu S (fun vs H Q E h => (spF_len hK h).trans hp.symm) fun cdv A outer s H vs Q E qu hr h => ⟨tSs W.Z W.K E d.body, body cdv A outer s H E (gd_cx S qu hr), ?_⟩
  have hl := spF_len hK h
  obtain ⟨R0, as, f0, h⟩ := h
  have h : An W.Z E R0 (vs.map some) as H (PoV W.Z R0 (vs.map some) H) Q (noSlot (K'.fn fi as)) := h
  rw [hK] at h
  unfold runF at h
  have hal : as.length = d.nps := by rw [← f0.len, List.length_map, hl]
  rw [if_pos hal] at h
  have hk : N.length - vs.length = d.nN - d.nps := by rw [hN, hl]
  refine ⟨R0, as ++ List.replicate (d.nN - d.nps) .no, ?_, ?_⟩
  · unfold L2.start
    rw [hk]
    exact f0.ext _
  · unfold L2.start
    rw [hk]
    have cutL : ∀ {σ' : Sg} {q' : Fm} {H' : Hp} {R1 : Pr}, Lat (Ow (vs.map some ++ List.replicate (d.nN - d.nps) none) (as ++ List.replicate (d.nN - d.nps) .no)) H (Ow σ' q') H' → BKs (vs.map some ++ List.replicate (d.nN - d.nps) none) (as ++ List.replicate (d.nN - d.nps) .no) σ' q' → FR W.Z R1 σ' q' H' → d.nps ≤ q'.length →
        FR W.Z R1 (vs.map some) (lentBack d.nps q') H' ∧ Lat (Ow (vs.map some) as) H (Ow (vs.map some) (lentBack d.nps q')) H' ∧ BK as (lentBack d.nps q') ∧ ∀ b, Rt R1 (vs.map some) (lentBack d.nps q') b → Rt R1 σ' q' b := fun {σ' q' H' R1} l b f len => by
      have hq : vs.length ≤ q'.length := by rw [hl]; exact len
      obtain ⟨f2, ow, bk⟩ := f.cut hq b
      rw [hl] at f2 ow bk
      refine ⟨f2, ⟨fun c o hc n => l.kp c o hc fun z => n (ext_ow.mp z), fun c z => Or.elim (l.nw c (ow c z)) (fun z => .inl (ext_ow.mp z)) .inr, l.tr⟩, fun i hi => ?_, fun b z => Or.elim z .inl fun z => .inr (ow b z)⟩
      obtain ⟨t, h1, h2⟩ := bk i hi
      rcases ext_slot h1 with h1 | h1
      · exact ⟨t, h1, h2⟩
      · subst h1; cases h2
    cases e : evSs W.K d.body (as ++ List.replicate (d.nN - d.nps) .no) with
    | bad => rw [e] at h; exact h
    | brk _ => rw [e] at h; exact h.elim
    | cnt _ => rw [e] at h; exact h.elim
    | nx q' =>
      rw [e] at h
      dsimp only at h
      by_cases len : d.nps ≤ q'.length
      case neg => rw [if_neg len] at h; exact h.elim
      rw [if_pos len] at h
      intro σ' H' l b f
      obtain ⟨f2, l2, b2, up⟩ := cutL l b f len
      exact h .non H' l2 b2 ⟨f2, .non⟩
    | ret r q' =>
      rw [e] at h
      dsimp only at h
      by_cases len : d.nps ≤ q'.length
      case neg => rw [if_neg len] at h; exact h.elim
      rw [if_pos len] at h
      intro w σ' H' l b p
      cases r with
      | slot i =>
        have h : An W.Z E R0 (vs.map some) as H (PoV W.Z R0 (vs.map some) H) Q (noSlot (match q'[i]? with
          | some (.ow false d2) => if noOwA as then .ok (.new d2) (lentBack d.nps (q'.set i .no)) else .bad
          | _ => .bad)) := h
        obtain ⟨f, hw, bb, dd, hs⟩ := p
        rw [hs] at h
        cases bb with
        | true => exact h.elim
        | false =>
          cases hn : noOwA as with
          | false => rw [hn] at h; exact h.elim
          | true =>
            rw [hn] at h
            obtain ⟨a, ew, oa, f1, o1, l1, b1⟩ := f.give hw hs
            have h0 : H a = none := Or.elim (l.nw a oa) (fun z => absurd (ext_ow.mp z) (no_ow hn)) fun z => z
            obtain ⟨f2, l2, b2, up⟩ := cutL (l.trans l1) (b.trans b1) f1 (by rw [List.length_set]; exact len)
            exact h w H' l2 b2 ⟨a, ew, h0, f2, o1.lat (Lat.sub up) rfl⟩
      | val dd =>
        obtain ⟨f, rp⟩ := p
        obtain ⟨f2, l2, b2, up⟩ := cutL l b f len
        exact h w H' l2 b2 ⟨f2, rp.lat (Lat.sub up)⟩
      | new dd =>
        obtain ⟨a, ew, hn, f, o⟩ := p
        obtain ⟨f2, l2, b2, up⟩ := cutL l b f len
        exact h w H' l2 b2 ⟨a, ew, hn, f2, o.lat (Lat.sub up) rfl⟩
    | exc c ds q' =>
      rw [e] at h
      dsimp only at h
      intro d' σ' H' l b f x
      have lx : Lat (Ow σ' q') H' (Ow (σ' ++ List.replicate d.nps none) (q' ++ List.replicate d.nps .no)) H' := Lat.sub fun b z => ext_ow.mp z
      have bx : BKs σ' q' (σ' ++ List.replicate d.nps none) (q' ++ List.replicate d.nps .no) := fun i ⟨t, h1, h2⟩ => by
        rcases ext_slot h1 with h1 | h1
        · refine ⟨⟨t, h1, h2⟩, ?_⟩
          rw [List.getElem?_append_left (by rw [f.len]; exact (List.getElem?_eq_some_iff.mp h1).1)]
        · subst h1; cases h2
      obtain ⟨f2, l2, b2, up⟩ := cutL (l.trans lx) (b.trans bx) (f.ext d.nps) (by rw [List.length_append, List.length_replicate]; omega)
      exact h d' H' l2 b2 f2 (x.lat (Lat.sub fun b z => by
        rcases up b z with z | z
        · exact .inl z
        · exact .inr (ext_ow.mp z)))
/-! ### constructors -/
structure KP (σ : Sg) (q : Fm) (H H' : Hp) (x dx : Addr) : Prop where
  kp : ∀ b o, H b = some o → ¬ Ow σ q b → b ≠ x → b ≠ dx → NT o → H' b = some o
  tr : ∀ b, H b ≠ none → H' b ≠ none
def AnM (Z : Zc) (E : XK) (C : Addr) (R0 : Pr) (σ : Sg) (q : Fm) (H : Hp) (x dx : Addr) (D : Ends) : Res (List M.D) → Prop
  | .ok ds _ => ∀ w σ' H', KP σ q H H' x dx → Grd Z H' → H' x = some (SlO x C dx [some w]) → H' dx = some (.xd []) → RepL Z H' R0 [w] ds → D.nx σ' H'
  | .exc c ds _ => ∀ d H', KP σ q H H' x dx → Grd Z H' → XRep Z H' R0 c ds d → E (.ref (Z.C c)) d H'
  | .bad => False
/-- self stands at x, nothing stored as yet -/
structure Raw (C : Addr) (R0 : Pr) (σ : Sg) (H : Hp) (x dx : Addr) : Prop where
  s0 : σ[0]? = some (some (.ref x))
  hx : H x = some (.ins C dx [])
  hd : H dx = some (.own x)
  ne : dx ≠ x
  nx : R0 x
  nd : R0 dx
section
variable {Z : Zc} {K : Calls} {ex : XK} {R0 : Pr} {σ : Sg} {q : Fm} {H : Hp} {D : Ends} {C : Addr} {x dx : Addr} {e : M.E}
theorem Raw.not (r : Raw C R0 σ H x dx) (f : FR Z R0 σ q H) : ¬ Ow σ q x ∧ ¬ Ow σ q dx := by
  constructor <;> intro z
  · obtain ⟨xs, h⟩ := f.owT z
    rw [r.hx] at h; cases h
  · obtain ⟨xs, h⟩ := f.owT z
    rw [r.hd] at h; cases h
theorem KP.late {σ' : Sg} {q' : Fm} {H1 H' : Hp} (l : Lat (Ow σ q) H (Ow σ' q') H1) (k : KP σ' q' H1 H' x dx) : KP σ q H H' x dx := ⟨fun b o h n h1 h2 nt => k.kp b o (l.kp b o h n nt) (fun z => by
  rcases l.nw b z with z | z
  · exact n z
  · rw [h] at z; cases z) h1 h2 nt, fun b h => k.tr b (l.tr b h)⟩
theorem AnM.late {σ' : Sg} {q' : Fm} {H1 : Hp} (l : Lat (Ow σ q) H (Ow σ' q') H1) : ∀ {r : Res (List M.D)}, AnM Z ex C R0 σ q H x dx D r → AnM Z ex C R0 σ' q' H1 x dx D r
  | .ok _ _, h => fun w s2 H' k => h w s2 H' (KP.late l k)
  | .exc _ _ _, h => fun d H' k => h d H' (KP.late l k)
  | .bad, h => h
end
end M

set_option Elab.async false
set_option linter.all false
set_option maxRecDepth 100000
set_option maxHeartbeats 4000000
/-! B1: list(zip(*rows)), rows of one length. -/
namespace M
open PySem L2 PyProof.Rows

structure Src where
  b : Bool
  a : Addr
  items : Array Value
def TupAt (h : Heap) (T : Addr) (vs : Array Value) : Prop := h.get? T = some { cls := .type "tuple", data := .seq vs }
def itsL (N n : Nat) : List Value := (List.range n).map fun k => .ref (N + k)
def Lo (N : Nat) (rows : List Src) : Prop := ∀ (k : Nat) (r : Src), rows[k]? = some r → r.a < N
def Rs (h : Heap) (N : Nat) (rows : List Src) (pos : Nat → Nat) : Prop := ∀ (k : Nat) (r : Src), rows[k]? = some r → IterX r.b h (N + k) r.a (pos k) ∧ SeqX r.b h r.a r.items
theorem SeqX.at_ {b : Bool} {h h' : Heap} {a : Addr} {items : Array Value} (x : SeqX b h a items) (k : ∀ o, h.get? a = some o → h'.get? a = some o) : SeqX b h' a items := by
  cases b with
  | true => exact Heap.IsTuple.at x k
  | false => exact Heap.IsList.at x k
section
variable {prog : Program} {w : World} {A : Around} {E : Value → Shared → Prop} {s : Shared} {N n i : Nat} {rows : List Src}
/-- the zip over n rows: its iterators at N .., then TI, TO, the zip -/
structure ZS (h : Heap) (N : Nat) (rows : List Src) (pos : Nat → Nat) : Prop where
  ti : TupAt h (N + rows.length) (itsL N rows.length).toArray
  rs : Rs h N rows pos
  lo : Lo N rows
abbrev ZAt (h : Heap) (N n : Nat) (f0 : Value) : Prop := IsZip h (N + n + 2) (N + n) (N + n + 1) f0
/-- one iterator goes on -/
theorem Rs.step {h h' : Heap} {k : Nat} {r : Src} {pos : Nat → Nat} (z : Rs h N rows pos) (lo : Lo N rows) (e : rows[k]? = some r) (st : IterX r.b h' (N + k) r.a (pos k + 1)) (sb : Heap.SameBut (N + k) h h') :
    Rs h' N rows (fun j => if j = k then pos k + 1 else pos j) := fun j r2 e2 => by
  obtain ⟨h1, h2⟩ := z j r2 e2
  have hk : r2.a ≠ N + k := Nat.ne_of_lt (Nat.lt_of_lt_of_le (lo j r2 e2) (Nat.le_add_right _ _))
  refine ⟨?_, h2.at_ fun o q => sb.extBut _ _ hk q⟩
  by_cases hj : j = k
  · subst hj
    rw [e] at e2; cases e2
    show IterX r.b h' (N + j) r.a (if j = j then pos j + 1 else pos j)
    rw [if_pos rfl]; exact st
  · show IterX r2.b h' (N + j) r2.a (if j = k then pos k + 1 else pos j)
    rw [if_neg hj]
    have hj2 : N + j ≠ N + k := fun z => hj (Nat.add_left_cancel z)
    exact h1.at_ fun o q => sb.extBut _ _ hj2 q
theorem Rs.over {h h' : Heap} {pos : Nat → Nat} {x : Addr} (z : Rs h N rows pos) (lo : Lo N rows) (sb : ∀ b o, b ≠ x → h.get? b = some o → h'.get? b = some o) (hx : N + rows.length ≤ x) : Rs h' N rows pos := fun j r e => by
  obtain ⟨h1, h2⟩ := z j r e
  have hj : j < rows.length := (List.getElem?_eq_some_iff.mp e).1
  have h3 : (r.a : Nat) < N := lo j r e
  have e1 : (N + j : Nat) ≠ x := fun z => by rw [← z] at hx; exact absurd hx (by omega)
  have e2 : r.a ≠ x := Nat.ne_of_lt (Nat.lt_of_lt_of_le h3 (Nat.le_trans (Nat.le_add_right _ _) hx))
  exact ⟨h1.at_ fun o q => sb _ _ e1 q, h2.at_ fun o q => sb _ _ e2 q⟩
end
/-! ### pyNext -/
section
variable {prog : Program} {w : World} {A : Around} {E : Value → Shared → Prop} {s : Shared} {N n i : Nat} {rows : List Src}
end
end M

set_option Elab.async false
set_option linter.all false
set_option maxRecDepth 100000
set_option maxHeartbeats 4000000
/-! B2: the zip begins; the list that takes it. -/
namespace M
open PySem L2 PyProof.Rows
section
variable {prog : Program} {w : World} {A : Around} {E : Value → Shared → Prop} {s : Shared} {N n i : Nat} {rows : List Src}
end
end M

set_option Elab.async false
set_option linter.all false
set_option maxRecDepth 100000
set_option maxHeartbeats 4000000
/-! B3: list(zip). -/
namespace M
open PySem L2 PyProof.Rows
section
variable {prog : Program} {w : World} {A : Around} {E : Value → Shared → Prop} {s : Shared} {N n i : Nat} {rows : List Src} {R : Result → Shared → Prop} {S m : Nat}
def LstAt (h : Heap) (S : Addr) (acc : Array Value) : Prop := ∃ c, h.get? S = some { cls := .type "list", dict := none, data := .seq acc c, slots := #[] }
structure XL (hp h : Heap) (N S : Nat) (rows : List Src) (j : Nat) (acc : Array Value) : Prop where
  zs : ZS h N rows (fun _ => j)
  fl : (j = 0 ∧ ZAt h N rows.length .none ∧ ∃ vs, TupAt h (N + rows.length + 1) vs ∧ vs.size = rows.length) ∨ ∃ T oT f, IsZipHeld h (N + rows.length + 2) (N + rows.length) (N + rows.length + 1) T f ∧ h.get? T = some oT ∧ N + rows.length + 2 < T ∧ T ≠ S
  ls : LstAt h S acc
  sz : acc.size = j
  it : ∀ j', j' < j → ∃ (T : Nat) (xs : Array Value), acc[j']? = some (.ref T) ∧ N + rows.length + 2 < T ∧ T ≠ S ∧ TupAt h T xs ∧ xs.size = rows.length ∧ ∀ (k : Nat) (r : Src), rows[k]? = some r → xs[k]? = r.items[j']?
  kp : ∀ (c : Nat) o, c < N → hp.get? c = some o → h.get? c = some o
  hi : N + rows.length + 2 < S
  lt : S < h.objs.size
/-- at the end -/
structure XE (hp h : Heap) (N S : Nat) (rows : List Src) (m : Nat) (acc : Array Value) : Prop where
  ls : LstAt h S acc
  sz : acc.size = m
  it : ∀ j', j' < m → ∃ (T : Nat) (xs : Array Value), acc[j']? = some (.ref T) ∧ N + rows.length + 2 < T ∧ T ≠ S ∧ TupAt h T xs ∧ xs.size = rows.length ∧ ∀ (k : Nat) (r : Src), rows[k]? = some r → xs[k]? = r.items[j']?
  kp : ∀ (c : Nat) o, c < N → hp.get? c = some o → h.get? c = some o
theorem XL.fin {hp h h' : Heap} {j : Nat} {acc : Array Value} (x : XL hp h N S rows j acc) (k : ∀ (c : Nat) o, c < N ∨ N + rows.length + 2 < c → h.get? c = some o → h'.get? c = some o) : XE hp h' N S rows j acc := by
  obtain ⟨c, e⟩ := x.ls
  refine ⟨⟨c, k S _ (.inr x.hi) e⟩, x.sz, fun j' hj => ?_, fun c o hc e => k c o (.inl hc) (x.kp c o hc e)⟩
  obtain ⟨T, xs, y1, y2, y3, y4, y5, y6⟩ := x.it j' hj
  exact ⟨T, xs, y1, y2, y3, k T _ (.inr y2) y4, y5, y6⟩
theorem XL.next {hp h h' h2 : Heap} {j T : Nat} {acc xs : Array Value} (x : XL hp h N S rows j acc) (z : ZS h' N rows (fun _ => j + 1)) (f : ∃ T' oT f, IsZipHeld h' (N + rows.length + 2) (N + rows.length) (N + rows.length + 1) T' f ∧ h'.get? T' = some oT ∧ N + rows.length + 2 < T' ∧ T' ≠ S)
    (hT : TupAt h' T xs) (eT : T = h.objs.size) (hx : xs.size = rows.length) (hxi : ∀ (k : Nat) (r : Src), rows[k]? = some r → xs[k]? = r.items[j]?) (sz : h'.objs.size = h.objs.size + 1) (k : ∀ (c : Nat) o, c < N ∨ N + rows.length + 2 < c → h.get? c = some o → h'.get? c = some o)
    (sb : ∀ b o, b ≠ S → h'.get? b = some o → h2.get? b = some o) (l2 : LstAt h2 S (acc.push (.ref T))) (s2 : h2.objs.size = h'.objs.size) : XL hp h2 N S rows (j + 1) (acc.push (.ref T)) := by
  have hS := x.hi
  have hTS : T ≠ S := by have := x.lt; omega
  have hTN : N + rows.length + 2 < T := by have := x.lt; omega
  refine ⟨⟨sb _ _ (show (N + rows.length : Nat) ≠ S by omega) z.ti, z.rs.over z.lo (fun b o hb e => sb b o hb e) (by omega), z.lo⟩, .inr ?_, l2, by rw [Array.size_push, x.sz], fun j' hj => ?_, fun c o hc e => sb c o (show (c : Nat) ≠ S by omega) (k c o (.inl hc) (x.kp c o hc e)), hS, ?_⟩
  · obtain ⟨T', oT, f, f1, f2, f3, f4⟩ := f
    exact ⟨T', oT, f, sb _ _ (show (N + rows.length + 2 : Nat) ≠ S by omega) f1, sb _ _ f4 f2, f3, f4⟩
  · by_cases e : j' = j
    · subst e
      refine ⟨T, xs, ?_, hTN, hTS, sb _ _ hTS hT, hx, hxi⟩
      rw [← x.sz]
      exact Array.getElem?_push_size
    · obtain ⟨T1, ys, y1, y2, y3, y4, y5, y6⟩ := x.it j' (by omega)
      refine ⟨T1, ys, ?_, y2, y3, sb _ _ y3 (k T1 _ (.inr y2) y4), y5, y6⟩
      have hlt : j' < acc.size := by rw [x.sz]; omega
      rw [Array.getElem?_push_lt hlt, ← y1]
      exact (Array.getElem?_eq_getElem hlt).symm
  · rw [s2, sz]; have := x.lt; omega
end
end M

set_option Elab.async false
set_option linter.all false
set_option maxRecDepth 100000
set_option maxHeartbeats 4000000
/-! B4: list(zip(*e)) as an expression. -/
namespace M
open PySem L2 PyProof.Rows
section
variable {Mo : Model} {A : Around} {E : Value → Shared → Prop} {s : Shared} {env : Env} {pos p : Pos} {Q : Value → Shared → Prop}
end
section
variable {X : Cx} {pins : List (Addr × Obj)} {σ : Sg} {H H' : Hp} {s : Shared}
end
/-! ### the reading -/
section
variable {Z : Zc} {H : Hp} {R : Pr}
end
end M

set_option Elab.async false
set_option linter.all false
set_option maxRecDepth 100000
set_option maxHeartbeats 4000000
/-! B5: from level to level; the law's own promise. -/
namespace M
open PySem L2 PyProof.Rows SlX

/-- a def of the text at a -/
structure Df (K : PySem.W.Frag) (x qual : Str) (st : Stmt) (ps : List Str) (a : Addr) : Prop where
  ex : ∃ fd, L2.Fun K x qual st a fd ∧ Binds K fd ps []
/-- .. called with names -/
structure Dk (K : PySem.W.Frag) (x qual : Str) (st : Stmt) (ps : List Str) (a : Addr) (m : Nat) (ks : List Str) (pm : List Nat) : Prop where
  ex : ∃ fd, L2.Fun K x qual st a fd ∧ KB K fd ps m ks pm
abbrev Wo.up (W : Wo) (K : Calls) : Wo := { W with K := K }
theorem spF_zero {Z : Zc} {t : Tab} {f : Nat} {vs : List V} {H : Hp} {Q : VK} {E : XK} (h : spF Z (calls t 0) f vs H Q E) : False := by
  obtain ⟨R0, q, f0, h⟩ := h
  exact h
section
variable {W : Wo} {t : Tab} {j n f c : Nat} {d : FDef} {cd : CDef} {N ps : List Str} {x qual : Str} {st : Stmt} {a : Addr}
theorem fnr_zero : FnG W.P W.w W.Z.K W.mg W.base (L2.CX W.P W.w) n a (spF W.Z (calls t 0) f) := fun _ _ _ _ _ _ _ _ _ _ _ _ h => (spF_zero h).elim
theorem fnr_next (hW : W.K = calls t j) (ht : t.fn.lookup f = some d) (D : Df W.Z.K x qual st ps a) (S : FnScope N ps (defScope st)) (hN : N.length = d.nN) (hp : ps.length = d.nps)
    (body : ∀ cdv A outer s H E, Gd W n (cxF W N qual (defScope st) a cdv A outer s H E) E → MSs W (cxF W N qual (defScope st) a cdv A outer s H E) E (defBody st) d.body) : FnG W.P W.w W.Z.K W.mg W.base (L2.CX W.P W.w) (n + 1) a (spF W.Z (calls t (j + 1)) f) := by
  obtain ⟨fd, F, hb⟩ := D.ex
  refine FnA.pos (fn_ok (W := W) (K' := calls t (j + 1)) (fi := f) (d := d) (fun as => ?_) F S hN hp body) hb
  show (match t.fn.lookup f with | some d => runF (calls t j) d as | none => .bad) = _
  rw [ht, hW]
theorem fno_next (hW : W.K = calls t j) (ht : t.fn.lookup f = some d) {fd : FuncData} (F : L2.Fun W.Z.K x qual st a fd) (S : FnScope N ps (defScope st)) (hN : N.length = d.nN) (hp : ps.length = d.nps)
    (body : ∀ cdv A outer s H E, Gd W n (cxF W N qual (defScope st) a cdv A outer s H E) E → MSs W (cxF W N qual (defScope st) a cdv A outer s H E) E (defBody st) d.body) : FnA W.P W.w W.Z.K W.mg W.base (L2.CX W.P W.w) (n + 1) a fd ps (spF W.Z (calls t (j + 1)) f) := by
  refine fn_ok (W := W) (K' := calls t (j + 1)) (fi := f) (d := d) (fun as => ?_) F S hN hp body
  show (match t.fn.lookup f with | some d => runF (calls t j) d as | none => .bad) = _
  rw [ht, hW]
end
/-- the law's promise: a list of at most 63 ints, True comes out -/
def spLaw (K : PySem.W.Frag) (T : List (Addr × Str)) : Sp := fun vs H Q _ => ∃ (a : Addr) (ns : List Int), vs = [.ref a] ∧ SqL K H a (ns.map V.int) ∧ ns.length ≤ 63 ∧ (∀ z ∈ ns, Builtin.Int.intBits z ≤ 1048576) ∧ (LamX.Tabs T H ∧ (∃ o, H sysModules = some (.frz o (.own 0))) ∧ K.lookup sysModules = none) ∧ ∀ H', Q (.bl true) H'
def scr (ns : List Int) : D := .lst (ns.map D.int)
theorem rep_scr {Z : Zc} {H : Hp} {R : Pr} : ∀ ns : List Int, RepL Z H R (ns.map V.int) (ns.map D.int)
  | [] => .nil
  | n :: ns => .cons (.int n) (rep_scr ns)
theorem law_of {Z : Zc} {t : Tab} {J f : Nat} (plain : ∀ ns : List Int, ns.length ≤ 63 → (∀ z ∈ ns, Builtin.Int.intBits z ≤ 1048576) → ∃ q, (calls t J).fn f [.sh false (scr ns)] = .ok (.val (.bl true)) q)
    {vs : List V} {H : Hp} {Q : VK} {E : XK} (h : spLaw Z.K Z.T vs H Q E) : spF Z (calls t J) f vs H Q E := by
  obtain ⟨a, ns, rfl, hS, hl, hb, gr, k⟩ := h
  obtain ⟨q', e⟩ := plain ns hl hb
  have nOw : ∀ {b : Addr}, ¬ Ow [some (V.ref a)] [Slot.sh false (scr ns)] b := fun {b} ⟨i, b', d, h1, h2⟩ => by
    cases i with
    | zero => simp at h1
    | succ i => simp at h1
  refine ⟨fun _ => False, [.sh false (scr ns)], ⟨rfl, ⟨gr.1, gr.2.1, gr.2.2⟩, fun b h => h.elim, fun i b d h1 => ?_, fun i b d h1 => ?_, fun i j b b' d d' c h1 => ?_⟩, ?_⟩
  · cases i with
    | zero =>
      have : Slot.sh false (scr ns) = .sh b d := by simpa using h1
      injection this with e1 e2
      subst e1 e2
      refine ⟨.ref a, rfl, .lst ?_ (rep_scr ns)⟩
      rcases hS with hS | hS
      · exact .inl ⟨hS, fun z => Or.elim z (fun z => z) nOw⟩
      · exact .inr hS
    | succ i => simp at h1
  · cases i with
    | zero => simp at h1
    | succ i => simp at h1
  · cases i with
    | zero => simp at h1
    | succ i => simp at h1
  · show An Z E _ _ _ H _ Q (noSlot ((calls t J).fn f [.sh false (scr ns)]))
    rw [e]
    intro w H' l b p
    obtain ⟨_, r⟩ := p
    cases r
    exact k H'
end M

set_option Elab.async false
set_option linter.all false
set_option maxRecDepth 100000
set_option maxHeartbeats 4000000
/-! W1: the law's own call, where nothing is being shown. -/
namespace M
open PySem L2 PyProof.Rows SlX PySem.Spec
section
variable {P : Program} {w : World} {K : PySem.W.Frag} {mg mb : Str → Option Value} {CX : CXT} {k : Nat} {fa a : Addr} {fd : FuncData} {x : Str} {sp : Sp} {s1 : Shared} {vs : List Value} {ns : List Int}
/-- the end of the law's call -/
def LEnd (s1 : Shared) (r : Result) (s2 : Shared) : Prop := r = .ok (.ret (.bool true)) ∧ OldK s1.heap s2.heap ∧ s2.os = s1.os ∧ AllBare s2.gens
theorem lend_of {H : Hp} {r : Result} {s2 : Shared} {ts : List Addr} (only : ∀ b, H b = none ∨ (b ∈ ts ∧ H b = some (.tbl #[])) ∨ ∃ o u, H b = some (.frz o u)) (hC : ∀ b ∈ ts, PySem.isCodeTable s1.heap b) (ok1 : HOk P w H s1.heap)
    (no : ∀ e, CX [] H s1 (fun _ _ _ => False) e s2 → False) (h : CR CX [] P w H s1 (fun v _ => v = .bl true) (fun _ _ _ => False) r s2) : LEnd s1 r s2 := by
  cases r with
  | error e => exact (no e h).elim
  | ok fl =>
    cases fl with
    | ret u =>
      obtain ⟨v, H2, os, bare, un, ok2, rv, ev⟩ := h
      have ev : v = .bl true := ev
      subst ev
      obtain rfl : u = Value.bool true := rv
      have key : ∀ b o, s1.heap.get? b = some o → (b ∈ ts ∧ H b = some (.tbl #[])) ∨ s2.heap.get? b = some o := fun b o e => by
        rcases only b with z | z | ⟨ob, u, z⟩
        · exact .inr (un.keep b o e z (by intro z; exact absurd (show b ∈ ([] : List Addr) from z) (by simp)) (by simp))
        · exact .inl z
        · obtain ⟨e1, _⟩ := ok1 b _ z
          obtain ⟨e2, _⟩ := ok2 b _ (un.frzs b ob _ z)
          rw [e] at e1; cases e1
          exact .inr e2
      refine ⟨rfl, ⟨fun b o e => ?_, fun b o e => ?_⟩, os, bare⟩
      · rcases key b o e with ⟨hb, z⟩ | z
        · obtain ⟨more, z2⟩ := un.tbls b #[] z
          have e1 : s1.heap.get? b = some { cls := .none, data := .fields #[] } := ok1 b _ z
          have e2 := ok2 b _ z2
          rw [e] at e1; cases e1
          exact .inr (.inl ⟨hC b hb, rfl, #[], more, rfl, e2⟩)
        · exact .inl z
      · rcases key b o e with ⟨hb, z⟩ | z
        · obtain ⟨more, z2⟩ := un.tbls b #[] z
          exact ⟨_, ok2 b _ z2⟩
        · exact ⟨o, z⟩
    | next => exact h.elim
    | brk => exact h.elim
    | cont => exact h.elim
/-- what is said of the code objects that make lambdas, and of their tables -/
structure CsOk (K : PySem.W.Frag) (h : Heap) (cs : List (Addr × Addr)) : Prop where
  e : ∀ p ∈ cs, h.get? p.2 = some { cls := .none, data := .fields #[] }
  n : ∀ p ∈ cs, K.lookup p.2 = none
  c : ∀ p ∈ cs, PySem.W.CodeHd h p.1 p.2
theorem law_callA {cs : List (Addr × Addr)} (KX : K.In s1.heap) (hns : s1.heap.Ns mainGlobals mg) (hb : s1.heap.Ns builtinsNs mb) (hbb : ∀ x : Str, x ≠ "__name__" → mb x = bootBuiltins x) (hlim : s1.heap.NoLimit) (hg : s1.gens = #[])
    (hbm : ∃ (bm : Addr) (ob : Obj), mg "__builtins__" = some (.ref bm) ∧ bm ≠ builtinsNs ∧ s1.heap.get? bm = some ob ∧ ob.cls = .type "module" ∧ ob.dict = some builtinsNs ∧ ob.data = .plain)
    (hcs : CsOk K s1.heap cs) (ks : K.lookup sysModules = none) (hsys : ∃ mm, s1.heap.Ns sysModules mm ∧ mm "_pylong" = none)
    (ha : s1.heap.get? a = some { cls := .type "list", data := .seq vs.toArray }) (hi : IntsAre vs ns) (hl : ns.length ≤ sizeLine) (hr : Room k callerA) (F : ∀ base : Heap, K.In base → base.Ns mainGlobals mg → (∀ p ∈ cs, LamX.TabB base mg p.1 p.2) → FnA P w K mg base CX k fa fd [x] sp)
    (bind : ∀ (s : Shared) (u : Value), BindsTo s fd ⟨[u], []⟩ [(x, u)])
    (hsp : ∀ H : Hp, (∀ p ∈ cs, H p.2 = some (.tbl #[])) → (∃ o, H sysModules = some (.frz o (.own 0))) → SqL K H a (ns.map V.int) → sp [.ref a] H (fun v _ => v = .bl true) fun _ _ _ => False)
    (no : ∀ H e s2, CX [] H s1 (fun _ _ _ => False) e s2 → False) : codeAny (model P w) callerA (.call (.ref fa) ⟨[.ref a], []⟩) (LEnd s1) s1 := by
  obtain ⟨_, ⟨o1, es1, ep1, ho1, hd1, _⟩, _⟩ := hsys
  have hsa : a ≠ sysModules := fun z => by
    rw [z, ho1] at ha
    cases ha
    cases hd1
  have memT : ∀ p ∈ cs, p.2 ∈ cs.map (·.2) := fun p hp => List.mem_map.mpr ⟨p, hp, rfl⟩
  have isT : ∀ b : Addr, b ∈ cs.map (·.2) → s1.heap.get? b = some { cls := .none, data := .fields #[] } ∧ K.lookup b = none ∧ b ≠ sysModules := fun b hb => by
    obtain ⟨p, hp, e⟩ := List.mem_map.mp hb
    rw [← e]
    exact ⟨hcs.e p hp, hcs.n p hp, fun z => by
      have q := hcs.e p hp
      rw [z, ho1] at q
      cases q
      cases hd1⟩
  have aT : a ∉ cs.map (·.2) := fun z => by
    have q := (isT a z).1
    rw [ha] at q
    have z' : Data.seq vs.toArray _ = Data.fields #[] := congrArg Obj.data (Option.some.inj q)
    cases z'
  -- from an abstract heap
  have core : ∀ H : Hp, (∀ b u, H b = some u → (b = sysModules ∧ u = .frz o1 (.own 0)) ∨ (b ∈ cs.map (·.2) ∧ u = .tbl #[]) ∨ (b = a ∧ K.lookup a = none ∧ u = .frz { cls := .type "list", data := .seq vs.toArray } (.lst (ns.map V.int)))) →
      H sysModules = some (.frz o1 (.own 0)) → (∀ p ∈ cs, H p.2 = some (.tbl #[])) → SqL K H a (ns.map V.int) → codeAny (model P w) callerA (.call (.ref fa) ⟨[.ref a], []⟩) (LEnd s1) s1 := by
    intro H hH hs hT hS
    have hok : HOk P w H s1.heap := fun b u z => by
      rcases hH b u z with ⟨rfl, rfl⟩ | ⟨hb, rfl⟩ | ⟨rfl, _, rfl⟩
      · exact ⟨ho1, o1, ho1⟩
      · exact (isT b hb).1
      · exact ⟨ha, by rw [List.length_map]; exact hl, vs, _, vals_ints hi, ha⟩
    have free : ∀ {b : Addr} {o : Obj}, s1.heap.get? b = some o → b ≠ sysModules → (∀ vs n, o.data ≠ .seq vs n) → o.data ≠ .fields #[] → H b = none := fun {b o} e n1 n2 n3 => by
      cases q : H b with
      | none => rfl
      | some u =>
        rcases hH b u q with ⟨rfl, _⟩ | ⟨hb, _⟩ | ⟨rfl, _, _⟩
        · exact absurd rfl n1
        · rw [(isT b hb).1] at e; cases e; exact absurd rfl n3
        · rw [ha] at e; cases e; exact absurd rfl (n2 _ _)
    have nsB : ∀ {b : Addr} {m : Str → Option Value}, s1.heap.Ns b m → b ≠ sysModules → (hidT s1.heap H).Ns b m := fun {b m} ⟨o, es, ep, e, d, r⟩ hb => ⟨o, es, ep, hidT_get e (free e hb (fun vs n z => by rw [d] at z; cases z) fun z => by rw [d] at z; cases z), d, r⟩
    have kB : K.In (hidT s1.heap H) := fun b o e => hidT_get (KX b o e) (by
      cases q : H b with
      | none => rfl
      | some u =>
        rcases hH b u q with ⟨rfl, _⟩ | ⟨hb, _⟩ | ⟨rfl, hk, _⟩
        · rw [ks] at e; cases e
        · rw [(isT b hb).2.1] at e; cases e
        · rw [hk] at e; cases e)
    have e0 : Env0 P w K mg (hidT s1.heap H) callerA [] s1 H := by
      refine ⟨rfl, ⟨kB, nsB hns (by decide), ⟨mb, nsB hb (by decide), hbb⟩, ?_⟩, fun b o e => of_hidT e, Nat.le_of_eq (hidT_size _ _), trivial, fun b hb => ?_, hok, .of_eq hg⟩
      · obtain ⟨mc, h1, h2⟩ := hlim
        exact ⟨mc, nsB h1 (by decide), h2⟩
      · exact absurd (show b ∈ ([] : List Addr) from hb) (by simp)
    have TB : ∀ p ∈ cs, LamX.TabB (hidT s1.heap H) mg p.1 p.2 := fun p hp => by
      have hTp := hcs.e p hp
      refine ⟨?_, ?_, fun z => ?_⟩
      · obtain ⟨o, us, file, tf, flags, tg, inF, text, tt, e1, r1, r2, r3, r4, r5, r6, r7, r8, hne⟩ := hcs.c p hp
        refine ⟨o, us, file, tf, flags, tg, inF, text, tt, hidT_get e1 (free e1 (fun z => by rw [z, ho1] at e1; cases e1; rw [hd1] at r2; cases r2) (fun vs n z => ?_) fun z => ?_), r1, r2, r3, r4, r5, r6, r7, r8, hne⟩
        · rw [r2] at z; cases z
        · rw [r2] at z
          cases z
          simp at r3
      · obtain ⟨bm, ob, b1, b2, b3, b4, b5, b6⟩ := hbm
        have c2 : bm ≠ sysModules := fun z => by rw [z, ho1] at b3; cases b3; rw [hd1] at b6; cases b6
        have nG : bm ≠ mainGlobals := fun q => by
          obtain ⟨o, es, ep, e, hd, _⟩ := hns
          rw [q, e] at b3
          cases b3
          rw [hd] at b6
          cases b6
        have nP : bm ≠ p.2 := fun q => by
          rw [q, hTp] at b3
          cases b3
          cases b6
        refine ⟨bm, ob, b1, b2, nG, nP, hidT_get b3 (free b3 c2 (fun vs n z => ?_) fun z => ?_), b4, b5, b6⟩
        · rw [b6] at z; cases z
        · rw [b6] at z; cases z
      · obtain ⟨o, es, ep, e, hd, _⟩ := hns
        rw [z, hTp] at e
        cases e
        cases hd
    refine codeAny_mono ((F _ kB (nsB hns (by decide)) TB).run callerA [] s1 H ⟨[.ref a], []⟩ [.ref a] [.ref a] _ _ rfl hr e0 (bind s1 (.ref a)) (.cons rfl .nil) (hsp H hT ⟨o1, hs⟩ hS)) fun r s2 z => lend_of (ts := cs.map (·.2)) (fun b => ?_) (fun b hb => ?_) hok (fun e => no H e s2) z
    · cases q : H b with
      | none => exact .inl rfl
      | some u =>
        rcases hH b u q with ⟨_, rfl⟩ | ⟨hb, rfl⟩ | ⟨_, _, rfl⟩
        · exact .inr (.inr ⟨_, _, rfl⟩)
        · exact .inr (.inl ⟨hb, rfl⟩)
        · exact .inr (.inr ⟨_, _, rfl⟩)
    · obtain ⟨p, hp, e⟩ := List.mem_map.mp hb
      rw [← e]
      exact ((hcs.c p hp).tab (hcs.e p hp)).isCodeTable
  cases hk : K.lookup a with
  | some o =>
    have e := (KX a o hk).symm.trans ha
    cases e
    refine core (fun b => if b = sysModules then some (.frz o1 (.own 0)) else if b ∈ cs.map (·.2) then some (.tbl #[]) else none) (fun b u z => ?_) (if_pos rfl) (fun p hp => (if_neg (isT _ (memT p hp)).2.2).trans (if_pos (memT p hp))) (.inr ⟨_, vs.toArray, _, hk, rfl, rfl, rfl, ?_, ?_⟩)
    · by_cases h1 : b = sysModules
      · rw [if_pos h1] at z; cases z; exact .inl ⟨h1, rfl⟩
      · rw [if_neg h1] at z
        by_cases h2 : b ∈ cs.map (·.2)
        · rw [if_pos h2] at z; cases z; exact .inr (.inl ⟨h2, rfl⟩)
        · rw [if_neg h2] at z; cases z
    · rw [List.size_toArray, hi.length]; exact hl
    · simpa using vals_ints hi
  | none =>
    refine core (fun b => if b = sysModules then some (.frz o1 (.own 0)) else if b ∈ cs.map (·.2) then some (.tbl #[]) else if b = a then some (.frz { cls := .type "list", data := .seq vs.toArray } (.lst (ns.map V.int))) else none) (fun b u z => ?_) (if_pos rfl)
      (fun p hp => (if_neg (isT _ (memT p hp)).2.2).trans (if_pos (memT p hp))) (.inl (.inr ⟨_, (if_neg hsa).trans ((if_neg aT).trans (if_pos rfl))⟩))
    by_cases h1 : b = sysModules
    · rw [if_pos h1] at z; cases z; exact .inl ⟨h1, rfl⟩
    · rw [if_neg h1] at z
      by_cases h2 : b ∈ cs.map (·.2)
      · rw [if_pos h2] at z; cases z; exact .inr (.inl ⟨h2, rfl⟩)
      · rw [if_neg h2] at z
        by_cases h3 : b = a
        · rw [if_pos h3] at z; cases z; exact .inr (.inr ⟨h3, hk, rfl⟩)
        · rw [if_neg h3] at z; cases z
end
theorem FnA.imp {P : Program} {w : World} {K : PySem.W.Frag} {mg : Str → Option Value} {base : Heap} {CX : CXT} {k : Nat} {f : Addr} {fd : FuncData} {ps : List Str} {sp sp2 : Sp} (F : FnA P w K mg base CX k f fd ps sp) (h : ∀ vs H Q E, sp2 vs H Q E → sp vs H Q E) : FnA P w K mg base CX k f fd ps sp2 :=
  ⟨fun vs H Q E z => F.len vs H Q E (h _ _ _ _ z), fun A b s0 H gv us vs Q E q r e0 hb rv z => F.run A b s0 H gv us vs Q E q r e0 hb rv (h _ _ _ _ z)⟩
theorem kb_of {K : PySem.W.Frag} {x qual : Str} {st : Stmt} {a : Addr} {fd : FuncData} {ps ks : List Str} {n : Nat} {pm : List Nat} (F : L2.Fun K x qual st a fd)
    (h : ∀ (kV doc pmv : Value) (an : Option Addr) (cdv ct : Value) (us ws : List Value), us.length = n → ws.length = ks.length → bindArgs (PySem.W.fnOf x qual (defArgs st) (defBody st) (defScope st) .none kV doc pmv an cdv ct) ⟨us, ks.zip ws⟩ = pure (ps.zip (pick pm (us ++ ws)))) : KB K fd ps n ks pm := by
  obtain ⟨oc, od, kV, doc, pmv, an, cdv, ct, osl, rfl, lk, hcd⟩ := F.ex
  exact fun s0 us ws _ l1 l2 => .of_eq (h kV doc pmv an cdv ct us ws l1 l2)
theorem walk_ofA {l : PySem.W.OpenLaw} {n k : Nat} {q : Program} {loose : List Str} {XP : (Str → Option Value) → Heap → Prop} {YP : World → Heap → Prop} {d : DefRec} {K : Params → PySem.W.Frag} {CX : World → CXT} {sp : World → Sp} {x : Str} {cs : List (Addr × Addr)}
    (hn : l.most = some n) (hn2 : n ≤ sizeLine) (hdf : d.params.defaults = []) (hr : Room k callerA) (hY : ∀ (w : World) (h : Heap), YP w h → (K w.params).In h)
    (hcs : ∀ (w : World) (h : Heap), YP w h → CsOk (K w.params) h cs) (ks : ∀ w : World, (K w.params).lookup sysModules = none) (him : importsNone q = true)
    (F : ∀ (w : World) (mg : Str → Option Value) (fa : Addr) (h : Heap), (K w.params).In h → h.Ns mainGlobals mg → mg d.name = some (.ref fa) →
      ∃ fd : FuncData, (∀ (s : Shared) (u : Value), BindsTo s fd ⟨[u], []⟩ [(x, u)]) ∧ ∀ base : Heap, (K w.params).In base → base.Ns mainGlobals mg → (∀ p ∈ cs, LamX.TabB base mg p.1 p.2) → FnA l.prog w (K w.params) mg base (CX w) k fa fd [x] (sp w))
    (hsp : ∀ (w : World) (H : Hp) (a : Addr) (ns : List Int), ns.length ≤ n → (∀ z ∈ ns, Builtin.Int.intBits z ≤ 1048576) → (∀ p ∈ cs, H p.2 = some (.tbl #[])) → (∃ o, H sysModules = some (.frz o (.own 0))) → SqL (K w.params) H a (ns.map V.int) → sp w [.ref a] H (fun v _ => v = .bl true) fun _ _ _ => False)
    (no : ∀ (w : World) (H : Hp) (s : Shared) (e : Value) (s2 : Shared), CX w [] H s (fun _ _ _ => False) e s2 → False) : PySem.W.WalkO q loose XP YP l.row.toRowW d [] (fun f vs => PySem.call f vs) := by
  intro w s₀ s₁ mg mb G Y fa o pm cd doc dV kV ho hd hcd hD hmg hg args vals as hpre hlay hrd hwl hlo
  obtain rfl : dV = .none := PySem.W.Dflts.none hD hdf
  obtain rfl : kV = .none := PySem.W.Dflts.noKw hD
  obtain ⟨a, vs, ns, rfl, rfl, hobj, hints, hlen⟩ := Att.script_of hn hpre hwl
  obtain ⟨fd, hb, hF⟩ := F w mg fa _ (hY w _ Y) G.T.g hmg
  refine PySem.W.enter_call (codeAny_mono (law_callA (hY w _ Y) G.T.g G.T.b G.T.builtins G.T.nolimit hg G.T.bmain (hcs w _ Y) (ks w) (G.T.seer him).mods hobj hints (Nat.le_trans hlen hn2) hr hF hb (fun H hH hO hS => hsp w H a ns hlen (Att.script_bits hlay) hH hO hS) fun H e s2 z => no w H s₁ e s2 z) fun r s' hq => ?_)
  obtain ⟨rfl, h2, h3, h4⟩ := hq
  exact ⟨.inl ⟨.bool true, .bool true, [], rfl, fun _ => rfl, .bool true, Att.post_true l _, fun _ => ⟨List.Pairwise.nil, fun _ hm => (nomatch hm)⟩⟩, h2, h3, h4⟩
end M

set_option Elab.async false
set_option linter.all false
set_option maxRecDepth 100000
set_option maxHeartbeats 1000000
/-! C1: the plain functions of a tree, and how they stand to the evaluator: expressions. -/
namespace M
open PySem
/-- what a plain function gives -/
inductive Mo (α : Type) where
  | ok (a : α) | exc (c : Nat) (ds : List D) | bad
def Mo.bnd {α β : Type} : Mo α → (α → Mo β) → Mo β
  | .ok a, f => f a
  | .exc c ds, _ => .exc c ds
  | .bad, _ => .bad
instance : Monad Mo := { pure := .ok, bind := Mo.bnd }
section
variable {α β γ : Type}
theorem nr {α : Type} {a b : α} (h : a = b) : a = b := h
@[simp] theorem ok_bind (a : α) (f : α → Mo β) : (Mo.ok a >>= f) = f a := nr rfl
@[simp] theorem bad_bind (f : α → Mo β) : ((Mo.bad : Mo α) >>= f) = .bad := nr rfl
@[simp] theorem exc_bind (c : Nat) (ds : List D) (f : α → Mo β) : ((Mo.exc c ds : Mo α) >>= f) = .exc c ds := nr rfl
@[simp] theorem bind_ok (m : Mo α) : (m >>= fun a => Mo.ok a) = m := by cases m <;> rfl
theorem bind_bind (m : Mo α) (f : α → Mo β) (g : β → Mo γ) : ((m >>= f) >>= g) = m >>= fun a => f a >>= g := by cases m <;> rfl
/-- primitives -/
def prm (p : P) (ds : List D) : Mo D := match evP p ds with
  | some (_, d) => .ok d
  | none => .bad
def prmV (p : P) (ds : List D) : Mo D := match evP p ds with
  | some (false, d) => .ok d
  | _ => .bad
def tru (d : D) : Mo Bool := match truD d with
  | some b => .ok b
  | none => .bad
def isB : D → Mo Bool
  | .bl b => .ok b
  | _ => .bad
def seqM (d : D) : Mo (List D) := match seqD d with
  | some l => .ok l
  | none => .bad
def itemsM (d : D) : Mo (List D) := match itemsD d with
  | some l => .ok l
  | none => .bad
def optM (o : Option (List D)) : Mo (List D) := match o with
  | some l => .ok l
  | none => .bad
def tupM (l : List D) : Mo D := if l.length ≤ sizeLine then .ok (.tup l) else .bad
def lstM (l : List D) : Mo D := if l.length ≤ sizeLine then .ok (.lst l) else .bad
def fldM (c k : Nat) : D → Mo D
  | .ins c' fs => if c' = c then (match fs[k]? with | some d => .ok d | none => .bad) else .bad
  | _ => .bad
def isI (c : Nat) : D → Mo Unit
  | .ins c' _ => if c' = c then .ok () else .bad
  | _ => .bad
def un (n : Nat) : D → Mo (List D)
  | .tup ds => if ds.length = n then .ok ds else .bad
  | _ => .bad
def un2 : D → Mo (D × D)
  | .tup [a, b] => .ok (a, b)
  | _ => .bad
def un3 : D → Mo (D × D × D)
  | .tup [a, b, c] => .ok (a, b, c)
  | _ => .bad
/-- an error inside of a comprehension is not followed -/
def noExc : Mo α → Mo α
  | .ok a => .ok a
  | _ => .bad
def mapA (f : D → Mo D) : List D → Mo (List D)
  | [] => .ok []
  | d :: l => f d >>= fun x => mapA f l >>= fun r => .ok (x :: r)
/-- [.. for ..] -/
def mapL (f : D → Mo D) (l : List D) : Mo (List D) := if l.length ≤ sizeLine then noExc (mapA f l) else .bad
def filA (f : D → Mo (Option D)) : List D → Mo (List D)
  | [] => .ok []
  | d :: l => f d >>= fun x => filA f l >>= fun r => .ok (match x with | some y => y :: r | none => r)
/-- [.. for .. if ..] -/
def filL (f : D → Mo (Option D)) (l : List D) : Mo (List D) := if l.length ≤ sizeLine then noExc (filA f l) else .bad
end

/-! ### relations -/
def Rl {α β : Type} (x : Res α) (m : Mo β) (P : β → α → Fm → Prop) : Prop := match m with
  | .ok b => ∃ a q, x = .ok a q ∧ P b a q
  | .exc c ds => ∃ q, x = .exc c ds q
  | .bad => True
section
variable {α β γ δ : Type} {x : Res α} {P : β → α → Fm → Prop}
theorem Rl.ok {b : β} {a : α} {q : Fm} (h : P b a q) : Rl (.ok a q) (.ok b) P := ⟨a, q, rfl, h⟩
theorem Rl.bind {m : Mo β} {f : α → Fm → Res γ} {k : β → Mo δ} {Q : δ → γ → Fm → Prop} (h : Rl x m P) (hk : ∀ b a q, P b a q → Rl (f a q) (k b) Q) : Rl (bindR x f) (m >>= k) Q := by
  cases m with
  | ok b =>
    obtain ⟨a, q, rfl, h⟩ := h
    exact hk b a q h
  | exc c ds =>
    obtain ⟨q, rfl⟩ := h
    exact ⟨q, rfl⟩
  | bad => trivial
theorem Rl.imp {m : Mo β} {Q : β → α → Fm → Prop} (h : Rl x m P) (i : ∀ b a q, P b a q → Q b a q) : Rl x m Q := by
  cases m with
  | ok b =>
    obtain ⟨a, q, e, h⟩ := h
    exact ⟨a, q, e, i b a q h⟩
  | exc c ds => exact h
  | bad => trivial
theorem Rl.map {m : Mo β} {Q : γ → α → Fm → Prop} (g : β → γ) (h : Rl x m P) (i : ∀ b a q, P b a q → Q (g b) a q) : Rl x (m >>= fun b => .ok (g b)) Q := by
  cases m with
  | ok b =>
    obtain ⟨a, q, e, h⟩ := h
    exact ⟨a, q, e, i b a q h⟩
  | exc c ds => exact h
  | bad => trivial
end
/-- an expression: V the value, F the frame then -/
def XV {α : Type} (K : Calls) (e : E) (q : Fm) (m : Mo α) (V : α → D) (F : α → Fm) : Prop := ∀ pk, Rl (ev K e pk q) m fun a r q' => q' = F a ∧ r.vd = some (V a)
/-- .. that makes a new list -/
def XN {α : Type} (K : Calls) (e : E) (q : Fm) (m : Mo α) (V : α → D) (F : α → Fm) : Prop := ∀ pk, Rl (ev K e pk q) m fun a r q' => q' = F a ∧ r = .new (V a)
/-- .. no new list -/
def XB {α : Type} (K : Calls) (e : E) (q : Fm) (m : Mo α) (V : α → D) (F : α → Fm) : Prop := ∀ pk, Rl (ev K e pk q) m fun a r q' => q' = F a ∧ r = .val (V a)
/-- an operand -/
def XA {α : Type} (K : Calls) (e : E) (q : Fm) (m : Mo α) (V : α → D) (F : α → Fm) : Prop := Rl (ev K e true q) m fun a r q' => q' = F a ∧ r.at_ q' = some (V a)
/-- operands; what they are is asked at the last frame -/
def XS {α : Type} (K : Calls) (es : Es) (q : Fm) (m : Mo α) (V : α → List D) (F : α → Fm) : Prop := Rl (evs K es q) m fun a rs q' => q' = F a ∧ atAll q' rs = some (V a)
def XAs {α : Type} (K : Calls) (es : As) (q : Fm) (m : Mo α) (V : α → List D) (F : α → Fm) : Prop := Rl (evA K es q) m fun a ds q' => q' = F a ∧ ds = V a
def XG {α : Type} (K : Calls) (gs : Gs) (q : Fm) (m : Mo α) (V : α → List Ga) (F : α → Fm) : Prop := Rl (evG K gs q) m fun a l q' => q' = F a ∧ l = V a
def XT {α : Type} (K : Calls) (t : T) (q : Fm) (m : Mo α) (V : α → Bool) (F : α → Fm) : Prop := Rl (evT K t q) m fun a b q' => q' = F a ∧ b = V a
def XI {α : Type} (K : Calls) (it : I) (q : Fm) (m : Mo α) (V : α → List D) (F : α → Fm) : Prop := Rl (evI K it q) m fun a l q' => q' = F a ∧ l = V a
/-- a target: τ what it takes apart -/
def XTg {τ : Type} (K : Calls) (l : LV) (d : D) (q : Fm) (m : Mo τ) (F : τ → Fm) : Prop := match m with
  | .ok t => evL K l (.val d) q = .ok () (F t)
  | .exc _ _ => False
  | .bad => True
section
variable {α β γ δ : Type} {K : Calls} {q : Fm} {e a b c : E} {p : P} {pk : Bool}
theorem RV.down_at {r : RV} {d : D} (q : Fm) (h : r.at_ q = some d) : r.down.at_ q = some d := by cases r <;> exact h
theorem vd_at {r : RV} {d : D} (q : Fm) (h : r.vd = some d) : r.at_ q = some d := by cases r <;> first | exact h | cases h
theorem xn_v {m : Mo α} {V : α → D} {F : α → Fm} (h : XN K e q m V F) : XV K e q m V F := fun pk => (h pk).imp fun _ _ _ ⟨h1, h2⟩ => ⟨h1, by rw [h2]; rfl⟩
theorem xb_v {m : Mo α} {V : α → D} {F : α → Fm} (h : XB K e q m V F) : XV K e q m V F := fun pk => (h pk).imp fun _ _ _ ⟨h1, h2⟩ => ⟨h1, by rw [h2]; rfl⟩
theorem xv_a {m : Mo α} {V : α → D} {F : α → Fm} (h : XV K e q m V F) : XA K e q m V F := (h true).imp fun _ _ _ ⟨h1, h2⟩ => ⟨h1, vd_at _ h2⟩
abbrev I1 : D → D := fun d => d
abbrev Fc (q : Fm) {α : Type} : α → Fm := fun _ => q
theorem xb_con {d : D} : XB K (.con d) q (.ok d) I1 (Fc q) := fun pk => by
  rw [show ev K (.con d) pk q = .ok (.val d) q from by rw [ev]]
  refine Rl.ok ?_; exact ⟨rfl, rfl⟩
theorem xb_glo {x : Str} {d : D} : XB K (.glo x d) q (.ok d) I1 (Fc q) := fun pk => by
  rw [show ev K (.glo x d) pk q = .ok (.val d) q from by rw [ev]]
  refine Rl.ok ?_; exact ⟨rfl, rfl⟩
theorem xb_var {i : Nat} {bo : Bool} {d : D} (h : q[i]? = some (.sh bo d)) : XB K (.var i) q (.ok d) I1 (Fc q) := fun pk => by
  rw [ev, h]
  refine Rl.ok ?_; exact ⟨rfl, rfl⟩
theorem xa_own {i : Nat} {bo : Bool} {d : D} (h : q[i]? = some (.ow bo d)) : XA K (.var i) q (.ok d) I1 (Fc q) := by
  unfold XA
  rw [ev, h]
  refine .ok ⟨rfl, ?_⟩
  show (match q[i]? with | some (.sh _ d) => some d | some (.ow _ d) => some d | _ => none) = _
  rw [h]
/-! operands -/
theorem xs_nil : XS K .nil q (.ok []) (fun l => l) (Fc q) := by
  unfold XS
  rw [evs]
  refine Rl.ok ?_; exact ⟨rfl, rfl⟩
theorem xs_cons {m : Mo α} {V : α → D} {F : α → Fm} {k : α → Mo β} {V2 : α → β → List D} {F2 : α → β → Fm} {r : Es} {V3 : γ → List D} {F3 : γ → Fm} (g : α → β → γ) (h : XV K e q m V F) (h2 : ∀ a, XS K r (F a) (k a) (V2 a) (F2 a))
    (hV : ∀ a b, V3 (g a b) = V a :: V2 a b := by intros; rfl) (hF : ∀ a b, F3 (g a b) = F2 a b := by intros; rfl) : XS K (.cons e r) q (m >>= fun a => k a >>= fun b => .ok (g a b)) V3 F3 := by
  unfold XS
  rw [evs]
  refine (h true).bind fun a r q' ⟨h3, h4⟩ => ?_
  subst h3
  refine (h2 a).bind fun b rs q' ⟨h5, h6⟩ => ?_
  subst h5
  refine .ok ⟨(hF a b).symm, ?_⟩
  rw [hV, atAll, RV.down_at _ (vd_at _ h4), h6]
theorem xv_prm {es : Es} {m : Mo α} {V : α → List D} {F : α → Fm} {V3 : γ → D} {F3 : γ → Fm} (g : α → D → γ) (h : XS K es q m V F) (hV : ∀ a d, V3 (g a d) = d := by intros; rfl) (hF : ∀ a d, F3 (g a d) = F a := by intros; rfl) : XV K (.prm p es) q (m >>= fun a => prm p (V a) >>= fun d => .ok (g a d)) V3 F3 := fun pk => by
  rw [ev]
  refine Rl.bind h fun a rs q' ⟨h1, h2⟩ => ?_
  subst h1
  unfold primR
  rw [h2]
  unfold prm
  dsimp only
  cases e1 : evP p (V a) with
  | none => trivial
  | some x =>
    obtain ⟨fl, d⟩ := x
    cases fl
    · refine Rl.ok ?_; exact ⟨(hF a d).symm, by rw [hV]; rfl⟩
    · refine Rl.ok ?_; exact ⟨(hF a d).symm, by rw [hV]; rfl⟩
/-! displays -/
theorem xas_nil : XAs K .nil q (.ok []) (fun l => l) (Fc q) := by
  unfold XAs
  rw [evA]
  refine Rl.ok ?_; exact ⟨rfl, rfl⟩
theorem xas_one {m : Mo α} {V : α → D} {F : α → Fm} {k : α → Mo β} {V2 : α → β → List D} {F2 : α → β → Fm} {r : As} {V3 : γ → List D} {F3 : γ → Fm} (g : α → β → γ) (h : XV K e q m V F) (h2 : ∀ a, XAs K r (F a) (k a) (V2 a) (F2 a))
    (hV : ∀ a b, V3 (g a b) = V a :: V2 a b := by intros; rfl) (hF : ∀ a b, F3 (g a b) = F2 a b := by intros; rfl) : XAs K (.one e r) q (m >>= fun a => k a >>= fun b => .ok (g a b)) V3 F3 := by
  unfold XAs
  rw [evA]
  refine (h false).bind fun a r q' ⟨h3, h4⟩ => ?_
  subst h3
  rw [h4]
  refine (h2 a).bind fun b rs q' ⟨h5, h6⟩ => ?_
  subst h5 h6
  refine Rl.ok ?_; exact ⟨(hF a b).symm, (hV a b).symm⟩
theorem xn_lst {es : As} {m : Mo α} {V : α → List D} {F : α → Fm} {V3 : γ → D} {F3 : γ → Fm} (g : α → D → γ) (h : XAs K es q m V F) (hV : ∀ a d, V3 (g a d) = d := by intros; rfl) (hF : ∀ a d, F3 (g a d) = F a := by intros; rfl) : XN K (.lst es) q (m >>= fun a => lstM (V a) >>= fun d => .ok (g a d)) V3 F3 := fun pk => by
  rw [ev]
  refine Rl.bind h fun a ds q' ⟨h1, h2⟩ => ?_
  subst h1 h2
  unfold lstM
  by_cases hl : (V a).length ≤ sizeLine
  · rw [if_pos hl, if_pos hl]
    refine Rl.ok ?_; exact ⟨(hF _ _).symm, by rw [hV]⟩
  · rw [if_neg hl, if_neg hl]
    trivial
/-! tests -/
theorem xt_val {m : Mo α} {V : α → D} {F : α → Fm} {V3 : γ → Bool} {F3 : γ → Fm} (g : α → Bool → γ) (h : XA K e q m V F) (hV : ∀ a d, V3 (g a d) = d := by intros; rfl) (hF : ∀ a d, F3 (g a d) = F a := by intros; rfl) : XT K (.val e) q (m >>= fun a => tru (V a) >>= fun d => .ok (g a d)) V3 F3 := by
  unfold XT
  rw [evT]
  refine Rl.bind h fun a r q' ⟨h1, h2⟩ => ?_
  subst h1
  rw [h2]
  unfold tru
  dsimp only
  cases e1 : truD (V a) with
  | none => trivial
  | some c => refine Rl.ok ?_; exact ⟨(hF _ _).symm, (hV _ _).symm⟩
theorem xt_not {t : T} {m : Mo α} {V : α → Bool} {F : α → Fm} {V3 : γ → Bool} {F3 : γ → Fm} (g : α → γ) (h : XT K t q m V F) (hV : ∀ a, V3 (g a) = !V a := by intros; rfl) (hF : ∀ a, F3 (g a) = F a := by intros; rfl) : XT K (.not t) q (m >>= fun a => .ok (g a)) V3 F3 := by
  unfold XT
  rw [evT]
  refine Rl.bind h fun a r q' ⟨h1, h2⟩ => ?_
  subst h1 h2
  refine Rl.ok ?_; exact ⟨(hF _).symm, (hV _).symm⟩
theorem xt_all {t t' : T} {m : Mo α} {V : α → Bool} {F : α → Fm} {k : α → Mo γ} {n : α → γ} {V3 : γ → Bool} {F3 : γ → Fm} (h : XT K t q m V F) (h2 : ∀ a, XT K t' (F a) (k a) V3 F3) (hV : ∀ a, V3 (n a) = false := by intros; rfl) (hF : ∀ a, F3 (n a) = F a := by intros; rfl) :
    XT K (.all t t') q (m >>= fun a => if V a then k a else .ok (n a)) V3 F3 := by
  unfold XT
  rw [evT]
  refine Rl.bind h fun a r q' ⟨h1, h3⟩ => ?_
  subst h1 h3
  cases e1 : V a with
  | true => exact h2 a
  | false => refine Rl.ok ?_; exact ⟨(hF _).symm, (hV _).symm⟩
theorem xt_any {t t' : T} {m : Mo α} {V : α → Bool} {F : α → Fm} {k : α → Mo γ} {n : α → γ} {V3 : γ → Bool} {F3 : γ → Fm} (h : XT K t q m V F) (h2 : ∀ a, XT K t' (F a) (k a) V3 F3) (hV : ∀ a, V3 (n a) = true := by intros; rfl) (hF : ∀ a, F3 (n a) = F a := by intros; rfl) :
    XT K (.any t t') q (m >>= fun a => if V a then .ok (n a) else k a) V3 F3 := by
  unfold XT
  rw [evT]
  refine Rl.bind h fun a r q' ⟨h1, h3⟩ => ?_
  subst h1 h3
  cases e1 : V a with
  | false => exact h2 a
  | true => refine Rl.ok ?_; exact ⟨(hF _).symm, (hV _).symm⟩
/-! choices -/
theorem xv_ife {t : T} {m : Mo α} {V : α → Bool} {F : α → Fm} {k k' : α → Mo γ} {V3 : γ → D} {F3 : γ → Fm} (h : XT K t q m V F) (ha : ∀ x, XV K a (F x) (k x) V3 F3) (hb : ∀ x, XV K b (F x) (k' x) V3 F3) : XV K (.ife t a b) q (m >>= fun x => if V x then k x else k' x) V3 F3 := fun pk => by
  rw [ev]
  refine Rl.bind h fun x r q' ⟨h1, h3⟩ => ?_
  subst h1 h3
  cases e1 : V x with
  | true => exact ha x false
  | false => exact hb x false
/-! arguments, calls -/
theorem xg_nil : XG K .nil q (.ok []) (fun l => l) (Fc q) := by
  unfold XG
  rw [evG]
  refine Rl.ok ?_; exact ⟨rfl, rfl⟩
theorem xg_v {m : Mo α} {V : α → D} {F : α → Fm} {k : α → Mo β} {V2 : α → β → List Ga} {F2 : α → β → Fm} {r : Gs} {V3 : γ → List Ga} {F3 : γ → Fm} (g : α → β → γ) (h : XV K e q m V F) (h2 : ∀ a, XG K r (F a) (k a) (V2 a) (F2 a))
    (hV : ∀ a b, V3 (g a b) = .v (V a) :: V2 a b := by intros; rfl) (hF : ∀ a b, F3 (g a b) = F2 a b := by intros; rfl) : XG K (.v e r) q (m >>= fun a => k a >>= fun b => .ok (g a b)) V3 F3 := by
  unfold XG
  rw [evG]
  refine (h false).bind fun a r q' ⟨h3, h4⟩ => ?_
  subst h3
  rw [h4]
  refine (h2 a).bind fun b rs q' ⟨h5, h6⟩ => ?_
  subst h5 h6
  refine Rl.ok ?_; exact ⟨(hF a b).symm, (hV a b).symm⟩
theorem xg_b {i : Nat} {bo : Bool} {d : D} {k : Mo β} {V2 : β → List Ga} {F2 : β → Fm} {r : Gs} {V3 : γ → List Ga} {F3 : γ → Fm} (g : β → γ) (hi : q[i]? = some (.ow bo d)) (h2 : XG K r q k V2 F2)
    (hV : ∀ b, V3 (g b) = .b i :: V2 b := by intros; rfl) (hF : ∀ b, F3 (g b) = F2 b := by intros; rfl) : XG K (.b i r) q (k >>= fun b => .ok (g b)) V3 F3 := by
  unfold XG
  rw [evG, hi]
  refine Rl.bind h2 fun b rs q' ⟨h5, h6⟩ => ?_
  subst h5 h6
  refine Rl.ok ?_; exact ⟨(hF b).symm, (hV b).symm⟩
/-- what a def gives -/
def FV {α : Type} (K : Calls) (f : Nat) (as : Fm) (m : Mo α) (V : α → D) (B : α → Fm → Prop) : Prop := Rl (K.fn f as) m fun a r q' => r = .val (V a) ∧ B a q'
def FN {α : Type} (K : Calls) (f : Nat) (as : Fm) (m : Mo α) (V : α → D) (B : α → Fm → Prop) : Prop := Rl (K.fn f as) m fun a r q' => r = .new (V a) ∧ B a q'
theorem xb_call {f : Nat} {gs : Gs} {m : Mo α} {V : α → List Ga} {F : α → Fm} {as : α → Fm} {mf : α → Mo β} {V2 : α → β → D} {B : α → β → Fm → Prop} {V3 : γ → D} {F3 : γ → Fm} (g : α → β → γ) (h : XG K gs q m V F) (hf : ∀ a, FV K f (as a) (mf a) (V2 a) (B a))
    (hl : ∀ a, lent (F a) (V a) = some (as a) := by intros; rfl) (hn : ∀ a, (lentIx (V a)).Nodup := by intros; first | exact List.nodup_nil | decide) (hb : ∀ a b q', B a b q' → giveBack (V a) q' (F a) = F3 (g a b) := by intros; rfl) (hV : ∀ a b, V3 (g a b) = V2 a b := by intros; rfl) :
    XB K (.call f gs) q (m >>= fun a => mf a >>= fun b => .ok (g a b)) V3 F3 := fun pk => by
  rw [ev]
  refine Rl.bind h fun a l q' ⟨h1, h2⟩ => ?_
  subst h1 h2
  unfold callR
  rw [if_pos (hn a), hl a]
  dsimp only
  have z := hf a
  unfold FV at z
  cases e1 : mf a with
  | bad => trivial
  | exc c ds =>
    rw [e1] at z
    obtain ⟨q', e2⟩ := z
    rw [e2]
    exact ⟨_, rfl⟩
  | ok b =>
    rw [e1] at z
    obtain ⟨r, q', e2, rfl, hB⟩ := z
    rw [e2]
    refine Rl.ok ?_; exact ⟨hb a b q' hB, by rw [hV]⟩
theorem xn_call {f : Nat} {gs : Gs} {m : Mo α} {V : α → List Ga} {F : α → Fm} {as : α → Fm} {mf : α → Mo β} {V2 : α → β → D} {B : α → β → Fm → Prop} {V3 : γ → D} {F3 : γ → Fm} (g : α → β → γ) (h : XG K gs q m V F) (hf : ∀ a, FN K f (as a) (mf a) (V2 a) (B a))
    (hl : ∀ a, lent (F a) (V a) = some (as a) := by intros; rfl) (hn : ∀ a, (lentIx (V a)).Nodup := by intros; first | exact List.nodup_nil | decide) (hb : ∀ a b q', B a b q' → giveBack (V a) q' (F a) = F3 (g a b) := by intros; rfl) (hV : ∀ a b, V3 (g a b) = V2 a b := by intros; rfl) :
    XN K (.call f gs) q (m >>= fun a => mf a >>= fun b => .ok (g a b)) V3 F3 := fun pk => by
  rw [ev]
  refine Rl.bind h fun a l q' ⟨h1, h2⟩ => ?_
  subst h1 h2
  unfold callR
  rw [if_pos (hn a), hl a]
  dsimp only
  have z := hf a
  unfold FN at z
  cases e1 : mf a with
  | bad => trivial
  | exc c ds =>
    rw [e1] at z
    obtain ⟨q', e2⟩ := z
    rw [e2]
    exact ⟨_, rfl⟩
  | ok b =>
    rw [e1] at z
    obtain ⟨r, q', e2, rfl, hB⟩ := z
    rw [e2]
    refine Rl.ok ?_; exact ⟨hb a b q' hB, by rw [hV]⟩
/-- a new list handed to a def that writes into it -/
theorem xb_callO {f : Nat} {m : Mo α} {V : α → D} {F : α → Fm} {mf : α → Mo β} {V2 : α → β → D} {B : α → β → Fm → Prop} {V3 : γ → D} {F3 : γ → Fm} (g : α → β → γ) (h : XN K e q m V F) (hf : ∀ a, FV K f [.ow false (V a)] (mf a) (V2 a) (B a))
    (hV : ∀ a b, V3 (g a b) = V2 a b := by intros; rfl) (hF : ∀ a b, F3 (g a b) = F a := by intros; rfl) : XB K (.callO f e) q (m >>= fun a => mf a >>= fun b => .ok (g a b)) V3 F3 := fun pk => by
  rw [ev]
  refine (h false).bind fun a r q' ⟨h1, h2⟩ => ?_
  subst h1 h2
  dsimp only
  have z := hf a
  unfold FV at z
  cases e1 : mf a with
  | bad => trivial
  | exc c ds =>
    rw [e1] at z
    obtain ⟨q', e2⟩ := z
    rw [e2]
    exact ⟨_, rfl⟩
  | ok b =>
    rw [e1] at z
    obtain ⟨r, q', e2, rfl, hB⟩ := z
    rw [e2]
    refine Rl.ok ?_; exact ⟨(hF a b).symm, by rw [hV]⟩
end
end M

set_option Elab.async false
set_option linter.all false
set_option maxRecDepth 100000
set_option maxHeartbeats 1000000
/-! C2: walks, targets, comprehensions. -/
namespace M
open PySem
/-- a list's place gets another value -/
def putM : D → D → D → Mo D
  | .lst xs, .int z, v => match L2.ixN xs.length z with
    | some j => .ok (.lst (xs.set j v))
    | none => .bad
  | _, _, _ => .bad
section
variable {α β γ δ τ : Type} {K : Calls} {q : Fm} {e a b c : E} {p : P} {pk : Bool}
theorem vds1 {r : RV} {d : D} (h : r.vd = some d) : vds [r] = some [d] := by simp [vds, h]
theorem rl_it {rs : List RV} {ds : List D} {f : List D → Option (List D)} {V3 : List D → γ} {P : γ → List D → Fm → Prop} (hr : vds rs = some ds) (hP : ∀ l, P (V3 l) l q) : Rl (itR rs q f) (optM (f ds) >>= fun l => .ok (V3 l)) P := by
  unfold itR
  rw [hr]
  dsimp only
  unfold optM
  cases f ds with
  | none => trivial
  | some l => exact Rl.ok (hP l)
theorem xi_seq {m : Mo α} {V : α → D} {F : α → Fm} {V3 : γ → List D} {F3 : γ → Fm} (g : α → List D → γ) (h : XV K e q m V F) (hV : ∀ a l, V3 (g a l) = l := by intros; rfl) (hF : ∀ a l, F3 (g a l) = F a := by intros; rfl) :
    XI K (.seq e) q (m >>= fun a => itemsM (V a) >>= fun l => .ok (g a l)) V3 F3 := by
  unfold XI
  rw [evI]
  refine (h false).bind fun a r q' ⟨h1, h2⟩ => ?_
  subst h1
  rw [h2]
  unfold itemsM
  dsimp only
  cases e1 : itemsD (V a) with
  | none => trivial
  | some l => refine Rl.ok ?_; exact ⟨(hF _ _).symm, (hV _ _).symm⟩
theorem xi_rng1 {m : Mo α} {V : α → D} {F : α → Fm} {V3 : γ → List D} {F3 : γ → Fm} (g : α → List D → γ) (h : XV K a q m V F) (hV : ∀ a l, V3 (g a l) = l := by intros; rfl) (hF : ∀ a l, F3 (g a l) = F a := by intros; rfl) :
    XI K (.rng1 a) q (m >>= fun a => optM (rng1F [V a]) >>= fun l => .ok (g a l)) V3 F3 := by
  unfold XI
  rw [evI]
  refine (h false).bind fun a r q' ⟨h1, h2⟩ => ?_
  subst h1
  exact rl_it (vds1 h2) fun l => ⟨(hF _ _).symm, (hV _ _).symm⟩
/-! ### targets -/
def fr1 (q : Fm) (i : Nat) : Bool := match q[i]? with
  | some s => !s.isBor
  | none => false
theorem setName_v {q : Fm} {i : Nat} {d : D} (h : fr1 q i = true) : setName i (.val d) q = .ok () (q.set i (.sh false d)) := by
  unfold fr1 at h
  unfold setName
  cases e : q[i]? with
  | none => rw [e] at h; cases h
  | some s =>
    rw [e] at h
    have hb : s.isBor = false := by simpa using h
    simp [hb]
theorem xl_nm {i : Nat} {d : D} {F : D → Fm} (hs : fr1 q i = true := by rfl) (hF : q.set i (.sh false d) = F d := by rfl) : XTg K (.nm i) d q (.ok d) F := by
  unfold XTg
  show setName i (.val d) q = _
  rw [setName_v hs, hF]
theorem xl_mk {l : LV} {d : D} {m : Mo τ} {F : τ → Fm} (h : ∀ t, m = .ok t → evL K l (.val d) q = .ok () (F t)) (n : ∀ c ds, m ≠ .exc c ds) : XTg K l d q m F := by
  unfold XTg
  cases m with
  | ok t => exact h t rfl
  | exc c ds => exact n c ds rfl
  | bad => trivial
theorem putM_exc {x k d : D} {c : Nat} {ds : List D} : putM x k d ≠ .exc c ds := by
  cases x with
  | lst xs =>
    cases k with
    | int z =>
      intro h
      unfold putM at h
      dsimp only at h
      cases e : L2.ixN xs.length z with
      | none => rw [e] at h; cases h
      | some j => rw [e] at h; cases h
    | _ => exact fun h => nomatch h
  | _ => intro h; cases k <;> cases h
theorem put_eq {i : Nat} {d x k y : D} {bo : Bool} (hi : q[i]? = some (.ow bo x)) (h : putM x k d = .ok y) : setSub i k d q = .ok () (q.set i (.ow bo y)) := by
  unfold setSub
  rw [hi]
  cases x with
  | lst xs =>
    cases k with
    | int z =>
      unfold putM at h
      dsimp only at h ⊢
      cases e : L2.ixN xs.length z with
      | none => rw [e] at h; cases h
      | some j => rw [e] at h; cases h; rfl
    | _ => cases h
  | _ => cases k <;> cases h
theorem xl_sub {i : Nat} {k : E} {d x : D} {bo : Bool} {mk : Mo D} {F : D → Fm} (hi : q[i]? = some (.ow bo x)) (hk : XB K k q mk I1 (Fc q)) (hF : ∀ y, q.set i (.ow bo y) = F y := by intros; rfl) : XTg K (.sub i k) d q (noExc mk >>= fun z => putM x z d) F := xl_mk (n := fun c ds h => by
    cases mk with
    | ok z => exact putM_exc h
    | _ => cases h) fun t ht => by
  have z := hk false
  cases e1 : mk with
  | bad => rw [e1] at ht; cases ht
  | exc _ _ => rw [e1] at ht; cases ht
  | ok k0 =>
    rw [e1] at z ht
    obtain ⟨r, q', e2, h1, h2⟩ := z
    rw [evL, hi]
    show (match ev K k false q with | .ok (.val z) q1 => setSub i z d q1 | _ => .bad) = _
    rw [e2, h2, h1]
    show setSub i k0 d q = _
    rw [put_eq hi ht, hF]
def XTgs {τ : Type} (K : Calls) (l : LVs) (ds : List D) (q : Fm) (m : Mo τ) (F : τ → Fm) : Prop := match m with
  | .ok t => evLs K l ds q = .ok () (F t)
  | .exc _ _ => False
  | .bad => True
theorem xls_one {l : LV} {d : D} {m : Mo τ} {F : τ → Fm} (h : XTg K l d q m F) : XTgs K (.cons l .nil) [d] q m F := by
  unfold XTgs
  unfold XTg at h
  cases m with
  | ok t =>
    rw [evLs, h]
    show evLs K .nil [] (F t) = _
    rw [evLs]
  | exc _ _ => exact h
  | bad => trivial
theorem xls_cons {l : LV} {r : LVs} {d : D} {ds : List D} {m : Mo α} {F : α → Fm} {k : α → Mo β} {F2 : α → β → Fm} {F3 : γ → Fm} (g : α → β → γ) (h : XTg K l d q m F) (h2 : ∀ t, XTgs K r ds (F t) (k t) (F2 t)) (hF : ∀ a b, F3 (g a b) = F2 a b := by intros; rfl) :
    XTgs K (.cons l r) (d :: ds) q (m >>= fun a => k a >>= fun b => .ok (g a b)) F3 := by
  unfold XTg at h
  cases m with
  | ok t =>
    rw [ok_bind]
    have z := h2 t
    unfold XTgs at z ⊢
    cases e : k t with
    | ok u =>
      rw [e] at z
      rw [ok_bind, evLs, h]
      dsimp only
      rw [z, hF]
    | exc _ _ => rw [e] at z; exact z
    | bad => trivial
  | exc _ _ => exact h.elim
  | bad => trivial
theorem xl_tp2 {l : LVs} {d : D} {m : D → D → Mo τ} {F : τ → Fm} (h : ∀ a b, XTgs K l [a, b] q (m a b) F) (hl : l.len = 2 := by rfl) : XTg K (.tp l) d q (un2 d >>= fun x => m x.1 x.2) F := by
  unfold XTg
  cases d with
  | tup ds =>
    match ds with
    | [a, b] =>
      show match m a b with | .ok t => evL K (.tp l) (.val (.tup [a, b])) q = .ok () (F t) | .exc _ _ => False | .bad => True
      rw [evL]
      show match m a b with | .ok t => (if [a, b].length = l.len then evLs K l [a, b] q else .bad) = .ok () (F t) | .exc _ _ => False | .bad => True
      rw [if_pos (by rw [hl]; rfl)]
      exact h a b
    | [] => trivial
    | [_] => trivial
    | _ :: _ :: _ :: _ => trivial
  | _ => trivial
/-! ### comprehensions -/
/-- a frame of a comprehension's turn: as at its start, but for its own names -/
structure CFr (vs : List Nat) (Q Q0 q : Fm) : Prop where
  w : wipeF vs q = Q0
  b : backF vs Q q = Q
/-- one turn: a value, or none -/
def Tn (K : Calls) (vs : List Nat) (g : LV) (t : T) (e : E) (Q Q0 : Fm) (d : D) (m : Mo (Option D)) : Prop := match m with
  | .ok x => ∃ q1 c q2, evL K g (.val d) Q0 = .ok () q1 ∧ evT K t q1 = .ok c q2 ∧ match x with
    | none => c = false ∧ noOw vs q2 = true ∧ CFr vs Q Q0 q2
    | some y => c = true ∧ ∃ r q3, ev K e false q2 = .ok r q3 ∧ r.vd = some y ∧ noOw vs q3 = true ∧ CFr vs Q Q0 q3
  | _ => True
theorem lc_fil {vs : List Nat} {g : LV} {t : T} {Q Q0 : Fm} {f : D → Mo (Option D)} (st : ∀ d, Tn K vs g t e Q Q0 d (f d)) : ∀ (l acc r : List D) (q : Fm), filA f l = .ok r → acc.length + l.length ≤ sizeLine → CFr vs Q Q0 q → ∃ q', loopC vs (fun d q => evL K g (.val d) q) (evT K t) (ev K e false) acc l q = .ok (acc ++ r) q' ∧ CFr vs Q Q0 q'
  | [], acc, r, q, h, hl, c => by cases h; exact ⟨q, by simp [loopC], c⟩
  | d :: l, acc, r, q, h, hl, c => by
    rw [filA] at h
    have z := st d
    unfold Tn at z
    cases e1 : f d with
    | ok x =>
      rw [e1, ok_bind] at h
      rw [e1] at z
      cases e2 : filA f l with
      | ok s =>
        rw [e2, ok_bind] at h
        obtain ⟨q1, cc, q2, z1, z2, z3⟩ := z
        have ha : acc.length < sizeLine := by simp at hl; omega
        cases x with
        | none =>
          obtain ⟨rfl, z4, z5⟩ := z3
          obtain ⟨q', h1, h2⟩ := lc_fil st l acc s q2 e2 (by simp at hl; omega) z5
          cases h
          refine ⟨q', ?_, h2⟩
          rw [loopC, c.w, z1]
          simp only [z2]
          rw [if_pos z4]
          exact h1
        | some y =>
          obtain ⟨rfl, rr, q3, z4, z5, z6, z7⟩ := z3
          obtain ⟨q', h1, h2⟩ := lc_fil st l (acc ++ [y]) s q3 e2 (by simp at hl ⊢; omega) z7
          cases h
          refine ⟨q', ?_, h2⟩
          rw [loopC, c.w, z1]
          simp only [z2, z4, z5]
          rw [if_pos (by rw [z6, decide_eq_true ha]; rfl), h1]
          simp
      | _ => rw [e2] at h; cases h
    | _ => rw [e1] at h; cases h
theorem xn_lc {vs : List Nat} {g : LV} {it : I} {t : T} {mi : Mo α} {Vi : α → List D} {Fi Q0 : α → Fm} {f : α → D → Mo (Option D)} {V3 : γ → D} {F3 : γ → Fm} (gg : α → List D → γ) (hi : XI K it q mi Vi Fi) (st : ∀ a d, Tn K vs g t e (Fi a) (Q0 a) d (f a d))
    (hn : ∀ a, noOw vs (Fi a) = true := by intros; rfl) (hw : ∀ a, wipeF vs (Fi a) = Q0 a := by intros; rfl) (hb : ∀ a, backF vs (Fi a) (Fi a) = Fi a := by intros; rfl) (hV : ∀ a l, V3 (gg a l) = .lst l := by intros; rfl) (hF : ∀ a l, F3 (gg a l) = Fi a := by intros; rfl) :
    XN K (.lc vs g it t e) q (mi >>= fun a => filL (f a) (Vi a) >>= fun l => .ok (gg a l)) V3 F3 := fun pk => by
  rw [ev]
  refine Rl.bind hi fun a l q' ⟨h1, h2⟩ => ?_
  subst h1 h2
  rw [if_pos (hn a)]
  unfold filL
  by_cases hl : (Vi a).length ≤ sizeLine
  · rw [if_pos hl]
    cases e1 : filA (f a) (Vi a) with
    | ok r =>
      obtain ⟨q', h1, h2⟩ := lc_fil (st a) (Vi a) [] r (Fi a) e1 (by simpa using hl) ⟨hw a, hb a⟩
      rw [h1]
      refine Rl.ok ?_
      exact ⟨by rw [hF, h2.b], by rw [hV]; rfl⟩
    | _ => trivial
  · rw [if_neg hl]
    trivial
def Tn1 (K : Calls) (vs : List Nat) (g : LV) (e : E) (Q Q0 : Fm) (d : D) (m : Mo D) : Prop := match m with
  | .ok y => ∃ q1, evL K g (.val d) Q0 = .ok () q1 ∧ ∃ r q3, ev K e false q1 = .ok r q3 ∧ r.vd = some y ∧ noOw vs q3 = true ∧ CFr vs Q Q0 q3
  | _ => True
theorem mapA_fil (f : D → Mo D) : ∀ l : List D, mapA f l = filA (fun d => f d >>= fun y => .ok (some y)) l
  | [] => rfl
  | d :: l => by
    rw [mapA, filA, mapA_fil f l]
    cases f d with
    | ok x => rfl
    | _ => rfl
theorem mapL_fil (f : D → Mo D) (l : List D) : mapL f l = filL (fun d => f d >>= fun y => .ok (some y)) l := by
  unfold mapL filL
  rw [mapA_fil]
theorem xn_lcM {vs : List Nat} {g : LV} {it : I} {mi : Mo α} {Vi : α → List D} {Fi Q0 : α → Fm} {f : α → D → Mo D} {V3 : γ → D} {F3 : γ → Fm} (gg : α → List D → γ) (hi : XI K it q mi Vi Fi) (st : ∀ a d, Tn1 K vs g e (Fi a) (Q0 a) d (f a d))
    (hn : ∀ a, noOw vs (Fi a) = true := by intros; rfl) (hw : ∀ a, wipeF vs (Fi a) = Q0 a := by intros; rfl) (hb : ∀ a, backF vs (Fi a) (Fi a) = Fi a := by intros; rfl) (hV : ∀ a l, V3 (gg a l) = .lst l := by intros; rfl) (hF : ∀ a l, F3 (gg a l) = Fi a := by intros; rfl) :
    XN K (.lc vs g it .yes e) q (mi >>= fun a => mapL (f a) (Vi a) >>= fun l => .ok (gg a l)) V3 F3 := by
  have z := xn_lc (K := K) (q := q) (e := e) (vs := vs) (g := g) (it := it) (t := .yes) (f := fun a d => f a d >>= fun y => .ok (some y)) gg hi (fun a d => by
    have z := st a d
    unfold Tn1 at z
    unfold Tn
    cases e1 : f a d with
    | ok y =>
      rw [e1] at z
      obtain ⟨q1, h1, r, q3, h2, h3, h4, h5⟩ := z
      exact ⟨q1, true, q1, h1, by rw [evT], rfl, r, q3, h2, h3, h4, h5⟩
    | _ => trivial) hn hw hb hV hF
  simp only [← mapL_fil] at z
  exact z
/-- a turn by its parts -/
theorem tn1_of {vs : List Nat} {g : LV} {Q Q0 : Fm} {d : D} {pt : Mo τ} {Fp : τ → Fm} {m : τ → Mo D} {Fe : τ → D → Fm} (hp : XTg K g d Q0 pt Fp) (he : ∀ t, XV K e (Fp t) (m t) I1 (Fe t)) (hn : ∀ t y, noOw vs (Fe t y) = true := by intros; rfl) (hc : ∀ t y, CFr vs Q Q0 (Fe t y) := by intros; exact ⟨rfl, rfl⟩) : Tn1 K vs g e Q Q0 d (pt >>= m) := by
  unfold XTg at hp
  unfold Tn1
  cases pt with
  | ok t =>
    rw [ok_bind]
    have z := he t false
    cases e1 : m t with
    | ok y =>
      rw [e1] at z
      obtain ⟨r, q3, z1, z2, z3⟩ := z
      subst z2
      exact ⟨Fp t, hp, r, _, z1, z3, hn t y, hc t y⟩
    | _ => trivial
  | _ => trivial
/-! a comprehension whose element draws: S the frame by what is drawn from -/
end
end M

set_option Elab.async false
set_option linter.all false
set_option maxRecDepth 100000
set_option maxHeartbeats 1000000
/-! C3: statements, defs. -/
namespace M
open PySem
/-- how a body ends -/
inductive Fl (α ρ : Type) where
  | nx (a : α) | brk (a : α) | ret (r : ρ)
def Fl.on {α ρ γ : Type} (x : Fl α ρ) (k : α → Mo γ) (h : ρ → Mo γ) : Mo γ := match x with
  | .nx a => k a
  | .brk a => k a
  | .ret r => h r
section
variable {α ρ γ : Type}
@[simp] theorem on_nx (a : α) (k : α → Mo γ) (h : ρ → Mo γ) : Fl.on (.nx a) k h = k a := rfl
@[simp] theorem on_brk (a : α) (k : α → Mo γ) (h : ρ → Mo γ) : Fl.on (.brk a) k h = k a := rfl
@[simp] theorem on_ret (r : ρ) (k : α → Mo γ) (h : ρ → Mo γ) : Fl.on (.ret r) k h = h r := rfl
def foldN (f : α → D → Mo α) : α → List D → Mo α
  | s, [] => .ok s
  | s, d :: l => f s d >>= fun s' => foldN f s' l
def foldB (f : α → D → Mo (Fl α ρ)) : α → List D → Mo (Fl α ρ)
  | s, [] => .ok (.nx s)
  | s, d :: l => f s d >>= fun x => match x with
    | .nx s' => foldB f s' l
    | .brk s' => .ok (.nx s')
    | .ret r => .ok (.ret r)
end
def evKs (K : Calls) : List Ss → Fm → SRes
  | [], q => .nx q
  | s :: ks, q => match evSs K s q with
    | .nx q1 => evKs K ks q1
    | x => x
def SR {γ : Type} (K : Calls) (s : Ss) (ks : List Ss) (q : Fm) (m : Mo γ) (P : γ → SRes → Prop) : Prop := match m with
  | .ok g => P g (evKs K (s :: ks) q)
  | .exc c ds => ∃ q', evKs K (s :: ks) q = .exc c ds q'
  | .bad => True
def PNc {α : Type} (F : α → Fm) : α → SRes → Prop := fun a x => x = .nx (F a) ∨ x = .cnt (F a)
def IsRet (x : SRes) : Prop := ∃ v q, x = .ret v q
def PB {α ρ : Type} (F : α → Fm) (R : ρ → SRes → Prop) : Fl α ρ → SRes → Prop
  | .nx a, x => x = .nx (F a) ∨ x = .cnt (F a)
  | .brk a, x => x = .brk (F a)
  | .ret r, x => R r x ∧ IsRet x
section
variable {α β γ δ τ ρ : Type} {K : Calls} {q q1 : Fm} {e a b c : E} {p : P} {r s sa sb : Ss} {ks : List Ss} {P : γ → SRes → Prop}
theorem SR.of_eq {q' : Fm} {s' : Ss} {ks' : List Ss} {m : Mo γ} (h : SR K s' ks' q' m P) (e : evKs K (s :: ks) q = evKs K (s' :: ks') q') : SR K s ks q m P := by
  unfold SR at h ⊢
  rw [e]
  exact h
theorem sr_nil {m : Mo γ} (h : SR K r ks q m P) : SR K .nil (r :: ks) q m P := h.of_eq (by
  rw [evKs]
  rw [show evSs K .nil q = .nx q from by rw [evSs]])
theorem sr_end {g : γ} (h : P g (.nx q)) : SR K .nil [] q (.ok g) P := by
  show P g (evKs K [.nil] q)
  rw [evKs, show evSs K .nil q = .nx q from by rw [evSs]]
  exact h
theorem ks_cons {x : S} (h : evS K x q = .nx q1) : evKs K (.cons x r :: ks) q = evKs K (r :: ks) q1 := by
  rw [evKs, evSs, h, evKs]
theorem ks_exc {x : S} {c : Nat} {ds : List D} (h : evS K x q = .exc c ds q1) : evKs K (.cons x r :: ks) q = .exc c ds q1 := by
  rw [evKs, evSs, h]
theorem ks_ret {x : S} {v : RV} (h : evS K x q = .ret v q1) : evKs K (.cons x r :: ks) q = .ret v q1 := by
  rw [evKs, evSs, h]
/-- a step and what comes behind it -/
theorem SR.step {x : S} {m : Mo α} {k : α → Mo γ} {F : α → Fm} (h1 : ∀ a, m = .ok a → evS K x q = .nx (F a)) (h2 : ∀ c ds, m = .exc c ds → ∃ q', evS K x q = .exc c ds q') (hr : ∀ a, SR K r ks (F a) (k a) P) : SR K (.cons x r) ks q (m >>= k) P := by
  cases m with
  | ok a => exact (hr a).of_eq (ks_cons (h1 a rfl))
  | exc c ds =>
    obtain ⟨q', e⟩ := h2 c ds rfl
    exact ⟨q', ks_exc e⟩
  | bad => trivial
theorem sr_kil {is : List Nat} {m : Mo γ} (h : SR K r ks q1 m P) (e : wipeF is q = q1 := by rfl) : SR K (.cons (.kil is) r) ks q m P := h.of_eq (ks_cons (by rw [evS, e]))
theorem sr_set {i : Nat} {m : Mo α} {V : α → D} {F F' : α → Fm} {k : α → Mo γ} (h : XV K e q m V F) (hr : ∀ a, SR K r ks (F' a) (k a) P) (hi : ∀ a, fr1 (F a) i = true := by intros; rfl) (hF : ∀ a, (F a).set i (.sh false (V a)) = F' a := by intros; rfl) : SR K (.cons (.asgS (.nm i) e) r) ks q (m >>= k) P := by
  refine SR.step (F := F') (fun a ha => ?_) (fun c ds hc => ?_) hr
  · have z := h false
    rw [ha] at z
    obtain ⟨x, q', e1, rfl, hv⟩ := z
    rw [evS, e1]
    show (match setName i x.down (F a) with | .ok _ q2 => SRes.nx q2 | _ => .bad) = _
    have : x.down = .val (V a) := by cases x <;> cases hv <;> rfl
    rw [this, setName_v (hi a)]
    exact congrArg _ (hF a)
  · have z := h false
    rw [hc] at z
    obtain ⟨q', e1⟩ := z
    exact ⟨q', by rw [evS, e1]; rfl⟩
/-- other targets -/
theorem sr_tgt {l : LV} {m : Mo α} {V : α → D} {F : α → Fm} {pt : α → Mo τ} {Ft : α → τ → Fm} {k : α → τ → Mo γ} (h : XV K e q m V F) (hl : ∀ a, XTg K l (V a) (F a) (pt a) (Ft a)) (hr : ∀ a t, SR K r ks (Ft a t) (k a t) P) : SR K (.cons (.asgS l e) r) ks q (m >>= fun a => pt a >>= fun t => k a t) P := by
  have z := h false
  cases m with
  | bad => trivial
  | exc c ds =>
    obtain ⟨q', e1⟩ := z
    exact ⟨q', ks_exc (by rw [evS, e1]; rfl)⟩
  | ok a =>
    rw [ok_bind]
    obtain ⟨x, q', e1, rfl, hv⟩ := z
    have z := hl a
    unfold XTg at z
    cases e2 : pt a with
    | ok t =>
      rw [e2] at z
      rw [ok_bind]
      refine (hr a t).of_eq (ks_cons ?_)
      rw [evS, e1]
      show (match evL K l x.down (F a) with | .ok _ q2 => SRes.nx q2 | _ => .bad) = _
      have : x.down = .val (V a) := by cases x <;> cases hv <;> rfl
      rw [this, z]
    | exc c ds => rw [e2] at z; exact z.elim
    | bad => trivial
/-! returns -/
theorem sr_retS {m : Mo α} {V : α → D} {F : α → Fm} (g : α → γ) (h : XV K e q m V F) (hP : ∀ a, P (g a) (.ret (.val (V a)) (F a))) : SR K (.cons (.retS e) r) ks q (m >>= fun a => .ok (g a)) P := by
  have z := h false
  cases m with
  | bad => trivial
  | exc c ds =>
    obtain ⟨q', e1⟩ := z
    exact ⟨q', ks_exc (by rw [evS, e1]; rfl)⟩
  | ok a =>
    obtain ⟨x, q', e1, rfl, hv⟩ := z
    show P (g a) (evKs K (.cons (.retS e) r :: ks) q)
    have : x.down = .val (V a) := by cases x <;> cases hv <;> rfl
    rw [ks_ret (q1 := F a) (v := .val (V a)) (by rw [evS, e1]; show SRes.ret x.down _ = _; rw [this])]
    exact hP a
theorem sr_retW {m : Mo α} {V : α → D} {F : α → Fm} (g : α → γ) (h : XN K e q m V F) (hP : ∀ a, P (g a) (.ret (.new (V a)) (F a))) : SR K (.cons (.ret e) r) ks q (m >>= fun a => .ok (g a)) P := by
  have z := h false
  cases m with
  | bad => trivial
  | exc c ds =>
    obtain ⟨q', e1⟩ := z
    exact ⟨q', ks_exc (by rw [evS, e1]; rfl)⟩
  | ok a =>
    obtain ⟨x, q', e1, rfl, rfl⟩ := z
    show P (g a) (evKs K (.cons (.ret e) r :: ks) q)
    rw [ks_ret (q1 := F a) (v := .new (V a)) (by rw [evS, e1]; rfl)]
    exact hP a
/-! expressions as statements -/
/-! choices -/
theorem sr_if {t : T} {m : Mo α} {V : α → Bool} {F : α → Fm} {ka kb : α → Mo γ} (h : XT K t q m V F) (ha : ∀ x, SR K sa (r :: ks) (F x) (ka x) P) (hb : ∀ x, SR K sb (r :: ks) (F x) (kb x) P) : SR K (.cons (.ift t sa sb) r) ks q (m >>= fun x => if V x then ka x else kb x) P := by
  unfold XT at h
  cases m with
  | bad => trivial
  | exc c ds =>
    obtain ⟨q', e1⟩ := h
    exact ⟨q', ks_exc (by rw [evS, e1]; rfl)⟩
  | ok x =>
    obtain ⟨b, q', e1, rfl, rfl⟩ := h
    rw [ok_bind]
    cases e2 : V x with
    | true =>
      refine SR.of_eq (ha x) ?_
      rw [evKs, evSs, evS, e1, e2]
      show (match (match evSs K sa (F x) with | .nx q1 => evSs K r q1 | x => x) with | .nx q1 => evKs K ks q1 | x => x) = evKs K (sa :: r :: ks) (F x)
      rw [evKs]
      cases evSs K sa (F x) with
      | nx q1 => dsimp only; rw [evKs]
      | _ => rfl
    | false =>
      refine SR.of_eq (hb x) ?_
      rw [evKs, evSs, evS, e1, e2]
      show (match (match evSs K sb (F x) with | .nx q1 => evSs K r q1 | x => x) with | .nx q1 => evKs K ks q1 | x => x) = evKs K (sb :: r :: ks) (F x)
      rw [evKs]
      cases evSs K sb (F x) with
      | nx q1 => dsimp only; rw [evKs]
      | _ => rfl
theorem ks_one {s : Ss} : evKs K [s] q = evSs K s q := by
  rw [evKs]
  cases evSs K s q with
  | nx q1 => dsimp only; rw [evKs]
  | _ => rfl
end
end M

set_option Elab.async false
set_option linter.all false
set_option maxRecDepth 100000
set_option maxHeartbeats 1000000
/-! C4: loops, defs, constructors. -/
namespace M
open PySem
section
variable {α β γ δ τ ρ : Type} {K : Calls} {q q1 : Fm} {e a b c : E} {p : P} {r s sa sb : Ss} {ks : List Ss} {P : γ → SRes → Prop}
theorem ans_ret {F : β → Fm} {R : ρ → SRes → Prop} {body : Fm → SRes} {asg : D → Fm → Res Unit} {f : β → D → Mo (Fl β ρ)}
    (st : ∀ s d, match f s d with
      | .ok x => ∃ q1, asg d (F s) = .ok () q1 ∧ PB F R x (body q1)
      | .exc c ds => ∃ q1 q2, asg d (F s) = .ok () q1 ∧ body q1 = .exc c ds q2
      | .bad => True) : ∀ (l : List D) (s : β), match foldB f s l with
      | .ok (.nx s') => loopF asg body l (F s) = .nx (F s')
      | .ok (.ret x) => R x (loopF asg body l (F s)) ∧ IsRet (loopF asg body l (F s))
      | .ok (.brk _) => False
      | .exc c ds => ∃ q2, loopF asg body l (F s) = .exc c ds q2
      | .bad => True
  | [], s => rfl
  | d :: l, s => by
    rw [foldB]
    have z := st s d
    cases e1 : f s d with
    | bad => trivial
    | exc c ds =>
      rw [e1] at z
      obtain ⟨q1, q2, h1, h2⟩ := z
      exact ⟨q2, by rw [loopF, h1]; dsimp only; rw [h2]⟩
    | ok x =>
      rw [e1] at z
      rw [ok_bind]
      obtain ⟨q1, h1, h2⟩ := z
      cases x with
      | nx s' =>
        have ih := ans_ret st l s'
        have e3 : loopF asg body (d :: l) (F s) = loopF asg body l (F s') := by
          rw [loopF, h1]
          dsimp only
          rcases h2 with h2 | h2 <;> rw [h2]
        rw [e3]
        exact ih
      | brk s' =>
        show loopF asg body (d :: l) (F s) = .nx (F s')
        have h2 : body q1 = .brk (F s') := h2
        rw [loopF, h1]
        dsimp only
        rw [h2]
      | ret x =>
        obtain ⟨h2, v, q2, h3⟩ := h2
        have e3 : loopF asg body (d :: l) (F s) = body q1 := by
          rw [loopF, h1]
          dsimp only
          rw [h3]
        show R x (loopF asg body (d :: l) (F s)) ∧ IsRet (loopF asg body (d :: l) (F s))
        rw [e3]
        exact ⟨h2, v, q2, h3⟩
theorem sr_for {it : I} {l : LV} {mi : Mo α} {Vi : α → List D} {Fi : α → Fm} {F : β → Fm} {pt : β → D → Mo τ} {Ft : β → τ → Fm} {st : β → τ → Mo (Fl β ρ)} {R : ρ → SRes → Prop} {k : β → Mo γ} (b0 : α → β) (rt : ρ → γ)
    (hi : XI K it q mi Vi Fi) (ht : ∀ s d, XTg K l d (F s) (pt s d) (Ft s)) (hb : ∀ s t, SR K sa [] (Ft s t) (st s t) (PB F R)) (hr : ∀ s, SR K r ks (F s) (k s) P) (hP : ∀ x y, R x y → IsRet y → P (rt x) y) (hF : ∀ a, Fi a = F (b0 a) := by intros; rfl) :
    SR K (.cons (.for l it sa) r) ks q (mi >>= fun a => foldB (fun s d => pt s d >>= fun t => st s t) (b0 a) (Vi a) >>= fun x => Fl.on x k fun x => .ok (rt x)) P := by
  unfold XI at hi
  cases mi with
  | bad => trivial
  | exc c ds =>
    obtain ⟨q', e1⟩ := hi
    exact ⟨q', ks_exc (by rw [evS, e1]; rfl)⟩
  | ok a =>
    obtain ⟨l0, q', e1, rfl, rfl⟩ := hi
    rw [ok_bind]
    have key := ans_ret (F := F) (R := R) (body := evSs K sa) (asg := fun d q => evL K l (.val d) q) (f := fun s d => pt s d >>= fun t => st s t) (fun s d => by
      have z := ht s d
      unfold XTg at z
      show match (pt s d >>= fun t => st s t) with | .ok x => _ | .exc c ds => _ | .bad => _
      cases e2 : pt s d with
      | bad => trivial
      | exc c ds => rw [e2] at z; exact z.elim
      | ok t =>
        rw [e2] at z
        rw [ok_bind]
        have y := hb s t
        unfold SR at y
        cases e3 : st s t with
        | bad => trivial
        | exc c ds =>
          rw [e3] at y
          obtain ⟨q2, h⟩ := y
          exact ⟨_, q2, z, by rw [← ks_one]; exact h⟩
        | ok x =>
          rw [e3] at y
          exact ⟨_, z, by rw [← ks_one]; exact y⟩) (Vi a) (b0 a)
    have e2 : evS K (.for l it sa) q = loopF (fun d q => evL K l (.val d) q) (evSs K sa) (Vi a) (F (b0 a)) := by
      rw [evS, e1, ← hF]; rfl
    cases e3 : foldB (fun s d => pt s d >>= fun t => st s t) (b0 a) (Vi a) with
    | bad => trivial
    | exc c ds =>
      rw [e3] at key
      obtain ⟨q2, h⟩ := key
      exact ⟨q2, ks_exc (by rw [e2, h])⟩
    | ok x =>
      rw [e3] at key
      rw [ok_bind]
      cases x with
      | nx s' => exact (hr s').of_eq (ks_cons (by rw [e2]; exact key))
      | brk s' => exact key.elim
      | ret x =>
        obtain ⟨h1, v, q2, h2⟩ := key
        rw [← e2] at h1 h2
        have e4 : evKs K (.cons (.for l it sa) r :: ks) q = evS K (.for l it sa) q := by
          rw [ks_ret h2, h2]
        show P (rt x) (evKs K (.cons (.for l it sa) r :: ks) q)
        rw [e4]
        exact hP _ _ h1 ⟨v, q2, h2⟩
theorem foldN_B (f : β → D → Mo β) (g : β → D → Mo (Fl β ρ)) (h : ∀ s d, g s d = f s d >>= fun s' => .ok (.nx s')) : ∀ (l : List D) (s : β), foldB g s l = foldN f s l >>= fun s' => .ok (.nx s')
  | [], s => rfl
  | d :: l, s => by
    rw [foldB, foldN, h]
    cases f s d with
    | ok x => exact foldN_B f g h l x
    | _ => rfl
theorem SR.map {P' : δ → SRes → Prop} {m : Mo γ} (g : γ → δ) (h : SR K s ks q m P) (i : ∀ x y, P x y → P' (g x) y) : SR K s ks q (m >>= fun x => .ok (g x)) P' := by
  unfold SR at h ⊢
  cases m with
  | ok x => exact i _ _ h
  | exc c ds => exact h
  | bad => trivial
theorem sr_forN {it : I} {l : LV} {mi : Mo α} {Vi : α → List D} {Fi : α → Fm} {F : β → Fm} {pt : β → D → Mo τ} {Ft : β → τ → Fm} {st : β → τ → Mo β} {k : β → Mo γ} (b0 : α → β)
    (hi : XI K it q mi Vi Fi) (ht : ∀ s d, XTg K l d (F s) (pt s d) (Ft s)) (hb : ∀ s t, SR K sa [] (Ft s t) (st s t) (PNc F)) (hr : ∀ s, SR K r ks (F s) (k s) P) (hF : ∀ a, Fi a = F (b0 a) := by intros; rfl) :
    SR K (.cons (.for l it sa) r) ks q (mi >>= fun a => foldN (fun s d => pt s d >>= fun t => st s t) (b0 a) (Vi a) >>= k) P := by
  have z := sr_for (K := K) (ρ := PEmpty) (γ := γ) (P := P) (q := q) (ks := ks) (r := r) (sa := sa) (st := fun s t => st s t >>= fun s' => .ok (.nx s')) (R := fun _ _ => False) (k := k) b0 (fun x => x.elim) hi ht (fun s t => (hb s t).map _ fun x y h => h) hr (fun x => x.elim) hF
  have e : (fun a => foldB (ρ := PEmpty) (fun s d => pt s d >>= fun t => st s t >>= fun s' => .ok (.nx s')) (b0 a) (Vi a) >>= fun x => Fl.on x k fun x => Mo.ok (x.elim : γ)) = fun a => foldN (fun s d => pt s d >>= fun t => st s t) (b0 a) (Vi a) >>= k := by
    funext a
    rw [foldN_B (ρ := PEmpty) (fun s d => pt s d >>= fun t => st s t) _ (fun s d => (bind_bind _ _ _).symm)]
    rw [bind_bind]
    rfl
  rw [e] at z
  exact z
/-! ### defs -/
theorem sr_retP {m : Mo γ} {V : γ → D} {F : γ → Fm} (h : XV K e q m V F) (hP : ∀ a, P a (.ret (.val (V a)) (F a))) : SR K (.cons (.retS e) r) ks q m P := by
  have z := sr_retS (K := K) (r := r) (ks := ks) (P := P) (fun a => a) h hP
  rw [bind_ok] at z
  exact z
theorem sr_retWP {m : Mo γ} {V : γ → D} {F : γ → Fm} (h : XN K e q m V F) (hP : ∀ a, P a (.ret (.new (V a)) (F a))) : SR K (.cons (.ret e) r) ks q m P := by
  have z := sr_retW (K := K) (r := r) (ks := ks) (P := P) (fun a => a) h hP
  rw [bind_ok] at z
  exact z
/-- a def's end: V the value, B what the lent lists are then -/
def PF {α : Type} (n : Nat) (V : α → D) (B : α → Fm → Prop) : α → SRes → Prop := fun a x =>
  (∃ q', x = .ret (.val (V a)) q' ∧ n ≤ q'.length ∧ B a (lentBack n q')) ∨ ∃ q', x = .nx q' ∧ V a = .non ∧ n ≤ q'.length ∧ B a (lentBack n q')
def PFN {α : Type} (n : Nat) (V : α → D) (B : α → Fm → Prop) : α → SRes → Prop := fun a x => ∃ q', x = .ret (.new (V a)) q' ∧ n ≤ q'.length ∧ B a (lentBack n q')
theorem pf_ret {n : Nat} {V : α → D} {B : α → Fm → Prop} {a : α} {q' : Fm} {d : D} (hV : d = V a := by rfl) (hn : n ≤ q'.length := by exact Nat.le_of_ble_eq_true rfl) (hB : B a (lentBack n q') := by first | trivial | rfl) : PF n V B a (.ret (.val d) q') := .inl ⟨q', by rw [hV], hn, hB⟩
theorem pbr {F : β → Fm} {R : ρ → SRes → Prop} {r : ρ} {v : RV} {q : Fm} (h : R r (.ret v q)) : PB F R (.ret r) (.ret v q) := ⟨h, v, q, rfl⟩
theorem pfn_ret {n : Nat} {V : α → D} {B : α → Fm → Prop} {a : α} {q' : Fm} {d : D} (hV : d = V a := by rfl) (hn : n ≤ q'.length := by exact Nat.le_of_ble_eq_true rfl) (hB : B a (lentBack n q') := by first | trivial | rfl) : PFN n V B a (.ret (.new d) q') := ⟨q', by rw [hV], hn, hB⟩
theorem run_fv {d : FDef} {as : Fm} {m : Mo α} {V : α → D} {B : α → Fm → Prop} (hl : as.length = d.nps) (h : SR K d.body [] (as ++ List.replicate (d.nN - d.nps) .no) m (PF d.nps V B)) : Rl (runF K d as) m fun a r q' => r = .val (V a) ∧ B a q' := by
  unfold runF
  rw [if_pos hl]
  unfold SR at h
  rw [ks_one] at h
  cases m with
  | bad => trivial
  | exc c ds =>
    obtain ⟨q', e⟩ := h
    rw [e]
    exact ⟨_, rfl⟩
  | ok a =>
    rcases h with ⟨q', e, hn, hB⟩ | ⟨q', e, hV, hn, hB⟩
    · rw [e]
      dsimp only
      rw [if_pos hn]
      exact ⟨_, _, rfl, rfl, hB⟩
    · rw [e]
      dsimp only
      rw [if_pos hn]
      exact ⟨_, _, rfl, by rw [hV], hB⟩
theorem run_fn {d : FDef} {as : Fm} {m : Mo α} {V : α → D} {B : α → Fm → Prop} (hl : as.length = d.nps) (h : SR K d.body [] (as ++ List.replicate (d.nN - d.nps) .no) m (PFN d.nps V B)) : Rl (runF K d as) m fun a r q' => r = .new (V a) ∧ B a q' := by
  unfold runF
  rw [if_pos hl]
  unfold SR at h
  rw [ks_one] at h
  cases m with
  | bad => trivial
  | exc c ds =>
    obtain ⟨q', e⟩ := h
    rw [e]
    exact ⟨_, rfl⟩
  | ok a =>
    obtain ⟨q', e, hn, hB⟩ := h
    rw [e]
    dsimp only
    rw [if_pos hn]
    exact ⟨_, _, rfl, rfl, hB⟩
section
variable {t : Tab} {n f : Nat} {d : FDef} {as : Fm} {m : Mo α} {V : α → D} {B : α → Fm → Prop}
theorem fv_of (ht : t.fn.lookup f = some d) (hl : as.length = d.nps) (h : SR (calls t n) d.body [] (as ++ List.replicate (d.nN - d.nps) .no) m (PF d.nps V B)) : FV (calls t (n + 1)) f as m V B := by
  show Rl (match t.fn.lookup f with | some d => runF (calls t n) d as | none => .bad) _ _
  rw [ht]
  exact run_fv hl h
theorem fn_of (ht : t.fn.lookup f = some d) (hl : as.length = d.nps) (h : SR (calls t n) d.body [] (as ++ List.replicate (d.nN - d.nps) .no) m (PFN d.nps V B)) : FN (calls t (n + 1)) f as m V B := by
  show Rl (match t.fn.lookup f with | some d => runF (calls t n) d as | none => .bad) _ _
  rw [ht]
  exact run_fn hl h
end
/-- a constructor's body; slot 0 stays self -/
def MR (K : Calls) (e : E) (s : Ss) (q : Fm) (m : Mo (List D)) : Prop := Rl (evM K e s q) m fun a r q' => r = a
end
end M

set_option Elab.async false
set_option linter.all false
set_option maxRecDepth 100000
set_option maxHeartbeats 1000000
/-! C5: rules for expressions that draw nothing: the frame stays. -/
namespace M
open PySem
abbrev EV (K : Calls) (e : E) (q : Fm) (m : Mo D) : Prop := XV K e q m I1 (Fc q)
abbrev EN (K : Calls) (e : E) (q : Fm) (m : Mo D) : Prop := XN K e q m I1 (Fc q)
abbrev EB (K : Calls) (e : E) (q : Fm) (m : Mo D) : Prop := XB K e q m I1 (Fc q)
abbrev EA (K : Calls) (e : E) (q : Fm) (m : Mo D) : Prop := XA K e q m I1 (Fc q)
abbrev Ib : Bool → Bool := fun b => b
abbrev Il : List D → List D := fun l => l
abbrev TP (K : Calls) (t : T) (q : Fm) (m : Mo Bool) : Prop := XT K t q m Ib (Fc q)
abbrev AsP (K : Calls) (e : As) (q : Fm) (m : Mo (List D)) : Prop := XAs K e q m Il (Fc q)
abbrev IP (K : Calls) (it : I) (q : Fm) (m : Mo (List D)) : Prop := XI K it q m Il (Fc q)
/-- arguments, none lent -/
def GP (K : Calls) (gs : Gs) (q : Fm) (m : Mo (List D)) : Prop := XG K gs q m (fun l => l.map Ga.v) (Fc q)
/-- a def without lent lists -/
abbrev FP (K : Calls) (f : Nat) (as : List D) (m : Mo D) : Prop := FV K f (as.map (Slot.sh false)) m I1 fun _ _ => True
abbrev FPN (K : Calls) (f : Nat) (as : List D) (m : Mo D) : Prop := FN K f (as.map (Slot.sh false)) m I1 fun _ _ => True
theorem bind_okD {α : Type} (m : Mo α) : (m >>= fun a => Mo.ok a) = m := by cases m <;> rfl
section
variable {K : Calls} {q : Fm} {e a b c d : E} {p : P} {m ma mb mc : Mo D} {t t' : T} {i f k : Nat}
theorem ea_own {bo : Bool} {x : D} (h : q[i]? = some (.ow bo x) := by rfl) : EA K (.var i) q (.ok x) := xa_own h
theorem e_var {bo : Bool} {x : D} (h : q[i]? = some (.sh bo x) := by rfl) : EB K (.var i) q (.ok x) := xb_var h
theorem e_con {x : D} : EB K (.con x) q (.ok x) := xb_con
theorem e_glo {z : Str} {x : D} : EB K (.glo z x) q (.ok x) := xb_glo
/-! operands at one frame -/
def SP (K : Calls) (es : Es) (q : Fm) (m : Mo (List D)) : Prop := Rl (evs K es q) m fun l rs q' => q' = q ∧ atAll q rs = some l
theorem sp_nil : SP K .nil q (.ok []) := by
  unfold SP
  rw [evs]
  exact Rl.ok ⟨rfl, rfl⟩
theorem sp_cons {r : Es} {ms : Mo (List D)} (h : EA K e q m) (hs : SP K r q ms) : SP K (.cons e r) q (m >>= fun x => ms >>= fun l => .ok (x :: l)) := by
  unfold SP
  rw [evs]
  refine Rl.bind h fun x r0 q' ⟨h1, h2⟩ => ?_
  have h1 : q' = q := h1
  subst h1
  refine Rl.bind hs fun l rs q2 ⟨h3, h4⟩ => ?_
  subst h3
  refine Rl.ok ⟨rfl, ?_⟩
  rw [atAll, RV.down_at _ h2, h4]
theorem sp_1 (h : EA K a q ma) : SP K (.cons a .nil) q (ma >>= fun x => .ok [x]) := sp_cons h sp_nil
theorem sp_2 (h : EA K a q ma) (h2 : EA K b q mb) : SP K (.cons a (.cons b .nil)) q (ma >>= fun x => mb >>= fun y => .ok [x, y]) := by
  have z := sp_cons h (sp_1 h2)
  have e : (ma >>= fun x => (mb >>= fun y => Mo.ok [y]) >>= fun l => .ok (x :: l)) = (ma >>= fun x => mb >>= fun y => .ok [x, y]) := by cases ma <;> cases mb <;> rfl
  rw [e] at z
  exact z
theorem prm_v {es : Es} {ms : Mo (List D)} (h : SP K es q ms) : EV K (.prm p es) q (ms >>= fun l => M.prm p l) := fun pk => by
  rw [ev]
  refine Rl.bind h fun l rs q' ⟨h1, h2⟩ => ?_
  subst h1
  unfold primR M.prm
  rw [h2]
  dsimp only
  cases e1 : evP p l with
  | none => trivial
  | some x =>
    obtain ⟨fl, d⟩ := x
    cases fl <;> (refine Rl.ok ?_; exact ⟨rfl, rfl⟩)
theorem v_p1 (h : EA K a q ma) : EV K (.prm p (.cons a .nil)) q (ma >>= fun x => M.prm p [x]) := by
  have z := prm_v (p := p) (sp_1 h); rw [bind_bind] at z; exact z
theorem bb2 {α β γ δ : Type} {m1 : Mo α} {m2 : Mo β} {g : α → β → γ} {h : γ → Mo δ} : ((m1 >>= fun x => m2 >>= fun y => Mo.ok (g x y)) >>= h) = m1 >>= fun x => m2 >>= fun y => h (g x y) := by cases m1 <;> cases m2 <;> rfl
theorem v_p2 (h : EA K a q ma) (h2 : EA K b q mb) : EV K (.prm p (.cons a (.cons b .nil))) q (ma >>= fun x => mb >>= fun y => M.prm p [x, y]) := by
  have z := prm_v (p := p) (sp_2 h h2); rw [bb2] at z; exact z
/-! displays -/
theorem as_nil : AsP K .nil q (.ok []) := xas_nil
theorem as_one {r : As} {ms : Mo (List D)} (h : EV K e q m) (hr : AsP K r q ms) : AsP K (.one e r) q (m >>= fun x => ms >>= fun l => .ok (x :: l)) := xas_one (V3 := Il) (F3 := Fc q) (fun x l => x :: l) h fun _ => hr
theorem bo {α : Type} (m : Mo α) {β : Type} (f : α → Mo β) : (m >>= fun a => f a >>= fun d => Mo.ok d) = m >>= f := by cases m <;> simp [bind_ok]
theorem e_tup {es : As} {ms : Mo (List D)} (h : AsP K es q ms) : EB K (.tup es) q (ms >>= tupM) := fun pk => by
  rw [ev]
  refine Rl.bind h fun a ds q' ⟨h1, h2⟩ => ?_
  subst h1 h2
  unfold tupM
  by_cases hl : ds.length ≤ sizeLine
  · rw [if_pos hl, if_pos hl]
    refine Rl.ok ?_; exact ⟨rfl, rfl⟩
  · rw [if_neg hl, if_neg hl]
    trivial
theorem e_lst {es : As} {ms : Mo (List D)} (h : AsP K es q ms) : EN K (.lst es) q (ms >>= lstM) := by
  have z := xn_lst (V3 := I1) (F3 := Fc q) (fun _ d => d) h
  rw [bo] at z
  exact z
/-! tests -/
theorem t_val (h : EA K e q m) : TP K (.val e) q (m >>= tru) := by
  have z := xt_val (V3 := Ib) (F3 := Fc q) (fun _ d => d) h
  rw [bo] at z
  exact z
theorem t_not {mt : Mo Bool} (h : TP K t q mt) : TP K (.not t) q (mt >>= fun c => .ok (!c)) := M.xt_not (V3 := Ib) (F3 := Fc q) (fun c => !c) h
theorem t_all {mt mt' : Mo Bool} (h : TP K t q mt) (h2 : TP K t' q mt') : TP K (.all t t') q (mt >>= fun c => if c then mt' else .ok false) := M.xt_all (n := fun _ => false) (V3 := Ib) (F3 := Fc q) (k := fun _ => mt') (V := Ib) h (fun _ => h2) (hV := fun _ => rfl)
theorem t_any {mt mt' : Mo Bool} (h : TP K t q mt) (h2 : TP K t' q mt') : TP K (.any t t') q (mt >>= fun c => if c then .ok true else mt') := M.xt_any (n := fun _ => true) (V3 := Ib) (F3 := Fc q) (k := fun _ => mt') (V := Ib) h (fun _ => h2) (hV := fun _ => rfl)
/-! choices -/
theorem v_ife {mt : Mo Bool} (h : TP K t q mt) (ha : EV K a q ma) (hb : EV K b q mb) : EV K (.ife t a b) q (mt >>= fun c => if c then ma else mb) := xv_ife h (fun _ => ha) (fun _ => hb)
/-! methods of texts -/
def isS : D → Mo Unit
  | .str _ => .ok ()
  | _ => .bad
/-! calls -/
theorem gp_nil : GP K .nil q (.ok []) := xg_nil
theorem gp_cons {r : Gs} {ms : Mo (List D)} (h : EV K e q m) (hr : GP K r q ms) : GP K (.v e r) q (m >>= fun x => ms >>= fun l => .ok (x :: l)) := by
  have z := xg_v (g := fun (x : D) (l : List D) => x :: l) (V3 := fun l : List D => l.map Ga.v) (F3 := Fc q) (V2 := fun _ (l : List D) => l.map Ga.v) (F2 := fun _ => Fc q) (k := fun _ => ms) h (fun _ => hr) (fun _ _ => rfl) (fun _ _ => rfl)
  exact z
theorem lent_v (q : Fm) : ∀ ds : List D, lent q (ds.map Ga.v) = some (ds.map (Slot.sh false))
  | [] => rfl
  | d :: ds => by rw [List.map_cons, lent, lent_v q ds]; rfl
theorem lx_v : ∀ ds : List D, lentIx (ds.map Ga.v) = []
  | [] => rfl
  | d :: ds => by rw [List.map_cons, lentIx, lx_v ds]
theorem gb_v : ∀ (ds : List D) (l q : Fm), giveBack (ds.map Ga.v) l q = q
  | [], l, q => by cases l <;> rfl
  | d :: ds, [], q => rfl
  | d :: ds, s :: l, q => by rw [List.map_cons, giveBack]; exact gb_v ds l q
theorem call_b {gs : Gs} {ms : Mo (List D)} {mf : List D → Mo D} (h : GP K gs q ms) (hf : ∀ l, FP K f l (mf l)) : EB K (.call f gs) q (ms >>= mf) := by
  have z := xb_call (f := f) (V := fun l : List D => l.map Ga.v) (F := Fc q) (as := fun l => l.map (Slot.sh false)) (V3 := I1) (F3 := Fc q) (fun _ d => d) h hf (fun a => lent_v q a) (fun a => by rw [lx_v]; exact List.nodup_nil) (fun a b q' _ => gb_v a q' q)
  rw [bo] at z
  exact z
theorem call_n {gs : Gs} {ms : Mo (List D)} {mf : List D → Mo D} (h : GP K gs q ms) (hf : ∀ l, FPN K f l (mf l)) : EN K (.call f gs) q (ms >>= mf) := by
  have z := xn_call (f := f) (V := fun l : List D => l.map Ga.v) (F := Fc q) (as := fun l => l.map (Slot.sh false)) (V3 := I1) (F3 := Fc q) (fun _ d => d) h hf (fun a => lent_v q a) (fun a => by rw [lx_v]; exact List.nodup_nil) (fun a b q' _ => gb_v a q' q)
  rw [bo] at z
  exact z
/-- the number of arguments written -/
def on1 {α : Type} (g : D → Mo α) : List D → Mo α
  | [x] => g x
  | _ => .bad
def on2 {α : Type} (g : D → D → Mo α) : List D → Mo α
  | [x, y] => g x y
  | _ => .bad
section
variable {R : List D → Mo D → Prop} (hb : ∀ l, R l .bad)
theorem on1_ok {α : Type} {R : List D → Mo α → Prop} {g : D → Mo α} (hb : ∀ l, R l .bad) (h : ∀ x, R [x] (g x)) : ∀ l, R l (on1 g l)
  | [x] => h x
  | [] => hb _
  | _ :: _ :: _ => hb _
theorem on2_ok {α : Type} {R : List D → Mo α → Prop} {g : D → D → Mo α} (hb : ∀ l, R l .bad) (h : ∀ x y, R [x, y] (g x y)) : ∀ l, R l (on2 g l)
  | [x, y] => h x y
  | [] => hb _
  | [_] => hb _
  | _ :: _ :: _ :: _ => hb _
end
section
variable {md me : Mo D}
theorem c1_b {g : D → Mo D} (h1 : EV K a q ma) (hf : ∀ x, FP K f [x] (g x)) : EB K (.call f (.v a .nil)) q (ma >>= g) := by
  have z := call_b (gp_cons h1 gp_nil) (on1_ok (R := fun l m => FP K f l m) (fun _ => trivial) hf)
  cases ma <;> exact z
theorem c2_b {g : D → D → Mo D} (h1 : EV K a q ma) (h2 : EV K b q mb) (hf : ∀ x y, FP K f [x, y] (g x y)) : EB K (.call f (.v a (.v b .nil))) q (ma >>= fun x => mb >>= fun y => g x y) := by
  have z := call_b (gp_cons h1 (gp_cons h2 gp_nil)) (on2_ok (R := fun l m => FP K f l m) (fun _ => trivial) hf)
  cases ma <;> cases mb <;> exact z
theorem c2_n {g : D → D → Mo D} (h1 : EV K a q ma) (h2 : EV K b q mb) (hf : ∀ x y, FPN K f [x, y] (g x y)) : EN K (.call f (.v a (.v b .nil))) q (ma >>= fun x => mb >>= fun y => g x y) := by
  have z := call_n (gp_cons h1 (gp_cons h2 gp_nil)) (on2_ok (R := fun l m => FPN K f l m) (fun _ => trivial) hf)
  cases ma <;> cases mb <;> exact z
end
/-! walks -/
theorem i_seq (h : EV K e q m) : IP K (.seq e) q (m >>= itemsM) := by
  have z := xi_seq (V3 := Il) (F3 := Fc q) (fun _ l => l) h
  rw [bo] at z
  exact z
theorem i_rng1 (h : EV K a q ma) : IP K (.rng1 a) q (ma >>= fun x => optM (rng1F [x])) := by
  have z := xi_rng1 (V3 := Il) (F3 := Fc q) (fun _ l => l) h
  rw [bo] at z
  exact z
/-! comprehensions -/
theorem e_lcM {vs : List Nat} {g : LV} {it : I} {Q0 : Fm} {mi : Mo (List D)} {fm : D → Mo D} (hi : IP K it q mi) (st : ∀ d, Tn1 K vs g e q Q0 d (fm d)) (hn : noOw vs q = true := by rfl) (hw : wipeF vs q = Q0 := by rfl) (hb : backF vs q q = q := by rfl) :
    EN K (.lc vs g it .yes e) q (mi >>= fun l => mapL fm l >>= fun l => .ok (.lst l)) := xn_lcM (V3 := I1) (F3 := Fc q) (Fi := Fc q) (Vi := Il) (Q0 := Fc Q0) (f := fun _ => fm) (fun _ l => .lst l) hi (fun _ => st) (fun _ => hn) (fun _ => hw) (fun _ => hb)
end
end M

set_option Elab.async false
set_option linter.all false
set_option maxRecDepth 100000
set_option maxHeartbeats 1000000
/-! C6: comprehensions with two `for`; short forms of frames. -/
namespace M
open PySem
structure CFr2 (vs vs1 : List Nat) (Q Q0 Q1 q : Fm) : Prop where
  w1 : wipeF vs1 q = Q1
  n : noOw vs q = true
  w : wipeF vs q = Q0
  b : backF vs Q q = Q
section
variable {K : Calls} {q : Fm} {e : E} {t : T} {τ τ1 : Type}
end
end M

set_option Elab.async false
set_option linter.all false
set_option maxRecDepth 100000
set_option maxHeartbeats 1000000
/-! C7: calls that draw. -/
namespace M
open PySem
theorem lv {a b n : Nat} (h : Nat.ble a b = true) (k : b ≤ n) : a ≤ n := Nat.le_trans (Nat.le_of_ble_eq_true h) k
/-- a def that writes into its first list -/
abbrev FLb (K : Calls) (f : Nat) (bo : Bool) (p : D) (l : List D) (m : Mo (D × D)) : Prop := FV K f (.ow bo p :: l.map (Slot.sh false)) m (fun y => y.1) fun y q' => bo = true → q' = .ow true y.2 :: List.replicate l.length .no
section
variable {K : Calls} {q : Fm} {e a b c d : E} {p : P} {m ma mb mc : Mo D} {t t' : T} {i f k : Nat} {σ : Type}
theorem gb_rep : ∀ (l : List D) (q : Fm), giveBack (l.map Ga.v) (List.replicate l.length .no) q = q
  | [], q => rfl
  | d :: l, q => by rw [List.map_cons, List.length_cons, List.replicate_succ, giveBack]; exact gb_rep l q
theorem callL {bo : Bool} {x : D} {gs : Gs} {ms : Mo (List D)} {mf : List D → Mo (D × D)} {F : D → Fm} (hq : q[i]? = some (.ow bo x)) (h : GP K gs q ms) (hf : ∀ l, FLb K f true x l (mf l)) (hF : ∀ y, q.set i (.ow bo y) = F y) :
    XB K (.call f (.b i gs)) q (ms >>= mf) (fun z => z.1) (fun z => F z.2) := by
  have hg : XG K (.b i gs) q (ms >>= fun l => .ok l) (fun l : List D => Ga.b i :: l.map Ga.v) (Fc q) := xg_b (g := fun l => l) (V2 := fun l : List D => l.map Ga.v) (F2 := Fc q) hq h (fun _ => rfl) (fun _ => rfl)
  have z := xb_call (f := f) (V := fun l : List D => Ga.b i :: l.map Ga.v) (F := Fc q) (as := fun l => .ow true x :: l.map (Slot.sh false)) (V3 := fun z : D × D => z.1) (F3 := fun z => F z.2) (fun _ y => y) hg hf
    (fun l => by rw [lent, hq, lent_v]) (fun l => by rw [lentIx, lx_v]; exact List.nodup_cons.2 ⟨by simp, List.nodup_nil⟩) (fun l y q' hB => by
      rw [hB rfl]
      show giveBack (Ga.b i :: l.map Ga.v) (Slot.ow true y.2 :: List.replicate l.length .no) q = _
      rw [giveBack, gb_rep]
      have : q.getD i .no = .ow bo x := by rw [List.getD_eq_getElem?_getD, hq]; rfl
      rw [this]
      exact hF y.2)
  have e1 : ((ms >>= fun l => Mo.ok l) >>= fun a => mf a >>= fun b => Mo.ok b) = ms >>= mf := by
    cases ms with
    | ok l => show (mf l >>= fun b => Mo.ok b) = mf l; rw [bind_okD]
    | _ => rfl
  rw [e1] at z
  exact z
theorem cL0 {bo : Bool} {x : D} {mf : Mo (D × D)} {F : D → Fm} (hf : FLb K f true x [] mf) (hq : q[i]? = some (.ow bo x) := by rfl) (hF : ∀ y, q.set i (.ow bo y) = F y := by intros; rfl) : XB K (.call f (.b i .nil)) q mf (fun z => z.1) (fun z => F z.2) :=
  callL (mf := fun l => match l with | [] => mf | _ => .bad) hq gp_nil (fun l => by cases l with | nil => exact hf | cons _ _ => trivial) hF
theorem cL1 {bo : Bool} {x : D} {g : D → Mo (D × D)} {F : D → Fm} (h1 : EV K a q ma) (hf : ∀ y, FLb K f true x [y] (g y)) (hq : q[i]? = some (.ow bo x) := by rfl) (hF : ∀ y, q.set i (.ow bo y) = F y := by intros; rfl) : XB K (.call f (.b i (.v a .nil))) q (ma >>= g) (fun z => z.1) (fun z => F z.2) := by
  have z := callL (mf := on1 g) hq (gp_cons h1 gp_nil) (on1_ok (R := fun l m => FLb K f true x l m) (fun _ => trivial) hf) hF
  cases ma <;> exact z
/-- arguments that draw -/
theorem callI {gs : Gs} {ms : Mo (List D × σ)} {mf : List D → Mo D} {F : σ → Fm} (h : XG K gs q ms (fun z => z.1.map Ga.v) (fun z => F z.2)) (hf : ∀ l, FP K f l (mf l)) : XB K (.call f gs) q (ms >>= fun a => mf a.1 >>= fun d => .ok (d, a.2)) (fun z => z.1) (fun z => F z.2) :=
  xb_call (f := f) (V := fun z : List D × σ => z.1.map Ga.v) (F := fun z => F z.2) (as := fun z => z.1.map (Slot.sh false)) (mf := fun z => mf z.1) (V3 := fun z : D × σ => z.1) (F3 := fun z => F z.2) (fun a d => (d, a.2)) h (fun z => hf z.1) (fun z => lent_v _ _) (fun z => by rw [lx_v]; exact List.nodup_nil) (fun a b q' _ => gb_v _ _ _)
/-- a new list handed to a def that writes into it -/
theorem c_O {g : D → Mo (D × D)} (h : EN K e q m) (hf : ∀ x, FLb K f false x [] (g x)) : EB K (.callO f e) q (m >>= fun x => g x >>= fun y => .ok y.1) := xb_callO (V3 := I1) (F3 := Fc q) (fun _ y => y.1) h hf
end
end M

set_option Elab.async false
set_option linter.all false
set_option maxRecDepth 100000
set_option maxHeartbeats 1000000
/-! C8: the rules for statements, over a statement that is not unfolded (printed by mkc8.py). -/
namespace M
open PySem
structure SQ {γ : Type} (K : Calls) (s : Ss) (ks : List Ss) (q : Fm) (m : Mo γ) (P : γ → SRes → Prop) : Prop where
  r : SR K s ks q m P
structure MQ (K : Calls) (e : E) (s : Ss) (q : Fm) (m : Mo (List D)) : Prop where
  r : MR K e s q m
section
variable {α β γ δ τ ρ : Type} {K : Calls} {q q1 : Fm} {e a b c : E} {p : P} {r s sa sb : Ss} {ks : List Ss} {P : γ → SRes → Prop}
theorem sq_nil {m : Mo γ} (h : SQ K r ks q m P) : SQ K .nil (r :: ks) q m P := ⟨sr_nil (h := h.r)⟩
theorem sq_end {g : γ} (h : P g (.nx q)) : SQ K .nil [] q (.ok g) P := ⟨sr_end (h := h)⟩
theorem sq_kil {is : List Nat} {m : Mo γ} (h : SQ K r ks q1 m P) (e : wipeF is q = q1 := by rfl) : SQ K (.cons (.kil is) r) ks q m P := ⟨sr_kil (h := h.r) (e := e)⟩
theorem sq_set {i : Nat} {m : Mo α} {V : α → D} {F F' : α → Fm} {k : α → Mo γ} (h : XV K e q m V F) (hr : ∀ a, SQ K r ks (F' a) (k a) P) (hi : ∀ a, fr1 (F a) i = true := by intros; rfl) (hF : ∀ a, (F a).set i (.sh false (V a)) = F' a := by intros; rfl) : SQ K (.cons (.asgS (.nm i) e) r) ks q (m >>= k) P := ⟨sr_set (h := h) (hr := fun a => (hr a).r) (hi := hi) (hF := hF)⟩
theorem sq_tgt {l : LV} {m : Mo α} {V : α → D} {F : α → Fm} {pt : α → Mo τ} {Ft : α → τ → Fm} {k : α → τ → Mo γ} (h : XV K e q m V F) (hl : ∀ a, XTg K l (V a) (F a) (pt a) (Ft a)) (hr : ∀ a t, SQ K r ks (Ft a t) (k a t) P) : SQ K (.cons (.asgS l e) r) ks q (m >>= fun a => pt a >>= fun t => k a t) P := ⟨sr_tgt (h := h) (hl := hl) (hr := fun a t => (hr a t).r)⟩
theorem sq_retS {m : Mo α} {V : α → D} {F : α → Fm} (g : α → γ) (h : XV K e q m V F) (hP : ∀ a, P (g a) (.ret (.val (V a)) (F a))) : SQ K (.cons (.retS e) r) ks q (m >>= fun a => .ok (g a)) P := ⟨sr_retS (g := g) (h := h) (hP := hP)⟩
theorem sq_retP {m : Mo γ} {V : γ → D} {F : γ → Fm} (h : XV K e q m V F) (hP : ∀ a, P a (.ret (.val (V a)) (F a))) : SQ K (.cons (.retS e) r) ks q m P := ⟨sr_retP (h := h) (hP := hP)⟩
theorem sq_retWP {m : Mo γ} {V : γ → D} {F : γ → Fm} (h : XN K e q m V F) (hP : ∀ a, P a (.ret (.new (V a)) (F a))) : SQ K (.cons (.ret e) r) ks q m P := ⟨sr_retWP (h := h) (hP := hP)⟩
theorem sq_if {t : T} {m : Mo α} {V : α → Bool} {F : α → Fm} {ka kb : α → Mo γ} (h : XT K t q m V F) (ha : ∀ x, SQ K sa (r :: ks) (F x) (ka x) P) (hb : ∀ x, SQ K sb (r :: ks) (F x) (kb x) P) : SQ K (.cons (.ift t sa sb) r) ks q (m >>= fun x => if V x then ka x else kb x) P := ⟨sr_if (h := h) (ha := fun x => (ha x).r) (hb := fun x => (hb x).r)⟩
theorem sq_for {it : I} {l : LV} {mi : Mo α} {Vi : α → List D} {Fi : α → Fm} {F : β → Fm} {pt : β → D → Mo τ} {Ft : β → τ → Fm} {st : β → τ → Mo (Fl β ρ)} {R : ρ → SRes → Prop} {k : β → Mo γ} (b0 : α → β) (rt : ρ → γ)
    (hi : XI K it q mi Vi Fi) (ht : ∀ s d, XTg K l d (F s) (pt s d) (Ft s)) (hb : ∀ s t, SQ K sa [] (Ft s t) (st s t) (PB F R)) (hr : ∀ s, SQ K r ks (F s) (k s) P) (hP : ∀ x y, R x y → IsRet y → P (rt x) y) (hF : ∀ a, Fi a = F (b0 a) := by intros; rfl) :
    SQ K (.cons (.for l it sa) r) ks q (mi >>= fun a => foldB (fun s d => pt s d >>= fun t => st s t) (b0 a) (Vi a) >>= fun x => Fl.on x k fun x => .ok (rt x)) P := ⟨sr_for (b0 := b0) (rt := rt) (hi := hi) (ht := ht) (hb := fun s t => (hb s t).r) (hr := fun s => (hr s).r) (hP := hP) (hF := hF)⟩
theorem sq_forN {it : I} {l : LV} {mi : Mo α} {Vi : α → List D} {Fi : α → Fm} {F : β → Fm} {pt : β → D → Mo τ} {Ft : β → τ → Fm} {st : β → τ → Mo β} {k : β → Mo γ} (b0 : α → β)
    (hi : XI K it q mi Vi Fi) (ht : ∀ s d, XTg K l d (F s) (pt s d) (Ft s)) (hb : ∀ s t, SQ K sa [] (Ft s t) (st s t) (PNc F)) (hr : ∀ s, SQ K r ks (F s) (k s) P) (hF : ∀ a, Fi a = F (b0 a) := by intros; rfl) :
    SQ K (.cons (.for l it sa) r) ks q (mi >>= fun a => foldN (fun s d => pt s d >>= fun t => st s t) (b0 a) (Vi a) >>= k) P := ⟨sr_forN (b0 := b0) (hi := hi) (ht := ht) (hb := fun s t => (hb s t).r) (hr := fun s => (hr s).r) (hF := hF)⟩
end
end M

set_option Elab.async false
set_option linter.all false
set_option maxRecDepth 100000
set_option maxHeartbeats 1000000
/-! C9: calls with names, f-strings. -/
namespace M
open PySem
section
variable {K : Calls} {q : Fm} {e a b c d : E} {p : P} {m ma mb mc : Mo D} {f k : Nat} {pm : List Nat}
end
end M

set_option Elab.async false
set_option linter.all false
set_option maxRecDepth 100000
set_option maxHeartbeats 1000000
/-! C10: sorted(list, key=a def), as a plain function. -/
namespace M
open PySem
section
variable {K : Calls} {q : Fm} {e : E} {m : Mo D} {f : Nat}
end
end M

set_option Elab.async false
set_option linter.all false
set_option maxRecDepth 100000
set_option maxHeartbeats 1000000
/-! C11: xs[k] op= e; near_zeros' cuts. -/
namespace M
open PySem
section
variable {α β γ δ τ ρ : Type} {K : Calls} {q q1 : Fm} {e k : E} {p : P} {r s sa sb : Ss} {ks : List Ss} {P : γ → SRes → Prop}
end
end M

set_option Elab.async false
set_option linter.all false
set_option maxRecDepth 100000
set_option maxHeartbeats 4000000
/-! G14: sorted(ints), sorted(set(ints)). -/
namespace M
open PySem L2 PyProof.Rows PySem.Spec
/-! ### sorted lists of ints -/
/-! ### set(a list of ints) -/
section
variable {Z : Zc} {H : Hp} {R : Pr} {x : V} {Q : VK}
end
section
variable {W : Wo} {X : Cx} {ex : XK} {n : Nat} {pos p1 p2 p3 : Pos} {a : Expr} {A : E}
end
end M

set_option Elab.async false
set_option linter.all false
set_option maxRecDepth 100000
set_option maxHeartbeats 4000000
/-! G15: xs[k] op= e. -/
namespace M
open PySem L2 PyProof.Rows PySem.Spec
section
variable {Z : Zc} {K : Calls} {ex : XK} {σ : Sg} {H : Hp} {D : Ends}
end
section
variable {W : Wo} {X : Cx} {ex : XK} {n : Nat} {pos p1 p2 : Pos} {a b : Expr} {A B : E} {x : Str}
end
end M

set_option Elab.async false
set_option linter.all false
set_option maxRecDepth 100000
set_option maxHeartbeats 4000000
/-! G16: near_zeros' cuts: a dict whose keys are put in order. -/
namespace M
open PySem L2 PyProof.Rows PySem.Spec
/-- the keys of a dict, ints, each once -/
structure KeyI (kv : List (Key × V)) (ks : List Int) : Prop where
  ky : kv.map (·.1) = ks.map Sum.inl
  nd : ks.Nodup
theorem KeyI.len {kv : List (Key × V)} {ks : List Int} (h : KeyI kv ks) : kv.length = ks.length := by
  have := congrArg List.length h.ky
  simpa using this
def putI (ks : List Int) (z : Int) : List Int := if z ∈ ks then ks else ks ++ [z]
theorem putI_mem {ks : List Int} {z x : Int} : x ∈ putI ks z ↔ x ∈ ks ∨ x = z := by
  unfold putI; split
  · rename_i h
    constructor
    · exact .inl
    · rintro (k | rfl)
      · exact k
      · exact h
  · simp
theorem putI_len (ks : List Int) (z : Int) : (putI ks z).length ≤ ks.length + 1 := by unfold putI; split <;> simp
theorem KeyI.put {kv : List (Key × V)} {ks : List Int} (h : KeyI kv ks) (z : Int) (v : V) : KeyI (putK kv (Sum.inl z) v) (putI ks z) := by
  have e : (kv.any fun p => decide (p.1 = Sum.inl z)) = decide (z ∈ ks) := by
    rw [Bool.eq_iff_iff, List.any_eq_true, decide_eq_true_eq]
    constructor
    · rintro ⟨p, hp, hz⟩
      have h1 : p.1 ∈ kv.map (·.1) := List.mem_map.mpr ⟨p, hp, rfl⟩
      rw [h.ky, of_decide_eq_true hz] at h1
      simpa using h1
    · intro hz
      have h1 : (Sum.inl z : Key) ∈ kv.map (·.1) := by rw [h.ky]; exact List.mem_map.mpr ⟨z, hz, rfl⟩
      obtain ⟨p, hp, he⟩ := List.mem_map.mp h1
      exact ⟨p, hp, decide_eq_true he⟩
  unfold putK putI
  rw [e]
  by_cases hz : z ∈ ks
  · rw [if_pos (by simpa using hz), if_pos hz]
    refine ⟨?_, h.nd⟩
    rw [← h.ky, List.map_map]
    refine List.map_congr_left fun p _ => ?_
    simp only [Function.comp]
    split <;> rfl
  · rw [if_neg (by simpa using hz), if_neg hz]
    refine ⟨by simp [h.ky], ?_⟩
    exact List.nodup_append.2 ⟨h.nd, by simp, fun a ha b hb => by
      simp only [List.mem_singleton] at hb
      subst hb
      intro e; subst e; exact hz ha⟩
section
variable {Z : Zc} {K : Calls} {ex : XK} {R0 R1 : Pr} {σ : Sg} {q : Fm} {H : Hp} {D : Ends}
end
/-- the loop's state -/
def nzJ (Hc : Hp) (p : Addr) (b : Int) (l : List Int) (i : Nat) (H : Hp) : Prop := ∃ kv ks, KeyI kv ks ∧ H = upd Hc p (.dK kv) ∧ ks.length ≤ 2 + 2 * i ∧ ∀ x, x ∈ ks ↔ x = -b ∨ x = b ∨ x ∈ (l.take i).flatMap fun a => [a, a + 1]
theorem nzJ.next {Hc H : Hp} {p : Addr} {b : Int} {l : List Int} {i : Nat} {z : Int} (h : nzJ Hc p b l i H) (hz : l[i]? = some z) (hi : i < 1000) : ∃ H1 H2, DPut H p (V.int z) (V.bl true) H1 ∧ DPut H1 p (V.int (z + 1)) (V.bl true) H2 ∧ nzJ Hc p b l (i + 1) H2 := by
  obtain ⟨kv, ks, hk, rfl, hl, hm⟩ := h
  have k1 := hk.put z (V.bl true)
  have k2 := k1.put (z + 1) (V.bl true)
  have l1 := putI_len ks z
  have l2 := putI_len (putI ks z) (z + 1)
  have s1 : kv.length < sizeLine := by rw [hk.len, sizeLine_eq]; omega
  have s2 : (putK kv (Sum.inl z) (V.bl true)).length < sizeLine := by rw [k1.len, sizeLine_eq]; omega
  refine ⟨_, _, DPut.k (k := Sum.inl z) upd_same s1, DPut.k (k := Sum.inl (z + 1)) upd_same s2, _, _, k2, ?_, by omega, fun x => ?_⟩
  · rw [upd_upd, upd_upd]
  · rw [putI_mem, putI_mem, hm x, List.take_add_one, hz]
    simp only [Option.toList_some, List.flatMap_append, List.flatMap_cons, List.flatMap_nil, List.append_nil, List.mem_append, List.mem_cons, List.not_mem_nil, or_false]
    generalize (x ∈ List.flatMap (fun a => [a, a + 1]) (List.take i l)) = P0
    constructor
    · rintro (((h | h | h) | h) | h)
      · exact .inl h
      · exact .inr (.inl h)
      · exact .inr (.inr (.inl h))
      · exact .inr (.inr (.inr (.inl h)))
      · exact .inr (.inr (.inr (.inr h)))
    · rintro (h | h | h | h | h)
      · exact .inl (.inl (.inl h))
      · exact .inl (.inl (.inr (.inl h)))
      · exact .inl (.inl (.inr (.inr h)))
      · exact .inl (.inr h)
      · exact .inr h
section
variable {Z : Zc} {K : Calls} {ex : XK} {σ : Sg} {H : Hp} {D : Ends}
end
end M

set_option Elab.async false
set_option linter.all false
set_option maxRecDepth 100000
set_option maxHeartbeats 4000000
/-! G17: near_zeros' cuts: the tree's reading. -/
namespace M
open PySem L2 PyProof.Rows PySem.Spec
section
variable {Z : Zc} {K : Calls} {ex : XK} {σ : Sg} {H : Hp} {Dn : Ends}
end
section
variable {W : Wo} {X : Cx} {ex : XK} {n : Nat} {q1 q2 q3 q4 q5 q6 : Pos} {a : Expr} {A : E} {st1 st2 st3 : Stmt} {sb : List Stmt} {tb : Ss}
end
end M

set_option Elab.async false
set_option linter.all false
set_option maxRecDepth 100000
set_option maxHeartbeats 4000000
/-! G18: near_zeros' three statements. -/
namespace M
open PySem L2 PyProof.Rows PySem.Spec
section
variable {W : Wo} {X : Cx} {ex : XK} {n : Nat} {pos u1 u2 u3 u4 u5 u6 u7 u8 u9 u10 u11 u12 u13 u14 : Pos} {a : Expr} {A : E} {cuts found at_ bound : Str} {j1 j2 j3 k1 k2 : Nat}
end
end M

set_option Elab.async false
set_option linter.all false
set_option maxRecDepth 100000
set_option maxHeartbeats 4000000
/-! X1: exceptions as values: isinstance, fields; count, index, == (). -/
namespace M
open PySem L2 PyProof.Rows SlX
theorem exO_at {P : Program} {w : World} {H : Hp} {h : Heap} {a : Addr} {cls : Value} {d : Option Addr} (ok : HOk P w H h) (e : H a = some (ExO a cls d)) : ∃ (oe : Obj) (vs : Array Value), h.get? a = some oe ∧ L2.Zc cls d oe ∧ oe.data = .fields vs := by
  have x : ObjOk P w H h a (.ext fun h => ∃ (oe : Obj) (vs : Array Value), h.get? a = some oe ∧ L2.Zc cls d oe ∧ oe.data = .fields vs) := ok a _ e
  exact x.1
section
variable {X : Cx} {pins : List (Addr × Obj)} {σ : Sg} {H : Hp} {s : Shared} {a D dx : Addr} {d : Option Addr} {fs : List (Str × V)}
theorem inst_dict (I : Inv X pins σ H s) (ha : H a = some (ExO a (.ref D) (some dx))) (hd : H dx = some (.xd fs)) :
    ∃ (ox od : Obj) (mA : Str → Option Value), PySem.W.InstAt s.heap a ox D (some od) ∧ (∀ name, PySem.W.lookIn name od = some (mA name)) ∧ ∀ f, RelO (fs.lookup f) (mA f) := by
  obtain ⟨oe, vs, ho, hz, hdat⟩ := exO_at I.hok ha
  have hx : ObjOk X.prog X.w H s.heap dx (.xd fs) := I.hok dx _ hd
  obtain ⟨mA, hns, hr⟩ := hx
  obtain ⟨od, h1, h2⟩ := lookIn_ns hns
  exact ⟨oe, od, mA, ⟨ho, hz.1, by unfold PySem.W.notCls; rw [hdat] <;> rfl, by rw [hz.2]; exact h1⟩, h2, hr⟩
theorem inst_none (I : Inv X pins σ H s) (ha : H a = some (ExO a (.ref D) none)) : ∃ ox : Obj, PySem.W.InstAt s.heap a ox D none := by
  obtain ⟨oe, vs, ho, hz, hdat⟩ := exO_at I.hok ha
  exact ⟨oe, ⟨ho, hz.1, by unfold PySem.W.notCls; rw [hdat] <;> rfl, by rw [hz.2]; trivial⟩⟩
/-- an exception of the class at D stands at a -/
def ExcAt (H : Hp) (a D : Addr) : Prop := H a = some (ExO a (.ref D) none) ∨ ∃ dx fs, H a = some (ExO a (.ref D) (some dx)) ∧ H dx = some (.xd fs)
def rIsiX (K : PySem.W.Frag) (u : Value) : List V → Hp → VK → Prop := fun xs H Q => ∃ (a D : Addr) (c : V) (b : Bool), xs = [.ref a, c] ∧ (∀ w, L2.RelV c w → w = u) ∧ ExcAt H a D ∧ L2.ExcC K D ∧ PySem.W.kitOne K (.ref D) u = some b ∧ Q (.bl b) H
theorem call_isiX (u : Value) : CallR X (.builtin "isinstance") (rIsiX X.K u) := by
  intro pins s σ H xs us Q I r h
  obtain ⟨a, D, c, b, rfl, one, ha, C, hk, q⟩ := h
  obtain ⟨u1, u2, rfl, r1, r2⟩ := r.two
  cases (show u1 = Value.ref a from r1)
  cases one _ r2
  have hcl : (PySem.W.clsIn X.K D).isSome = true := by
    obtain ⟨cd, hc, _⟩ := PySem.W.any_some C.hd
    rw [hc]; rfl
  have fin : ∀ {ox : Obj} {od : Option Obj}, PySem.W.InstAt s.heap a ox D od → wpAny (model X.prog X.w) X.A (call (.builtin "isinstance") [.ref a, u]) (EP X pins σ Q) X.xe s := fun {ox od} J =>
    PySem.W.kia_one (PySem.W.kitx_exc hcl C.hg C.hk C.hs C.ha C.hn C.ht C.hm) I.kIn J hk (fun z => nomatch z) fun tk => ⟨.bl b, H, I.tok _, rfl, q⟩
  rcases ha with ha | ⟨dx, fs, ha, hd⟩
  · obtain ⟨ox, J⟩ := inst_none I ha
    exact fin J
  · obtain ⟨ox, od, mA, J, _⟩ := inst_dict I ha hd
    exact fin J
end
theorem rep_exn {Z : Zc} {H : Hp} {R : Pr} {v : V} {c : Nat} {fs : List D} (h : RepP Z H R v (.exn c fs)) : Z.nc ≤ c ∧ c < Z.nx ∧ ∃ a, v = .ref a ∧ ExcAt H a (Z.C c) ∧
    (fs = [] ∨ ∃ dx xs, H a = some (ExO a (.ref (Z.C c)) (some dx)) ∧ H dx = some (.xd ((Z.xf c).zip xs)) ∧ RepL Z H R xs fs) := by
  rcases h with h | ⟨_, _, _, e, _⟩
  · cases h with
    | exn c1 c2 h1 h2 n1 n2 b => exact ⟨c1, c2, _, rfl, .inr ⟨_, _, h1, h2⟩, .inr ⟨_, _, h1, h2, b⟩⟩
    | exn0 c1 c2 h1 n1 => exact ⟨c1, c2, _, rfl, .inl h1, .inl rfl⟩
  · cases e
/-- the classes of exceptions, as isinstance asks them -/
def Xo (Z : Zc) : Prop := ∀ c, Z.nc ≤ c → c < Z.nx → L2.ExcC Z.K (Z.C c)
def Xk (Z : Zc) (u : Value) (l : List Nat) : Prop := ∀ c, Z.nc ≤ c → c < Z.nx → PySem.W.kitOne Z.K (.ref (Z.C c)) u = some (l.contains c)
theorem pr_isX {Z : Zc} {l : List Nat} {u : Value} {c : V} (xo : Xo Z) (xk : Xk Z u l) (one : ∀ w, L2.RelV c w → w = u) {x : V} {H : Hp} {Q : VK} (h : PrimPost Z (.isX l) [x] H Q) : rIsiX Z.K u [x, c] H Q := by
  obtain ⟨R, ds, ht, rq, nw, d, e, k⟩ := h
  obtain ⟨d0, rfl, rp⟩ := repPs1 rq
  cases d0 with
  | exn c0 fs =>
    cases e
    obtain ⟨c1, c2, a, rfl, h1, _⟩ := rep_exn rp
    exact ⟨a, _, c, _, rfl, one, h1, xo c0 c1 c2, xk c0 c1 c2, k _ H (Same.refl H) (.bl _)⟩
  | _ => cases e
section
variable {W : Wo} {X : Cx} {ex : XK} {n k : Nat} {pos p1 p2 p3 p4 : Pos} {a b c : Expr} {A B C : E} {x : Str} {es : List Expr}
theorem me_isX {l : List Nat} {CT : Addr} {T : Str} (g : Gd W n X ex) (xo : Xo W.Z) (xk : Xk W.Z (.ref CT) l) (hm : W.mg "isinstance" = none) (hm2 : W.mg T = some (.ref CT)) (ha : ME W X ex a A) (hg : Gl X "isinstance" := by rfl) (hg2 : Gl X T := by rfl)
    (hd : (T == ("__debug__" : Str)) = false := by decide) (he : starEach [a, .Name T p2] X.env = (false, eval a X.env) :: starEach [.Name T p2] X.env := by rfl) : ME W X ex (.Call (.Name "isinstance" p1) [a, .Name T p2] [] pos) (.prm (.isX l) (.cons A .nil)) := fun pk =>
  (pe_callB (call_isiX (.ref CT)) hg (by rw [g.hm]; exact hm) boot_isinstance (pa_cons (ha true) (pa_cons (pe_glob (v := .ref CT) hg2 (by rw [g.hm]; exact hm2) rfl hd) pa_nil) he) (he := he)).imp fun s H Q h => (tEs1 (tE_prm h)).mono fun y H1 z => by
    rw [g.hK]; exact pr_isX (c := .ref CT) xo xk (fun w z => z) z
theorem me_isXb {l : List Nat} {t : String} {T : Str} (g : Gd W n X ex) (xo : Xo W.Z) (xk : Xk W.Z (.type t) l) (hv : bootBuiltins T = some (.type t)) (hm : W.mg "isinstance" = none) (hm2 : W.mg T = none) (ha : ME W X ex a A) (hg : Gl X "isinstance" := by rfl) (hg2 : Gl X T := by rfl) (hn : T ≠ "__name__" := by decide)
    (hd : (T == ("__debug__" : Str)) = false := by decide) (he : starEach [a, .Name T p2] X.env = (false, eval a X.env) :: starEach [.Name T p2] X.env := by rfl) : ME W X ex (.Call (.Name "isinstance" p1) [a, .Name T p2] [] pos) (.prm (.isX l) (.cons A .nil)) := fun pk =>
  (pe_callB (call_isiX (.type t)) hg (by rw [g.hm]; exact hm) boot_isinstance (pa_cons (ha true) (pa_cons (pe_bltn (v := .ty t) hg2 (by rw [g.hm]; exact hm2) hv rfl hn hd) pa_nil) he) (he := he)).imp fun s H Q h => (tEs1 (tE_prm h)).mono fun y H1 z => by
    rw [g.hK]; exact pr_isX (c := .ty t) xo xk (fun w z => z) z
/-! e.f, e an exception -/
def tXfT (K : PySem.W.Frag) (f : Str) (te : TE) : TE := fun σ H Q => te σ H fun x H1 => ∃ (a D dx : Addr) (fs : List (Str × V)) (v : V), x = .ref a ∧ H1 a = some (ExO a (.ref D) (some dx)) ∧ H1 dx = some (.xd fs) ∧ fs.lookup f = some v ∧ L2.ExcC K D ∧ PySem.W.findIn K (.ref D) f = some none ∧ Q v H1
theorem pe_xfT {e : Expr} {te : TE} {f : Str} (he : PE X e te) (hb : attributeBase e f X.env (eval e X.env) = eval e X.env := by rfl) : PE X (.Attribute e f pos) (tXfT X.K f te) := by
  refine ⟨fun pins s σ H Q I h => attr_of hb (thn (he.run pins s σ H _ I h) fun u s1 hh => ?_)⟩
  obtain ⟨x, H1, I1, rx, a, D, dx, fs, v, ex, ha, hd, l, T, hno, q⟩ := hh
  subst ex
  obtain rfl : u = Value.ref a := rx
  obtain ⟨ox, od, mA, J, hl, hr⟩ := inst_dict I1 ha hd
  obtain ⟨u, hu, ru⟩ := RelO.some_of (v := v) (o := mA f) (by rw [← l]; exact hr f)
  exact HandSPX.exc_get I1.kIn J T.hg T.hk T.hs (PySem.W.findObj_own T.hd hno rfl (by rw [hl, hu])) (handed_of ru) ⟨v, H1, I1.tok _, ru, q⟩
/-- the classes of the list have the field f, it alone -/
def Xf (Z : Zc) (f : Str) (l : List Nat) : Prop := ∀ c, l.contains c = true → Z.xf c = [f] ∧ PySem.W.findIn Z.K (.ref (Z.C c)) f = some none
theorem me_fldX {l : List Nat} {f : Str} (g : Gd W n X ex) (xo : Xo W.Z) (xf : Xf W.Z f l) (ha : ME W X ex a A) (hb : attributeBase a f X.env (eval a X.env) = eval a X.env := by rfl) : ME W X ex (.Attribute a f pos) (.prm (.fldX l) (.cons A .nil)) := fun pk =>
  (pe_xfT (ha true) hb).imp fun s H Q h => (tEs1 (tE_prm h)).mono fun y H1 z => by
    rw [g.hK]
    obtain ⟨R, ds, ht, rq, nw, d, e, k⟩ := z
    obtain ⟨d0, rfl, rp⟩ := repPs1 rq
    cases d0 with
    | exn c0 fs =>
      have e : (if l.contains c0 then (match fs with | [d] => some (false, d) | _ => none) else none) = some (nw, d) := e
      cases hc : l.contains c0 with
      | false => rw [hc] at e; cases e
      | true =>
        rw [hc] at e
        obtain ⟨c1, c2, a', rfl, _, h⟩ := rep_exn rp
        obtain ⟨f1, f2⟩ := xf c0 hc
        match fs, e with
        | [d1], e =>
          cases e
          rcases h with h | ⟨dx, xs, h1, h2, h3⟩
          · cases h
          · rw [f1] at h2
            cases h3 with
            | @cons v vs _ _ r1 r2 =>
              cases r2
              exact ⟨a', _, dx, _, v, rfl, h1, h2, by simp [List.lookup], xo c0 c1 c2, f2, k _ H1 (Same.refl _) r1⟩
    | _ => cases e
end
/-! l.count(True), l.index(True), t == (), t != () -/
section
variable {X : Cx}
end
section
variable {W : Wo} {X : Cx} {ex : XK} {n k : Nat} {pos p1 p2 p3 p4 apos : Pos} {a b c : Expr} {A B C : E} {x : Str} {es : List Expr}
end
end M

set_option Elab.async false
set_option linter.all false
set_option maxRecDepth 100000
set_option maxHeartbeats 4000000
/-! X1g: own exception classes over ValueError, LookupError or ArithmeticError (the rules of the library for ValueError, for each of the three). -/
namespace M
open PySem L2 PyProof.Rows SlX
inductive Fam | ve | le | ae
def Fam.nam : Fam → String
  | .ve => "ValueError"
  | .le => "LookupError"
  | .ae => "ArithmeticError"
def Fam.new : Fam → String
  | .ve => "ValueError.__new__"
  | .le => "LookupError.__new__"
  | .ae => "ArithmeticError.__new__"
def Fam.ini : Fam → String
  | .ve => "ValueError.__init__"
  | .le => "LookupError.__init__"
  | .ae => "ArithmeticError.__init__"
def Fam.tail : Fam → List Value
  | .ve => [.type "ValueError", .type "Exception", .type "BaseException", .type "object"]
  | .le => [.type "LookupError", .type "Exception", .type "BaseException", .type "object"]
  | .ae => [.type "ArithmeticError", .type "Exception", .type "BaseException", .type "object"]
theorem Fam.base : ∀ fm : Fam, ExcBaseFacts fm.nam fm.new fm.ini fm.tail
  | .ve => F.excBase_ValueError
  | .le => F.excBase_LookupError
  | .ae => F.excBase_ArithmeticError
def OwnT (tl : List Value) : Prop := ∀ c r, tl ≠ Value.ref c :: r
theorem Fam.tail_own : ∀ fm : Fam, OwnT fm.tail
  | .ve => fun c r h => by cases h
  | .le => fun c r h => by cases h
  | .ae => fun c r h => by cases h
theorem Fam.tail_ne : ∀ fm : Fam, fm.tail ≠ []
  | .ve => fun h => by cases h
  | .le => fun h => by cases h
  | .ae => fun h => by cases h
theorem Fam.tail_ob : ∀ fm : Fam, fm.tail.contains (.type "object") = true
  | .ve => by decide +kernel
  | .le => by decide +kernel
  | .ae => by decide +kernel
theorem Fam.tail_pass : ∀ (fm : Fam) (self : Value), refuseLoop self "__setattr__" fm.tail = pure ()
  | .ve, self => F.store_ValueError.passes self
  | .le, self => F.store_LookupError.passes self
  | .ae, self => F.store_ArithmeticError.passes self
/-- own classes, then a family's -/
def refsT (tl : List Value) : List Value → Bool
  | .ref _ :: r => refsT tl r
  | l => l == tl
theorem refsT_cases {tl : List Value} : ∀ l : List Value, refsT tl l = true → (∃ c r, l = .ref c :: r ∧ refsT tl r = true) ∨ l = tl
  | [], e => .inr (beq_iff_eq.mp e)
  | .ref c :: r, e => .inl ⟨c, r, rfl, e⟩
  | .none :: _, e => .inr (beq_iff_eq.mp e)
  | .ellipsis :: _, e => .inr (beq_iff_eq.mp e)
  | .notImplemented :: _, e => .inr (beq_iff_eq.mp e)
  | .bool _ :: _, e => .inr (beq_iff_eq.mp e)
  | .int _ _ :: _, e => .inr (beq_iff_eq.mp e)
  | .float _ _ :: _, e => .inr (beq_iff_eq.mp e)
  | .str _ _ :: _, e => .inr (beq_iff_eq.mp e)
  | .bytes _ _ :: _, e => .inr (beq_iff_eq.mp e)
  | .type _ :: _, e => .inr (beq_iff_eq.mp e)
  | .builtin _ :: _, e => .inr (beq_iff_eq.mp e)
theorem refsT_pass {tl : List Value} (_ : OwnT tl) (hp : ∀ self : Value, refuseLoop self "__setattr__" tl = pure ()) (self : Value) : ∀ l : List Value, refsT tl l = true → refuseLoop self "__setattr__" l = pure () := by
  intro l
  induction l with
  | nil =>
    intro e
    rcases refsT_cases [] e with ⟨c, r', q, h⟩ | q
    · cases q
    · rw [q]; exact hp self
  | cons a r ih =>
    intro e
    rcases refsT_cases (a :: r) e with ⟨c, r', q, h⟩ | q
    · obtain ⟨rfl, rfl⟩ := List.cons.inj q
      rw [refuseLoop_ref]; exact ih h
    · rw [q]; exact hp self
theorem refsT_contains {tl : List Value} (_ : OwnT tl) (X : String) : ∀ l : List Value, refsT tl l = true → l.contains (.type X) = tl.contains (.type X) := by
  intro l
  induction l with
  | nil =>
    intro e
    rcases refsT_cases [] e with ⟨c, r', q, h⟩ | q
    · cases q
    · rw [q]
  | cons a r ih =>
    intro e
    rcases refsT_cases (a :: r) e with ⟨c, r', q, h⟩ | q
    · obtain ⟨rfl, rfl⟩ := List.cons.inj q
      rw [List.contains_cons, ih h]; rfl
    · rw [q]
theorem refsT_ne {tl l : List Value} (h0 : tl ≠ []) (e : refsT tl l = true) : l.isEmpty = false := by
  cases l with
  | nil =>
    rcases refsT_cases [] e with ⟨c, r', q, h⟩ | q
    · cases q
    · exact absurd q.symm h0
  | cons _ _ => rfl
structure OexG (K : PySem.W.Frag) (C : Addr) : Prop where
  cls : ∃ (fm : Fam), ∃ nm q N bs bm sn sub ab col dd k0 k1 k2 k3 k5, K.lookup C = some (excClassObj nm q C N bs bm true sn sub ab col dd k0 k1 k2 k3 k5 fm.new) ∧ refsT fm.tail bm = true
  sa : PySem.W.findIn K (.ref C) "__setattr__" = some (some (.builtin "object.__setattr__"))
  exC : PySem.W.subIn K (.ref C) (.type "BaseException") = some true
  tyC : PySem.W.typeIn K (.ref C) = some (.type "type")
  kC : PySem.W.keepIn K (.ref C) = true
section
open Builtin Builtin.ObjectAttr PySem.HandSPX
variable {prog : Program} {w : World} {A : Around} {E : Value → Shared → Prop} {R : Result → Shared → Prop} {hp : Heap} {g : Array GenState} {d : Drawn} {t : Nat} {os : OsState}
theorem exc_osaG {fm : Fam} {K : W.Frag} {name : Str} {tk : Tok} {v : Value} {x C : Addr} {fv : Array Value} {cd : ClassData}
    (X : K.In hp) (hx : hp.get? x = some { cls := .ref C, data := .fields fv }) (hcd : W.clsIn K C = some cd) (hm : refsT fm.tail cd.mro = true) (hh : cd.hasDict = true) (ha : W.findIn K (.ref C) name = some none)
    (hq : ∀ h' tk' dx, (∀ b o, b ≠ x → hp.get? b = some o → h'.get? b = some o) → hp.objs.size ≤ dx → dx ≠ x → h'.get? x = some { cls := .ref C, dict := some dx, data := .fields fv } →
      h'.Ns1 dx (fun y => if y = name then some v else none) → R (.ok (.ret .none)) ⟨h', g, d, tk', os⟩) :
    codeAny (model prog w) A (.call (.builtin "object.__setattr__") ⟨[.ref x, .str name tk, v], []⟩) R ⟨hp, g, d, t, os⟩ := by
  have I : W.InstAt hp x { cls := .ref C, data := .fields fv } C none := ⟨hx, rfl, rfl, trivial⟩
  have SF := F.store_object
  have ne := refsT_ne fm.tail_ne hm
  have hob : cd.mro.contains (.type "object") = true := (refsT_contains fm.tail_own "object" _ hm).trans fm.tail_ob
  have hxs : x ≠ hp.objs.size := Nat.ne_of_lt (Heap.lt_size hx)
  have sub : W.Looks (model prog w) hp (isInstance (.ref x) (.type "object")) true := I.type.andThen (W.looks_mroIn X (by unfold W.mroIn; rw [hcd, Option.bind_some, if_neg (by rw [ne]; decide), hob]))
  refine codeAny_call_builtin SF.slot.plain SF.entry (@W.check_slot (model prog w) _ _ ⟨hp, g, d, t, os⟩ "object.__setattr__" "object" "__setattr__" (.ref x) [.str name tk, v] [] _ SF.kind SF.split sub (SF.args (.ref x) (.str name tk) v) ?_)
  have hmr : W.Looks (model prog w) hp (mroOf (.ref C)) cd.mro := (W.looks_clsIn X hcd).andThen .now
  have L3 : W.Looks (model prog w) hp (storeTaker? none) none := .now
  have hcls : W.Looks (model prog w) hp (classData C) cd := W.looks_clsIn X hcd
  rw [W.osa_eq, refuse_eq]
  refine wpAny_bind (wpAny_bind (I.type.at (wpAny_bind (hmr.at ?_))))
  rw [refsT_pass fm.tail_own fm.tail_pass _ _ hm]
  refine wpAny_pure (wpAny_bind (I.type.at (wpAny_bind ((W.looks_findIn X ha).at (wpAny_bind (L3.at ?_))))))
  show wpAny _ _ (storeInOwnDict (.ref x) (.ref C) (.str name tk) name v false) _ _ _
  obtain ⟨nm, bs, mro, ns, qn, hd, sn, sb, ab, col, del⟩ := cd
  dsimp only at hh
  subst hh
  unfold storeInOwnDict ownDictForStores
  repeat (first | with_reducible refine store_in_new ?_ ?_ | with_reducible refine wpAny_loadPart_at hx ?_ | with_reducible refine hcls.at ?_ | wp_step)
  · exact ⟨_, #[], _, (Heap.get?_update_ne _ _ _ _ hxs.symm).trans (Heap.get?_push_at rfl rfl), rfl, fun e he => absurd he (by simp), fun _ => rfl⟩
  · intro h' tk' hn' hs
    have hx₁ : (hp.push { cls := .type "dict", data := .dict #[] }).get? x = some { cls := .ref C, data := .fields fv } := Heap.get?_push_of_some _ hx
    refine hq h' tk' hp.objs.size (fun b o hb ho => ?_) (Nat.le_refl _) hxs.symm ?_ hn'
    · exact (hs.2 b (Nat.ne_of_lt (Heap.lt_size ho))).trans ((Heap.get?_update_ne _ _ _ _ hb).trans (Heap.get?_push_of_some _ ho))
    · exact (hs.2 x hxs).trans (Heap.get?_update_self _ hx₁ rfl)
end
section
variable {X : Cx} {pins : List (Addr × Obj)} {σ : Sg} {H : Hp} {s : Shared} {a C dx : Addr} {f : Str} {y : V} {u : Value} {fs : List (Str × V)} {Q : Unit → Shared → Prop} {E : Value → Shared → Prop} {A : Around}
/-- self.f = y, the first one -/
theorem ost_newG (T : OexG X.K C) (I : Inv X pins σ H s) (e : H a = some (exo a C none)) (hno : PySem.W.findIn X.K (.ref C) f = some none) (ry : RelV y u)
    (h : ∀ dx s', H dx = none → dx ≠ a → Inv X pins σ (upd (upd H dx (exd dx [(f, y)])) a (exo a C (some dx))) s' → Q () s') : wpAny (model X.prog X.w) A (setAttr (.ref a) f u) Q E s := by
  obtain ⟨fm, nm, q, N, bs, bm, sn, sub, ab, col, dd, k0, k1, k2, k3, k5, hC, hbm⟩ := T.cls
  have hcl : PySem.W.clsIn X.K C = some { name := nm, bases := bs, mro := .ref C :: bm, ns := N, qualname := q, hasDict := true, slotNames := sn, subclasses := sub, abstract := ab, collection := col, hasDel := false } := by unfold PySem.W.clsIn; rw [hC] <;> rfl
  obtain ⟨t1, ho⟩ := exo_at I.hok e
  obtain ⟨hp, g, d, t, os⟩ := s
  refine PySem.W.set_plain I.kIn (ox := { cls := .ref C, dict := none, data := .fields #[.ref t1, .none, .none, .none, .bool false, .none] }) (od := none) ⟨ho, rfl, rfl, trivial⟩ T.sa ?_
  refine exc_osaG (fm := fm) I.kIn ho hcl (show refsT fm.tail (.ref C :: bm) = true from hbm) rfl hno (fun h' tk' dx k dn dne hx hn => ?_)
  have hnd : H dx = none := I.hok.fresh dn
  have nd : ∀ {b : Addr} {o : Obj}, hp.get? b = some o → b ≠ dx := fun {b o} q => Nat.ne_of_lt (Nat.lt_of_lt_of_le (Heap.lt_size q) dn)
  have na : ∀ {b : Addr}, H b = none → b ≠ a := fun {b} n z => by
    rw [z, e] at n
    cases n
  have Un1 : Un X.fs [] H (upd (upd H dx (exd dx [(f, y)])) a (exo a C (some dx))) hp h' := {
    keep := fun b o q n _ _ => k b o (na n) q
    slot := fun b o q n _ _ => ⟨o.slots, k b o (na n) q⟩
    free := fun b o q n _ => by rw [upd_ne (na n), upd_ne (nd q)]; exact n
    there := fun b o q _ => by
      by_cases hb : b = a
      · exact ⟨_, by rw [hb]; exact hx⟩
      · exact ⟨o, k b o hb q⟩
    tups := fun b xs q => by rw [upd_ne (at_ne e q exo_tup), upd_ne (ne_of_none q hnd)]; exact q
    frzs := fun b o v q => by rw [upd_ne (at_ne e q exo_frz), upd_ne (ne_of_none q hnd)]; exact q
    tbls := fun b ps q => ⟨#[], by rw [upd_ne (at_ne e q exo_tbl), upd_ne (ne_of_none q hnd), q]; simp⟩ }
  refine h dx _ hnd dne (I.un (t' := tk') Un1 fun b o q => ?_)
  by_cases hb : b = a
  · subst hb
    rw [upd_same] at q
    cases q
    exact exo_ok hx
  · rw [upd_ne hb] at q
    by_cases hd : b = dx
    · subst hd
      rw [upd_same] at q
      cases q
      exact exd_ok hn (relO_put (fs := []) ry fun g => True.intro)
    · rw [upd_ne hd] at q
      exact (I.hok b o q).stay (fun c v hc z => k c v (by
          rcases hc with hc | hc
          · rw [hc]
            exact hb
          · exact at_ne e hc exo_own) z)
        (fun c hc => by rw [upd_ne (at_ne e hc exo_own), upd_ne (ne_of_none hc hnd)]; exact hc) (fun c xs hc => by rw [upd_ne (at_ne e hc exo_tup), upd_ne (ne_of_none hc hnd)]; exact hc)
end
/-- self.f = e -/
def tOstG (K : PySem.W.Frag) (f : Str) (to te : TE) : TS := fun D σ H => te σ H fun y H1 => to σ H1 fun x H2 => ∃ a C : Addr, x = .ref a ∧ OexG K C ∧ PySem.W.findIn K (.ref C) f = some none ∧
  (H2 a = some (exo a C none) ∧ ∀ dx, H2 dx = none → dx ≠ a → D.nx σ (upd (upd H2 dx (exd dx [(f, y)])) a (exo a C (some dx))))
section
variable {X : Cx} {o e : Expr} {es : List Expr} {to te : TE} {ta : TA} {f : Str} {p p' p1 p2 pos : Pos}
theorem ps_ostG (ho : PE X o to) (he : PE X e te) (hs : swapsWith e (some (.Attribute o f p')) pos.line X.env = pure false := by rfl) : PS X (.Assign [.Attribute o f p'] e pos) (tOstG X.K f to te) := by
  refine ⟨fun pins s σ H D I h => ?_⟩
  refine plainObj_wpAny_Assign_Attribute (thn (he.run pins s σ H _ I h) fun v s1 ⟨y, H1, I1, r1, q1⟩ => thn (ho.run pins s1 σ H1 _ I1 q1) fun u s2 ⟨x, H2, I2, r2, a, C, ex, T, hno, q⟩ => ?_) hs
  subst ex
  obtain rfl : u = Value.ref a := r2
  obtain ⟨ea, q⟩ := q
  exact ost_newG T I2 ea hno r1 fun dx s' n ne J => ⟨σ, _, J, q dx n ne⟩
theorem pmk_oexG {CX : CXT} {x : Str} {C fI : Addr} {k : Nat} {fd : FuncData} {ps : List Str} {sp : Sp} {ds : List Value} {dvs : List V} (T : OexG X.K C) (iC : PySem.W.findIn X.K (.ref C) "__init__" = some (some (.ref fI))) (tI : PySem.W.typeIn X.K (.ref fI) = some (.type "function"))
    (F1 : FnOk X.prog X.w X.K X.mg X.base CX k fI fd ps sp) (hr : Room (k + 1) X.A) (hb : Binds X.K fd ps ds) (hd : Vals dvs ds) (hx : Passes CX X (fun _ _ _ => False)) (hg : Gl X x) (hm : X.mg x = some (.ref C)) (ha : PA X (e :: es) ta)
    (hdb : (x == ("__debug__" : Str)) = false := by decide) (he : starEach (e :: es) X.env = (false, eval e X.env) :: starEach es X.env := by rfl) (hpl : (backTo pos (starEach es X.env)).any (·.1) = false := by rfl) :
    PMk X (.Call (.Name x p) (e :: es) [] pos) (tMkO C sp dvs ta) := by
  intro pins s σ H Q I h
  obtain ⟨fm, nm, q, N, bs, bm, sn, sub, ab, col, dd, k0, k1, k2, k3, k5, hC, hbm⟩ := T.cls
  refine wpAny_Call_Name_kw (ld_glob I hg hm ?_ hdb)
  refine PySem.W.callWith_K (h₀ := X.base) I.ok.mod.kin T.kC (thn (ha.run pos pins s σ H _ I h) fun us s1 ⟨vs, H1, I1, r1, hz, q1⟩ => ⟨I1.kIn, ?_⟩) he hpl
  show wpAny _ _ (call (.ref C) us) _ _ _
  obtain ⟨hp, g, dr, tk, os⟩ := s1
  have hsz : hp.objs.size ≤ hp.objs.size + 1 := Nat.le_succ _
  have hn : H1 (hp.objs.size + 1) = none := I1.hok.fresh hsz
  have hq := q1 (hp.objs.size + 1) hn
  have kk : ∀ b o, hp.get? b = some o → ((hp.push (PySem.W.kdv_tup us)).push (PySem.HandSPX.excO C hp.objs.size)).get? b = some o := fun b o e => Heap.get?_push_of_some _ (Heap.get?_push_of_some _ e)
  have hget : ((hp.push (PySem.W.kdv_tup us)).push (PySem.HandSPX.excO C hp.objs.size)).get? (hp.objs.size + 1) = some (PySem.HandSPX.excO C hp.objs.size) := by heap_get
  have I2 : Inv X pins σ (upd H1 (hp.objs.size + 1) (exo (hp.objs.size + 1) C none)) ⟨(hp.push (PySem.W.kdv_tup us)).push (PySem.HandSPX.excO C hp.objs.size), g, dr, tk, os⟩ :=
    I1.laid (t' := tk) (a := hp.objs.size + 1) (o := exo (hp.objs.size + 1) C none) (h' := (hp.push (PySem.W.kdv_tup us)).push (PySem.HandSPX.excO C hp.objs.size)) kk hsz (exo_ok hget)
  have r2 : Vals (V.ref (hp.objs.size + 1) :: (vs ++ dvs)) (Value.ref (hp.objs.size + 1) :: (us ++ ds)) := .cons rfl (r1.append hd)
  have hl : (Value.ref (hp.objs.size + 1) :: us ++ ds).length = ps.length := by
    have e := r2.length
    rw [F1.len _ _ _ _ hq] at e
    exact e.symm
  have hus : us.length ≤ sizeLine := by
    rw [← Paired.length r1, sizeLine_eq]
    omega
  refine wpAny_call (PySem.HandSPX.call_own fm.base (fun Y => refsT_contains fm.tail_own Y bm hbm) (I1.kIn _ _ hC) (PySem.W.looks_findIn I1.kIn iC) (fun self => PySem.W.bind_fn I1.kIn self tI) hus
    (codeAny_mono (F1.run _ X.stack _ _ ⟨Value.ref (hp.objs.size + 1) :: us, []⟩ (Value.ref (hp.objs.size + 1) :: (us ++ ds)) _ _ (fun _ _ _ => False) (hr.make C us []) (I2.env0.make C us []) (hb _ (Value.ref (hp.objs.size + 1) :: us) I2.kIn hl) r2 hq) fun r s' hq' => ?_))
  cases r with
  | error er => exact hx pins σ _ _ er s' I2 hq'
  | ok fl =>
    cases fl with
    | ret u =>
      obtain ⟨v, H2, os2, bare2, un2, hok2, rv, ev, d, fs, ea, ed, hd1, q2⟩ := hq'
      subst ev
      obtain ⟨h2, g2, d2, t2, os'⟩ := s'
      exact ⟨rv, mk_end (raises_own T.exC T.tyC) I1 hsz kk un2 hok2 os2 bare2 ea ed hd1 q2⟩
    | next => exact False.elim hq'
    | brk => exact False.elim hq'
    | cont => exact False.elim hq'
end
end M

set_option Elab.async false
set_option linter.all false
set_option maxRecDepth 100000
set_option maxHeartbeats 4000000
/-! X2: raise C(e), C a class of the program over ValueError, its __init__ stores one field. -/
namespace M
open PySem L2 PyProof.Rows SlX
/-- __init__(self, f): self.f = f -/
def spI (K : PySem.W.Frag) (f : Str) : Sp := fun vs H Q _ => ∃ (a C : Addr) (v : V), vs = [.ref a, v] ∧ H a = some (exo a C none) ∧ OexG K C ∧ PySem.W.findIn K (.ref C) f = some none ∧
  ∀ dx, H dx = none → dx ≠ a → Q .non (upd (upd H dx (exd dx [(f, v)])) a (exo a C (some dx)))
theorem xinit_ok {P : Program} {w : World} {K : PySem.W.Frag} {mg : Str → Option Value} {base : Heap} {f qual : Str} {st : Stmt} {fI : Addr} {fd : FuncData} {p1 p2 p3 p4 : Pos} (F : L2.Fun K "__init__" qual st fI fd) (S : FnScope ["self", f] ["self", f] (defScope st))
    (hB : defBody st = [.Assign [.Attribute (.Name "self" p1) f p2] (.Name f p3) p4]) (h1 : (f == ("__debug__" : Str)) = false) (h2 : (f == ("__classdict__" : Str)) = false) : FnOk P w K mg base CX0 1 fI fd ["self", f] (spI K f) := by
  have vis : ∀ y : Str, y ∈ (["self", f] : List Str) → Vis (defScope st) y := fun y hy => (S.par y hy).elim .inl fun z => .inr (.inl z)
  refine F.ok S (fun vs H Q E h => ?_) (fun cdv A outer s H vs Q E hr h => ⟨_, by rw [hB]; exact (pss_one (ps_ostG (pe_var (i := 0) rfl (vis _ (by simp)) (by decide) (by decide)) (pe_var (i := 1) rfl (vis _ (by simp)) h1 h2) (by rfl))).nox, ?_⟩)
  · obtain ⟨a, C, v, rfl, _⟩ := h
    rfl
  · obtain ⟨a, C, v, rfl, ha, T, no, q⟩ := h
    exact ⟨v, rfl, .ref a, rfl, a, C, rfl, T, no, ha, fun dx n ne => q dx n ne⟩
/-- a class of exceptions that is raised with one value -/
structure Xd (W : Wo) (x : Str) (c : Nat) (f : Str) : Prop where
  nc : W.Z.nc ≤ c
  nx : c < W.Z.nx
  xf : W.Z.xf c = [f]
  gC : W.mg x = some (.ref (W.Z.C c))
  T : OexG W.Z.K (W.Z.C c)
  no : PySem.W.findIn W.Z.K (.ref (W.Z.C c)) f = some none
  ex : ∃ fI fd, PySem.W.findIn W.Z.K (.ref (W.Z.C c)) "__init__" = some (some (.ref fI)) ∧ PySem.W.typeIn W.Z.K (.ref fI) = some (.type "function") ∧ FnOk W.P W.w W.Z.K W.mg W.base CX0 1 fI fd ["self", f] (spI W.Z.K f) ∧ L2.Binds W.Z.K fd ["self", f] []
section
variable {Z : Zc} {K : Calls} {ex : XK} {σ : Sg} {H : Hp} {D : Ends}
end
section
variable {W : Wo} {X : Cx} {ex : XK} {n : Nat} {p1 p2 p3 p4 pos : Pos} {a : Expr} {A : E} {x f : Str} {c : Nat}
end
end M

set_option Elab.async false
set_option linter.all false
set_option maxRecDepth 100000
set_option maxHeartbeats 4000000
/-! X3: try: .. except (C1, C2, C3) as e: suite, the exception known to the suite. -/
namespace M
open PySem L2 PyProof.Rows SlX PySem.Spec
/-- what the clause wishes of an exception of the body: it is one of its classes; the suite runs, the exception in slot i -/
def wTup (K : PySem.W.Frag) (n : Nat) (cs : List Value) (i : Nat) (ts : TS) (D : Ends) : WX := fun cls d σ H =>
  PySem.W.exmAny K cls cs = some true ∧ (σ.length = n → ∀ a, H a = none → ts { nx := fun σ' H' => D.nx (σ'.set i none) H', rt := D.rt, bk := fun σ' H' => D.bk (σ'.set i none) H', ct := fun σ' H' => D.ct (σ'.set i none) H' } (σ.set i (some (.ref a))) (upd H a (ExO a cls d)))
section
variable {X : Cx} {x1 x2 x3 n : Str} {c1 c2 c3 : Value} {i k : Nat} {body suite : List Stmt} {b0 : Stmt} {np q1 q2 q3 pos pos2 : Pos} {tb : WX → TS} {ts : TS}
end
end M

set_option Elab.async false
set_option linter.all false
set_option maxRecDepth 100000
set_option maxHeartbeats 4000000
/-! X4: a def called with a lambda: what is tracked stays so. -/
namespace M
open PySem L2 PyProof.Rows SlX PySem.Spec LamX
section
variable {X : Cx} {pins : List (Addr × Obj)} {σ : Sg} {H : Hp} {s : Shared}
/-- what stands behind the making of a lambda -/
structure LamNew (X : Cx) (pins : List (Addr × Obj)) (σ : Sg) (T : List (Addr × Str)) (H H1 : Hp) (s1 : Shared) (params : Arguments) (body : Expr) (scope : Scope) (f c1 : Addr) (pm ctv : Value) : Prop where
  inv : Inv X pins σ H1 s1
  ext : ExtN H H1
  tr : ∀ b, H b ≠ none → H1 b ≠ none
  tabs : Tabs T H1
  get : s1.heap.get? f = some (PySem.W.kla_obj "<lambda>" (X.env.qual ++ "<lambda>") params body scope (cloFrom X.env.cells scope.names []) pm c1 ctv)
  new : H1 f = none
  nofr : f ∉ frs X.stack
  code : H1 c1 = some (CodeO c1 (X.env.qual ++ "<lambda>"))
end
section
variable {X : Cx} {pins pn : List (Addr × Obj)} {σ : Sg} {H : Hp} {s : Shared} {CXg : CXT} {Eg E : XK} {Ng : List Str} {qg a : Str} {sg scope : Scope} {g f c1 : Addr} {cdg pm ctv : Value} {params : Arguments} {body : Expr} {k : Nat} {xe : Value → Shared → Prop} {V : WX} {tb : TE} {p1 p2 : Pos}
end
section
variable {X : Cx}
end
end M

set_option Elab.async false
set_option linter.all false
set_option maxRecDepth 100000
set_option maxHeartbeats 4000000
/-! X5: answer(lambda: e), answer a def that calls what it got and catches. -/
namespace M
open PySem L2 PyProof.Rows SlX PySem.Spec LamX
section
variable {Z : Zc} {R0 : Pr} {σ : Sg} {q : Fm} {H H' : Hp}
end
def endQ (Q : VK) : Ends := { nx := fun _ H' => Q .non H', rt := Q, bk := fun _ _ => False, ct := fun _ _ => False }
section
variable {Z : Zc} {K : Calls} {R0 : Pr} {σ : Sg} {q : Fm} {H : Hp} {Q : VK}
end
/-- behind the call of what it got: where the value goes -/
def setV (iv : Option Nat) (w : V) (σ : Sg) : Sg := match iv with
  | some i => σ.set i (some w)
  | none => σ
def endR (Z : Zc) (K : Calls) (ad : ADef) (Q : VK) : Ends := { endQ Q with nx := tSs Z K E0 ad.rest (endQ Q) }
def TTm (Z : Zc) (K : Calls) (ad : ADef) (cs : List Value) : (XK → Hp → VK → Prop) → Hp → VK → Prop := fun tl H Q =>
  (∀ E H Q Q', (∀ w H2, Q w H2 → Q' w H2) → tl E H Q → tl E H Q') ∧ tl (fun cls d H2 => ∀ s2 : Sg, wTup Z.K ad.nN cs ad.ie (tSs Z K E0 ad.suite) (endR Z K ad Q) cls d s2 H2) H (fun w H2 => ∀ s2 : Sg, s2.length = ad.nN → tSs Z K E0 ad.rest (endQ Q) (setV ad.iv w s2) H2)
/-- the classes that it catches are those of all exceptions -/
def Xc (Z : Zc) (cs : List Value) : Prop := ∀ c, Z.nc ≤ c → c < Z.nx → PySem.W.exmAny Z.K (.ref (Z.C c)) cs = some true
end M

set_option Elab.async false
set_option linter.all false
set_option maxRecDepth 100000
set_option maxHeartbeats 4000000
/-! X6: where an exception is handled: contexts, defs called there; defs whose code object is known. -/
namespace M
open PySem L2 PyProof.Rows SlX PySem.Spec LamX L2H
/-- a def's promise there; nothing is raised -/
def FnQ (P : Program) (w : World) (K : PySem.W.Frag) (mg : Str → Option Value) (base : Heap) (k : Nat) (f : Addr) (sp : Sp) : Prop := ∀ (A : Around) (below : List Env) (s0 : Shared) (H : Hp) (us : List Value) (vs : List V) (Q : VK), Qu A → RoomH k A → Env0 P w K mg base A below s0 H → Vals vs us → sp vs H Q E0 →
  codeAny (model P w) A (.call (.ref f) ⟨us, []⟩) (CR C8.CX0 below P w H s0 Q E0) s0
theorem FnQ.mono {P : Program} {w : World} {K : PySem.W.Frag} {mg : Str → Option Value} {base : Heap} {j k : Nat} {f : Addr} {sp : Sp} (F : FnQ P w K mg base j f sp) (h : j ≤ k) : FnQ P w K mg base k f sp := fun A b s0 H us vs Q q r => F A b s0 H us vs Q q (r.mono h)
section
variable {W : Wo} {N ps : List Str} {x qual : Str} {st : Stmt} {sc : Scope} {f : Addr} {cdv : Value} {A : Around} {outer : List Env} {s s1 : Shared} {H : Hp} {n : Nat} {us : List Value} {vs : List V}
end
section
variable {Z : Zc} {K K' : Calls} {fi : Nat} {d : FDef} {N ps : List Str} {sc : Scope} {vs : List V} {H : Hp} {Q : VK} {E : XK}
end
/-- a def called there -/
structure Fh (W : Wo) (k : Nat) (x : Str) (f : Nat) : Prop where
  ex : ∃ a, FnQ W.P W.w W.Z.K W.mg W.base k a (spF W.Z W.K f) ∧ W.mg x = some (.ref a) ∧ PySem.W.keepIn W.Z.K (.ref a) = true
section
variable {W : Wo} {X : Cx} {n k : Nat} {pos p1 : Pos} {x : Str} {e : Expr} {es : List Expr}
end
section
variable {W : Wo} {t : Tab} {j n f : Nat} {d : FDef} {N ps : List Str} {x qual : Str} {st : Stmt} {a : Addr}
end
end M

set_option Elab.async false
set_option linter.all false
set_option maxRecDepth 100000
set_option maxHeartbeats 4000000
/-! X7: x(lambda: e), x a def that calls what it got and catches. -/
namespace M
open PySem L2 PyProof.Rows SlX PySem.Spec LamX L2H
section
variable {W : Wo} {X : Cx} {ex : XK} {n m : Nat} {ad : ADef} {Ng : List Str} {x a q en x1 x2 x3 : Str} {sg : Scope} {ga : Addr} {cdg c1 c2 c3 : Value} {b0 : Stmt} {body1 suite rest : List Stmt} {p1 p2 q1 q2 q3 np pos pos2 : Pos} {kx : Nat}
end
/-- the def at ga that answers: what its call with a lambda asks -/
structure AdX (W : Wo) (K1 : Calls) (k : Nat) (x : Str) (A : Nat) (ad : ADef) (cs : List Value) (ga : Addr) (a : Str) (Ng : List Str) (pg : Arguments) (bg : List Stmt) (sg : Scope) (dV kV doc pm cdv ct oc : Value) (an od : Option Addr) (osl : Array (Option Value)) : Prop where
  ev : ∀ b d, W.K.an A b d = runA K1 ad b d
  xc : Xc W.Z cs
  iv : ∀ i, ad.iv = some i → i < ad.nN
  ie : ad.ie < ad.nN
  gx : W.mg x = some (.ref ga)
  kp : PySem.W.keepIn W.Z.K (.ref ga) = true
  lk : W.Z.K.lookup ga = some ⟨oc, od, .func (PySem.W.fnOf x x pg bg sg dV kV doc pm an cdv ct), osl⟩
  cd : PySem.W.codeIn W.Z.K cdv x = true
  bi : L2.Binds W.Z.K (PySem.W.fnOf x x pg bg sg dV kV doc pm an cdv ct) [a] []
  sc : FnScope Ng [a] sg
  h0 : Ng[0]? = some a
  vi : Vis sg a
  d1 : (x == ("__debug__" : Str)) = false
  d2 : (a == ("__debug__" : Str)) = false
  d3 : (a == ("__classdict__" : Str)) = false
  gi : ∀ {X : Cx} {ex : XK} {n : Nat}, Gd W n X ex → k + 1 ≤ n → ∀ q, GivesTo X Ng x sg ga cdv bg a q (TTm W.Z K1 ad cs)
structure Fa (W : Wo) (k : Nat) (x : Str) (A : Nat) : Prop where
  ex : (∀ b d, W.K.an A b d = .bad) ∨ ∃ K1 ad cs ga a Ng pg bg sg dV kV doc pm cdv ct oc an od osl, AdX W K1 k x A ad cs ga a Ng pg bg sg dV kV doc pm cdv ct oc an od osl
/-- a def whose lambdas' code is known -/
structure Lc (W : Wo) (qual : Str) (cdv : Value) : Prop where
  ex : ∃ c P, cdv = .ref c ∧ TabB W.base W.mg c P ∧ (P, qual ++ "<lambda>") ∈ W.Z.T ∧ ∀ p ∈ W.Z.T, p.1 = P → p.2 = qual ++ "<lambda>"
section
variable {W : Wo} {X : Cx} {ex : XK} {n k : Nat}
end
end M

set_option Elab.async false
set_option linter.all false
set_option maxRecDepth 100000
set_option maxHeartbeats 4000000
/-! X8: defs with lambdas, from level to level. -/
namespace M
open PySem L2 PyProof.Rows SlX PySem.Spec LamX L2H
section
variable {P : Program} {w : World} {K : PySem.W.Frag} {mg : Str → Option Value} {base : Heap} {CX : CXT} {k : Nat} {f : Addr} {fd : FuncData} {ps : List Str} {sp : Sp} {Cd : Value → Prop}
end
section
variable {W : Wo} {t : Tab} {j n f : Nat} {d : FDef} {N ps : List Str} {x qual : Str} {st : Stmt} {a : Addr} {Cd : Value → Prop}
end
end M

set_option Elab.async false
set_option linter.all false
set_option maxRecDepth 100000
set_option maxHeartbeats 4000000
/-! X9: dict displays; what is raised, what is answered: the plain side. -/
namespace M
open PySem L2 PyProof.Rows SlX PySem.Spec LamX
section
variable {Z : Zc} {K : Calls} {ex : XK} {σ : Sg} {H : Hp} {Q : VK} {pk : Bool}
theorem dct_of {kvs : List (Str × Int)} (h : tE Z K ex (.con (.dct kvs)) pk σ H Q) {p : Addr} (hp : H p = none) : Q (.ref p) (upd H p (dctH kvs)) := by
  obtain ⟨R0, q, f0, h⟩ := h
  have h : An Z ex R0 σ q H (PoV Z R0 σ H) Q (.ok (.val (.dct kvs)) q) := by
    have e : ev K (.con (.dct kvs)) pk q = .ok (.val (.dct kvs)) q := by rw [ev]
    rw [← e]; exact h
  have sm := same_upd (o := dctH kvs) hp
  refine h (.ref p) _ (Lat.same sm) (BK.refl _) ⟨f0.on sm (fun _ y => .inl y) fun b y => (Lat.same (R := fun _ => False) sm).tr b (f0.trk b y), .dct upd_same fun y => f0.rtT y hp⟩
end
section
variable {W : Wo} {X : Cx} {ex : XK} {pos p1 p2 : Pos} {i j : Nat} {k : Str} {z : Int}
theorem me_dct0 : ME W X ex (.Dict [] [] pos) (.con (.dct [])) := fun pk => pe_dnewK.imp fun σ H Q h p hp => dct_of h hp
theorem me_dct1 : ME W X ex (.Dict [some (.Constant (.str k) i p1)] [.Constant (.int z) j p2] pos) (.con (.dct [(k, z)])) := fun pk =>
  (pe_disp (pps_cons pe_str pe_int pps_nil) rfl rfl (by simp) (Nat.le_of_ble_eq_true rfl)).imp fun σ H Q h p hp => ⟨upd_same, [(Sum.inr k, .int z)], rfl, Nat.le_of_ble_eq_true rfl, by rw [upd_upd]; exact dct_of h hp⟩
end
/-! ### the plain side -/
section
variable {K : Calls} {q : Fm} {e : E} {r : Ss} {ks : List Ss} {γ : Type} {P : γ → SRes → Prop}
end
section
variable {t : Tab} {n A : Nat} {ad : ADef} {d : D} {m : Mo D}
end
/-! ### what the level's facts are made of -/
section
variable {W : Wo} {X : Cx} {ex : XK} {n k : Nat} {pos p1 p2 p3 p4 : Pos} {a : Expr} {A : E} {T : Str}
theorem me_isXn {l : List Nat} (g : Gd W n X ex) (xo : Xo W.Z) (S : ∃ CT, W.mg T = some (.ref CT) ∧ Xk W.Z (.ref CT) l) (hm : W.mg "isinstance" = none) (ha : ME W X ex a A) (hg : Gl X "isinstance" := by rfl) (hg2 : Gl X T := by rfl)
    (hd : (T == ("__debug__" : Str)) = false := by decide) (he : starEach [a, .Name T p2] X.env = (false, eval a X.env) :: starEach [.Name T p2] X.env := by rfl) : ME W X ex (.Call (.Name "isinstance" p1) [a, .Name T p2] [] pos) (.prm (.isX l) (.cons A .nil)) := by
  obtain ⟨CT, h1, h2⟩ := S
  exact me_isX g xo h2 hm h1 ha hg hg2 hd he
end
/-- a class of exceptions, as the text has it -/
structure Xi (K : PySem.W.Frag) (mg : Str → Option Value) (C : Addr) (x f qual : Str) (st : Stmt) : Prop where
  gC : mg x = some (.ref C)
  T : OexG K C
  no : PySem.W.findIn K (.ref C) f = some none
  ex : ∃ fI fd, PySem.W.findIn K (.ref C) "__init__" = some (some (.ref fI)) ∧ PySem.W.typeIn K (.ref fI) = some (.type "function") ∧ L2.Fun K "__init__" qual st fI fd ∧ Binds K fd ["self", f] []
theorem xd_of {W : Wo} {x f qual : Str} {st : Stmt} {c : Nat} {p1 p2 p3 p4 : Pos} (X : Xi W.Z.K W.mg (W.Z.C c) x f qual st) (S : FnScope ["self", f] ["self", f] (defScope st)) (hB : defBody st = [.Assign [.Attribute (.Name "self" p1) f p2] (.Name f p3) p4]) (nc : W.Z.nc ≤ c) (nx : c < W.Z.nx) (xf : W.Z.xf c = [f])
    (h1 : (f == ("__debug__" : Str)) = false := by decide) (h2 : (f == ("__classdict__" : Str)) = false := by decide) : Xd W x c f := by
  obtain ⟨fI, fd, i1, i2, F, hb⟩ := X.ex
  exact ⟨nc, nx, xf, X.gC, X.T, X.no, fI, fd, i1, i2, xinit_ok F S hB h1 h2, hb⟩
section
variable {W : Wo} {X : Cx} {ex : XK} {n : Nat} {pos p2 : Pos} {a : Expr} {A : E}
end
end M

set_option Elab.async false
set_option linter.all false
set_option maxRecDepth 100000
set_option maxHeartbeats 1000000
/-! E1: l == [], l != []. -/
namespace M
open PySem L2 PyProof.Rows SlX
section
variable {X : Cx}
end
section
variable {W : Wo} {X : Cx} {ex : XK} {n : Nat} {pos p2 : Pos} {a : Expr} {A : E}
end
end M

set_option Elab.async false
set_option linter.all false
set_option maxRecDepth 100000
set_option maxHeartbeats 1000000
/-! E2: a text times a number, both written out. -/
namespace M
open PySem L2 PyProof.Rows SlX
section
variable {X : Cx}
end
end M

set_option Elab.async false
set_option linter.all false
set_option maxRecDepth 100000
set_option maxHeartbeats 4000000
/-! S1: data of numbers and tables, in plain Lean. -/
namespace M
open PySem
section
variable {i j f c k n : Nat} {d d1 d2 d3 : D} {p : P}
def dR (r : List Int) : D := .tup (r.map D.int)
abbrev Tb := List (List Int)
def dT (A : Tb) : D := .tup (A.map dR)
theorem py_ints : ∀ r : List Int, D.pys (r.map D.int) = some (r.map PyData.int)
  | [] => rfl
  | x :: r => by rw [List.map_cons, D.pys, py_ints r]; rfl
theorem py_dR (r : List Int) : D.py (dR r) = some (.tuple (r.map PyData.int)) := by rw [dR, D.py, py_ints]
theorem pys_dR : ∀ A : Tb, D.pys (A.map dR) = some (A.map fun r => .tuple (r.map PyData.int))
  | [] => rfl
  | x :: r => by rw [List.map_cons, D.pys, py_dR, pys_dR r]; rfl
theorem py_dT (A : Tb) : D.py (dT A) = some (.tuple (A.map fun r => .tuple (r.map PyData.int))) := by rw [dT, D.py, pys_dR]
theorem eqv_ints : ∀ r s : List Int, PyData.eqvAll (r.map PyData.int) (s.map PyData.int) = decide (r = s)
  | [], [] => rfl
  | [], _ :: _ => by simp [PyData.eqvAll]
  | _ :: _, [] => by simp [PyData.eqvAll]
  | x :: r, y :: s => by
    rw [List.map_cons, List.map_cons, PyData.eqvAll, eqv_ints r s, PyData.eqv]
    by_cases h : x = y <;> simp [h]
theorem eqv_tb : ∀ A B : Tb, PyData.eqvAll (A.map fun r => .tuple (r.map PyData.int)) (B.map fun r => .tuple (r.map PyData.int)) = decide (A = B)
  | [], [] => rfl
  | [], _ :: _ => by simp [PyData.eqvAll]
  | _ :: _, [] => by simp [PyData.eqvAll]
  | x :: r, y :: s => by
    rw [List.map_cons, List.map_cons, PyData.eqvAll, eqv_tb r s, PyData.eqv, eqv_ints]
    by_cases h : x = y <;> simp [h]
theorem cl_ints : ∀ r : List Int, PyData.canLayAll0 (r.map PyData.int) = true
  | [] => rfl
  | x :: r => by rw [List.map_cons, PyData.canLayAll0, cl_ints r]; rfl
theorem cl_tb : ∀ A : Tb, PyData.canLayAll0 (A.map fun r => .tuple (r.map PyData.int)) = true
  | [] => rfl
  | x :: r => by rw [List.map_cons, PyData.canLayAll0, cl_tb r, PyData.canLay0, cl_ints]; rfl
theorem eq_int {a b : Int} : dEq (.int a) (.int b) = some (decide (a = b)) := by
  show some (a == b) = _
  by_cases h : a = b <;> simp [h]
theorem ev_eq : evP .eq [d1, d2] = (dEq d1 d2).map fun c => (false, .bl c) := rfl
theorem ev_ne : evP .ne [d1, d2] = (dEq d1 d2).map fun c => (false, .bl (!c)) := rfl
theorem bls_true {α : Type} : ∀ l : List α, blsOf (l.map fun _ => D.bl true) = some (l.map fun _ => true)
  | [] => rfl
  | x :: l => by rw [List.map_cons, blsOf, bls_true l]; rfl
theorem all_true {α : Type} (l : List α) : evP .all [.lst (l.map fun _ => D.bl true)] = some (false, .bl true) := by
  show (blsOf _).bind allL = _
  rw [bls_true]
  show some (false, D.bl ((l.map fun _ => true).all id)) = _
  simp
structure TbOk (m : Nat) (A : Tb) : Prop where
  lo : 1 ≤ m
  hi : m ≤ 4
  len : A.length = m
  row : ∀ r ∈ A, r.length = m
  sm : ∀ r ∈ A, ∀ x ∈ r, -1000000 ≤ x ∧ x ≤ 1000000
theorem sl4 {m : Nat} (h : m ≤ 100000) : m ≤ sizeLine := Nat.le_trans h (by decide)
theorem atI_nat {α : Type} (xs : List α) (i : Nat) : L2.atI xs (i : Int) = xs[i]? := by
  unfold L2.atI L2.ixN
  rw [if_pos (Int.natCast_nonneg i)]
  by_cases h : i < xs.length
  · rw [if_pos (by exact_mod_cast h)]; simp
  · rw [if_neg (by exact_mod_cast h)]
    simp [List.getElem?_eq_none (Nat.le_of_not_lt h)]
theorem idx_tup {xs : List D} {i : Nat} (h : xs[i]? = some d) : evP .idx [.tup xs, .int (i : Nat)] = some (false, d) := by
  show (match L2.atI xs (i : Int) with | some d => some (false, d) | none => none) = _
  rw [atI_nat, h]
theorem idx_lst {xs : List D} {i : Nat} (h : xs[i]? = some d) : evP .idx [.lst xs, .int (i : Nat)] = some (false, d) := by
  show (match L2.atI xs (i : Int) with | some d => some (false, d) | none => none) = _
  rw [atI_nat, h]
structure LotOk (m : Nat) (ts : List Tb) : Prop where
  ne : ts ≠ []
  few : ts.length ≤ 3
  tb : ∀ A ∈ ts, TbOk m A
structure WordOk (ts : List Tb) (w : List Int) : Prop where
  few : w.length ≤ 40
  ix : ∀ x ∈ w, 0 ≤ x ∧ x < ts.length
theorem e62 : (2 : Int) ^ 62 = 4611686018427387904 := by decide
theorem inR_nat {m : Nat} (hm : m ≤ 1000000) : inR (m : Int) = true := by
  unfold inR
  rw [e62, Bool.and_eq_true]
  exact ⟨decide_eq_true (by omega), decide_eq_true (by omega)⟩
theorem rng1F_i (z : Int) : rng1F [.int z] = if inR z then some (rngL 0 z.toNat) else none := rfl
theorem rng1F_nat {m : Nat} (hm : m ≤ 1000000) : rng1F [.int (m : Nat)] = some (rngL 0 m) := by
  rw [rng1F_i, if_pos (inR_nat hm), Int.toNat_natCast]
theorem log_lt {a p : Nat} (h : a < 2 ^ p) : a.log2 ≤ p := by
  by_cases ha : a = 0
  · subst ha; simp
  · exact Nat.le_of_lt ((Nat.log2_lt ha).2 h)
theorem mul_ok {x y : Int} {p r : Nat} (hp : p + r < 134000000) (hx : x.natAbs < 2 ^ p) (hy : y.natAbs < 2 ^ r) : evP .mul [.int x, .int y] = some (false, .int (x * y)) := by
  have h : mulOk x y = true := by
    unfold mulOk
    have h1 := log_lt hx
    have h2 := log_lt hy
    exact decide_eq_true (by omega)
  show (if mulOk x y then some (false, D.int (x * y)) else none) = _
  rw [if_pos h]
structure Sq (m : Nat) (A : Tb) : Prop where
  len : A.length = m
  row : ∀ r ∈ A, r.length = m
def pail (a s c : Int) : D := .lst [.int a, .int s, .int c]
theorem mod_ok {x y : Int} (h : 0 < y) : evP .mod [.int x, .int y] = some (false, .int (x % y)) := by
  show (match (if y ≠ 0 then some (x.fmod y) else none) with | some c => some (false, D.int c) | none => none) = _
  rw [if_pos (by omega), Int.fmod_eq_emod_of_nonneg x (by omega)]
theorem fdiv_ok {x y : Int} (h : 0 < y) (hy : y.natAbs < 2 ^ 64) : evP .fdiv [.int x, .int y] = some (false, .int (x / y)) := by
  show (match (if y ≠ 0 ∧ (y.natAbs.log2 < 9000 ∨ x.natAbs.log2 < y.natAbs.log2 + 4400) then some (x.fdiv y) else none) with | some c => some (false, D.int c) | none => none) = _
  rw [if_pos ⟨by omega, .inl (Nat.lt_of_le_of_lt (log_lt hy) (by decide))⟩, Int.fdiv_eq_ediv_of_nonneg x (by omega)]
theorem divmod_ok {x y : Int} (h : 0 < y) (h' : y < 1073741824) : evP .divmod [.int x, .int y] = some (false, .tup [.int (x / y), .int (x % y)]) := by
  show (if 0 < y ∧ y < 1073741824 then some (false, D.tup [.int (x / y), .int (x % y)]) else none) = _
  rw [if_pos ⟨h, h'⟩]
theorem lt_pow32 {x : Int} (h : 0 ≤ x) (h' : x < 4294967296) : x.natAbs < 2 ^ 32 := by
  have e : (2 : Nat) ^ 32 = 4294967296 := by decide
  rw [e]; omega
theorem pow18 : evP .pow [.int 10, .int 18] = some (false, .int 1000000000000000000) := rfl
theorem dp_ints : ∀ r : List Int, PyData.depthAll (r.map PyData.int) = 0
  | [] => rfl
  | x :: r => by rw [List.map_cons, PyData.depthAll, dp_ints r]; rfl
theorem dp_tb : ∀ A : Tb, PyData.depthAll (A.map fun r => .tuple (r.map PyData.int)) ≤ 1
  | [] => by rw [List.map_nil, PyData.depthAll]; omega
  | x :: r => by
    rw [List.map_cons, PyData.depthAll, PyData.depth, dp_ints]
    have := dp_tb r
    omega
theorem shaped_tb (A : Tb) : SeqAt.shaped (.tuple (A.map fun r => .tuple (r.map PyData.int))) = true := by
  unfold SeqAt.shaped
  rw [Bool.and_eq_true]
  refine ⟨?_, decide_eq_true ?_⟩
  · rw [PyData.canLay0]; exact cl_tb A
  · rw [PyData.depth]
    have := dp_tb A
    omega
theorem eq_dT (A B : Tb) : dEq (dT A) (dT B) = some (decide (A = B)) := by
  unfold dEq
  rw [py_dT, py_dT]
  show (if SeqAt.shaped _ && SeqAt.shaped _ then some (PyData.eqv _ _) else none) = _
  rw [shaped_tb, shaped_tb, Bool.and_self, if_pos rfl, PyData.eqv, eqv_tb]
abbrev Sm (x : Int) : Prop := -1000000 ≤ x ∧ x ≤ 1000000
theorem sm1 : Sm 1 := by decide
end
end M

set_option Elab.async false
set_option linter.all false
set_option maxRecDepth 100000
set_option maxHeartbeats 4000000
/-! Pk1: plain functions (printed by gen2.py). -/
namespace M
open PySem
def m__law_cast (x_0 x_1 : D) : Mo (D × D) :=
  (((((.ok x_0) >>= fun v0 => ((.ok (D.int 0)) >>= fun v1 => (prm .idx [v0, v1]))) >>= fun v2 => ((.ok (D.int 0)) >>= fun v3 => (prm .gt [v2, v3]))) >>= fun v4 => (tru v4)) >>= fun v5 => if v5 then ((((.ok x_0) >>= fun v6 => ((.ok (D.int 0)) >>= fun v7 => (prm .idx [v6, v7]))) >>= fun v8 => ((.ok x_1) >>= fun v9 => (prm .divmod [v8, v9]))) >>= fun v10 => (un2 v10 >>= fun v11 => (((noExc (.ok (D.int 0))) >>= fun v12 => (putM x_0 v12 v11.1)) >>= fun v13 => (.ok v11.2) >>= fun v14 => .ok (v13, v14))) >>= fun v15 => ((.ok v15.2) >>= fun v16 => (.ok (v16, v15.1)))) else ((((.ok x_0) >>= fun v17 => ((.ok (D.int 2)) >>= fun v18 => (prm .idx [v17, v18]))) >>= fun v19 => ((.ok (D.int 1)) >>= fun v20 => (prm .add [v19, v20]))) >>= fun v21 => ((noExc (.ok (D.int 2))) >>= fun v22 => (putM x_0 v22 v21)) >>= fun v23 => ((((((((.ok v23) >>= fun v24 => ((.ok (D.int 1)) >>= fun v25 => (prm .idx [v24, v25]))) >>= fun v26 => (((.ok (D.int 36809)) >>= fun v27 => (((.ok (D.int 2)) >>= fun v28 => (((.ok v23) >>= fun v29 => ((.ok (D.int 2)) >>= fun v30 => (prm .idx [v29, v30]))) >>= fun v31 => (prm .mul [v28, v31]))) >>= fun v32 => (prm .add [v27, v32]))) >>= fun v33 => (prm .mul [v26, v33]))) >>= fun v34 => (((.ok (D.int 5303)) >>= fun v35 => (((.ok v23) >>= fun v36 => ((.ok (D.int 2)) >>= fun v37 => (prm .idx [v36, v37]))) >>= fun v38 => (prm .mul [v35, v38]))) >>= fun v39 => (prm .add [v34, v39]))) >>= fun v40 => ((.ok (D.int 7)) >>= fun v41 => (prm .add [v40, v41]))) >>= fun v42 => (prm .int [v42])) >>= fun v43 => ((.ok (D.int 2147483629)) >>= fun v44 => (prm .mod [v43, v44]))) >>= fun v45 => (((((((.ok v45) >>= fun v46 => ((.ok (D.int 45413)) >>= fun v47 => (prm .mul [v46, v47]))) >>= fun v48 => (((.ok (D.int 3)) >>= fun v49 => (((.ok v23) >>= fun v50 => ((.ok (D.int 2)) >>= fun v51 => (prm .idx [v50, v51]))) >>= fun v52 => (prm .mul [v49, v52]))) >>= fun v53 => (prm .add [v48, v53]))) >>= fun v54 => ((.ok (D.int 1)) >>= fun v55 => (prm .add [v54, v55]))) >>= fun v56 => (prm .int [v56])) >>= fun v57 => ((.ok (D.int 2147483587)) >>= fun v58 => (prm .mod [v57, v58]))) >>= fun v59 => ((noExc (.ok (D.int 1))) >>= fun v60 => (putM v23 v60 v59)) >>= fun v61 => ((((((.ok v61) >>= fun v62 => ((.ok (D.int 1)) >>= fun v63 => (prm .idx [v62, v63]))) >>= fun v64 => ((.ok (D.int 256)) >>= fun v65 => (prm .fdiv [v64, v65]))) >>= fun v66 => (prm .int [v66])) >>= fun v67 => ((.ok x_1) >>= fun v68 => (prm .mod [v67, v68]))) >>= fun v69 => (.ok (v69, v61)))))))
def m__law_begun (x_0 x_1 : D) : Mo D :=
  (((((.ok x_1) >>= fun v0 => (((.ok x_0) >>= fun v1 => (prm .len [v1])) >>= fun v2 => (prm .lt [v0, v2]))) >>= fun v3 => (tru v3)) >>= fun v4 => (if v4 then ((.ok x_0) >>= fun v5 => ((.ok x_1) >>= fun v6 => (prm .idx [v5, v6]))) else (.ok (D.int 0)))) >>= fun v7 => (((.ok (D.int 60013)) >>= fun v8 => (((.ok (D.int 7727)) >>= fun v9 => ((.ok x_1) >>= fun v10 => (prm .mul [v9, v10]))) >>= fun v11 => (prm .add [v8, v11]))) >>= fun v12 => ((((.ok x_0) >>= fun v13 => ((.ok (D.int 6)) >>= fun v14 => (prm (.slo false true) [v13, v14]))) >>= fun v15 => (itemsM v15)) >>= fun v16 => foldN (fun v17 v18 => (.ok v18) >>= fun v19 => (((((((.ok v17) >>= fun v20 => ((.ok (D.int 30269)) >>= fun v21 => (prm .mul [v20, v21]))) >>= fun v22 => (((.ok v19) >>= fun v23 => ((.ok (D.int 7)) >>= fun v24 => (prm .mul [v23, v24]))) >>= fun v25 => (prm .add [v22, v25]))) >>= fun v26 => ((.ok (D.int 13)) >>= fun v27 => (prm .add [v26, v27]))) >>= fun v28 => (prm .int [v28])) >>= fun v29 => ((.ok (D.int 2147483629)) >>= fun v30 => (prm .mod [v29, v30]))) >>= fun v31 => (.ok v31))) v12 v16 >>= fun v32 => (((((((.ok v7) >>= fun v33 => ((.ok (D.int 0)) >>= fun v34 => (prm .lt [v33, v34]))) >>= fun v35 => (tru v35)) >>= fun v36 => if v36 then .ok true else (((.ok v7) >>= fun v37 => (((.ok (D.int 10)) >>= fun v38 => ((.ok (D.int 18)) >>= fun v39 => (prm .pow [v38, v39]))) >>= fun v40 => (prm .ge [v37, v40]))) >>= fun v41 => (tru v41))) >>= fun v42 => (if v42 then ((.ok v7) >>= fun v43 => (prm .abs [v43])) else (.ok (D.int 0)))) >>= fun v44 => (((((((.ok v32) >>= fun v45 => ((.ok (D.int 53)) >>= fun v46 => (prm .mul [v45, v46]))) >>= fun v47 => (((.ok v7) >>= fun v48 => ((.ok v7) >>= fun v49 => (prm .mul [v48, v49]))) >>= fun v50 => (prm .add [v47, v50]))) >>= fun v51 => (((.ok (D.int 17)) >>= fun v52 => ((.ok x_1) >>= fun v53 => (prm .mul [v52, v53]))) >>= fun v54 => (prm .add [v51, v54]))) >>= fun v55 => (prm .int [v55])) >>= fun v56 => ((.ok (D.int 2147483629)) >>= fun v57 => (prm .mod [v56, v57]))) >>= fun v58 => ((.ok (D.int 0)) >>= fun v59 => (.ok []) >>= fun v60 => .ok (v59 :: v60)) >>= fun v61 => .ok (v58 :: v61)) >>= fun v62 => .ok (v44 :: v62)) >>= lstM))))
end M

set_option Elab.async false
set_option linter.all false
set_option maxRecDepth 100000
set_option maxHeartbeats 4000000
/-! S2: plain functions: primitives, walks; the package's functions up to products and traces. -/
namespace M
open PySem
section
variable {α β γ : Type} {a b : Int} {c : Bool} {l l' : List D} {d : D}
theorem prm_of {p : P} {ds : List D} {fl : Bool} {d : D} (h : evP p ds = some (fl, d)) : prm p ds = .ok d := by unfold prm; rw [h]
theorem prmV_of {p : P} {ds : List D} {d : D} (h : evP p ds = some (false, d)) : prmV p ds = .ok d := by unfold prmV; rw [h]
@[simp] theorem noExc_ok (a : α) : noExc (.ok a) = .ok a := nr rfl
@[simp] theorem tru_bl : tru (.bl c) = .ok c := nr rfl
@[simp] theorem tru_int : tru (.int a) = .ok (a != 0) := nr rfl
@[simp] theorem isB_bl : isB (.bl c) = .ok c := nr rfl
@[simp] theorem seqM_lst : seqM (.lst l) = .ok l := nr rfl
@[simp] theorem seqM_tup : seqM (.tup l) = .ok l := nr rfl
@[simp] theorem itemsM_lst : itemsM (.lst l) = .ok l := nr rfl
@[simp] theorem itemsM_tup : itemsM (.tup l) = .ok l := nr rfl
@[simp] theorem optM_some : optM (some l) = .ok l := nr rfl
@[simp] theorem un2_tup {x y : D} : un2 (.tup [x, y]) = .ok (x, y) := nr rfl
@[simp] theorem un3_tup {x y z : D} : un3 (.tup [x, y, z]) = .ok (x, y, z) := nr rfl
@[simp] theorem p_add : prm .add [.int a, .int b] = .ok (.int (a + b)) := nr rfl
@[simp] theorem p_sub : prm .sub [.int a, .int b] = .ok (.int (a - b)) := nr rfl
@[simp] theorem pV_sub : prmV .sub [.int a, .int b] = .ok (.int (a - b)) := nr rfl
@[simp] theorem pV_add : prmV .add [.int a, .int b] = .ok (.int (a + b)) := nr rfl
@[simp] theorem p_neg : prm .neg [.int a] = .ok (.int (-a)) := nr rfl
@[simp] theorem p_lt : prm .lt [.int a, .int b] = .ok (.bl (decide (a < b))) := nr rfl
@[simp] theorem p_le : prm .le [.int a, .int b] = .ok (.bl (decide (a ≤ b))) := nr rfl
@[simp] theorem p_gt : prm .gt [.int a, .int b] = .ok (.bl (decide (b < a))) := nr rfl
@[simp] theorem p_ge : prm .ge [.int a, .int b] = .ok (.bl (decide (b ≤ a))) := nr rfl
@[simp] theorem pV_lt : prmV .lt [.int a, .int b] = .ok (.bl (decide (a < b))) := nr rfl
@[simp] theorem pV_le : prmV .le [.int a, .int b] = .ok (.bl (decide (a ≤ b))) := nr rfl
@[simp] theorem pV_gt : prmV .gt [.int a, .int b] = .ok (.bl (decide (b < a))) := nr rfl
@[simp] theorem pV_ge : prmV .ge [.int a, .int b] = .ok (.bl (decide (b ≤ a))) := nr rfl
@[simp] theorem p_eq : prm .eq [.int a, .int b] = .ok (.bl (decide (a = b))) := prm_of (by rw [ev_eq, eq_int]; rfl)
@[simp] theorem p_ne : prm .ne [.int a, .int b] = .ok (.bl (!decide (a = b))) := prm_of (by rw [ev_ne, eq_int]; rfl)
@[simp] theorem pV_eq : prmV .eq [.int a, .int b] = .ok (.bl (decide (a = b))) := prmV_of (by rw [ev_eq, eq_int]; rfl)
@[simp] theorem pV_ne : prmV .ne [.int a, .int b] = .ok (.bl (!decide (a = b))) := prmV_of (by rw [ev_ne, eq_int]; rfl)
@[simp] theorem p_eqT {A B : Tb} : prm .eq [dT A, dT B] = .ok (.bl (decide (A = B))) := prm_of (by rw [ev_eq, eq_dT]; rfl)
@[simp] theorem p_neT {A B : Tb} : prm .ne [dT A, dT B] = .ok (.bl (!decide (A = B))) := prm_of (by rw [ev_ne, eq_dT]; rfl)
@[simp] theorem pV_eqT {A B : Tb} : prmV .eq [dT A, dT B] = .ok (.bl (decide (A = B))) := prmV_of (by rw [ev_eq, eq_dT]; rfl)
@[simp] theorem p_lenL : prm .len [.lst l] = .ok (.int l.length) := nr rfl
@[simp] theorem p_lenT : prm .len [.tup l] = .ok (.int l.length) := nr rfl
@[simp] theorem p_int : prm .int [.int a] = .ok (.int a) := nr rfl
@[simp] theorem p_intB : prm .int [.bl c] = .ok (.int (if c then 1 else 0)) := nr rfl
@[simp] theorem p_abs : prm .abs [.int a] = .ok (.int (if a < 0 then -a else a)) := nr rfl
@[simp] theorem p_tupleL : prm .tuple [.lst l] = .ok (.tup l) := nr rfl
@[simp] theorem p_tupleT : prm .tuple [.tup l] = .ok (.tup l) := nr rfl
@[simp] theorem p_max2 : prm .max2 [.int a, .int b] = .ok (.int (if b > a then b else a)) := nr rfl
@[simp] theorem p_min2 : prm .min2 [.int a, .int b] = .ok (.int (if b < a then b else a)) := nr rfl
@[simp] theorem p_notN : prm .notN [d] = .ok (.bl (!isNon d)) := nr rfl
@[simp] theorem p_isN : prm .isN [d] = .ok (.bl (isNon d)) := nr rfl
@[simp] theorem isNon_non : isNon .non = true := nr rfl
@[simp] theorem isNon_int : isNon (.int a) = false := nr rfl
@[simp] theorem isNon_tup : isNon (.tup l) = false := nr rfl
@[simp] theorem p_isiT : prm (.isi "tuple") [.tup l] = .ok (.bl true) := nr rfl
@[simp] theorem pV_isiT : prmV (.isi "tuple") [.tup l] = .ok (.bl true) := nr rfl
@[simp] theorem p_isiI : prm (.isi "int") [.int a] = .ok (.bl true) := nr rfl
@[simp] theorem pV_isiI : prmV (.isi "int") [.int a] = .ok (.bl true) := nr rfl
@[simp] theorem p_isiB : prm (.isi "bool") [.int a] = .ok (.bl false) := nr rfl
@[simp] theorem p_isiC {k k' : Nat} : prm (.isiC k) [.ins k' l] = .ok (.bl (k' == k)) := nr rfl
@[simp] theorem fldM_0 {k : Nat} : fldM k 0 (.ins k (d :: l)) = .ok d := by simp [fldM]
@[simp] theorem isI_ok {k : Nat} : isI k (.ins k l) = .ok () := by simp [isI]
theorem p_mul {p r : Nat} (hp : p + r < 134000000) (hx : a.natAbs < 2 ^ p) (hy : b.natAbs < 2 ^ r) : prm .mul [.int a, .int b] = .ok (.int (a * b)) := prm_of (mul_ok hp hx hy)
theorem p_mod (h : 0 < b) : prm .mod [.int a, .int b] = .ok (.int (a % b)) := prm_of (mod_ok h)
theorem p_fdiv (h : 0 < b) (hy : b.natAbs < 2 ^ 64) : prm .fdiv [.int a, .int b] = .ok (.int (a / b)) := prm_of (fdiv_ok h hy)
theorem p_divmod (h : 0 < b) (h' : b < 1073741824) : prm .divmod [.int a, .int b] = .ok (.tup [.int (a / b), .int (a % b)]) := prm_of (divmod_ok h h')
theorem p_idxT {i : Nat} (h : l[i]? = some d) : prm .idx [.tup l, .int (i : Nat)] = .ok d := prm_of (idx_tup h)
theorem p_idxL {i : Nat} (h : l[i]? = some d) : prm .idx [.lst l, .int (i : Nat)] = .ok d := prm_of (idx_lst h)
@[simp] theorem p_idx0T : prm .idx [.tup (d :: l), .int 0] = .ok d := p_idxT (i := 0) rfl
@[simp] theorem p_idx0L : prm .idx [.lst (d :: l), .int 0] = .ok d := p_idxL (i := 0) rfl
@[simp] theorem p_idx1T {x : D} : prm .idx [.tup (x :: d :: l), .int 1] = .ok d := p_idxT (i := 1) rfl
@[simp] theorem p_idx1L {x : D} : prm .idx [.lst (x :: d :: l), .int 1] = .ok d := p_idxL (i := 1) rfl
@[simp] theorem p_idx2T {x y : D} : prm .idx [.tup (x :: y :: d :: l), .int 2] = .ok d := p_idxT (i := 2) rfl
@[simp] theorem p_idx2L {x y : D} : prm .idx [.lst (x :: y :: d :: l), .int 2] = .ok d := p_idxL (i := 2) rfl
theorem put3_0 {x y z v : D} : putM (.lst [x, y, z]) (.int 0) v = .ok (.lst [v, y, z]) := nr rfl
theorem put3_1 {x y z v : D} : putM (.lst [x, y, z]) (.int 1) v = .ok (.lst [x, v, z]) := nr rfl
theorem put3_2 {x y z v : D} : putM (.lst [x, y, z]) (.int 2) v = .ok (.lst [x, y, v]) := nr rfl
theorem p_all {τ : Type} {r : List τ} : prm .all [.lst (r.map fun _ => D.bl true)] = .ok (.bl true) := prm_of (all_true r)
theorem tup_ok (h : l.length ≤ sizeLine) : tupM l = .ok (.tup l) := if_pos h
theorem lst_ok (h : l.length ≤ sizeLine) : lstM l = .ok (.lst l) := if_pos h
theorem sz {n : Nat} (h : n ≤ 100000) : n ≤ sizeLine := sl4 h
@[simp] theorem tup0 : tupM [] = .ok (.tup []) := tup_ok (sz (by simp))
@[simp] theorem tup1 {x : D} : tupM [x] = .ok (.tup [x]) := tup_ok (sz (by simp))
@[simp] theorem tup2 {x y : D} : tupM [x, y] = .ok (.tup [x, y]) := tup_ok (sz (by simp))
@[simp] theorem tup3 {x y z : D} : tupM [x, y, z] = .ok (.tup [x, y, z]) := tup_ok (sz (by simp))
@[simp] theorem tup4 {x y z w : D} : tupM [x, y, z, w] = .ok (.tup [x, y, z, w]) := tup_ok (sz (by simp))
@[simp] theorem lst0 : lstM [] = .ok (.lst []) := lst_ok (sz (by simp))
@[simp] theorem lst1 {x : D} : lstM [x] = .ok (.lst [x]) := lst_ok (sz (by simp))
@[simp] theorem lst2 {x y : D} : lstM [x, y] = .ok (.lst [x, y]) := lst_ok (sz (by simp))
@[simp] theorem lst3 {x y z : D} : lstM [x, y, z] = .ok (.lst [x, y, z]) := lst_ok (sz (by simp))
@[simp] theorem lst4 {x y z w : D} : lstM [x, y, z, w] = .ok (.lst [x, y, z, w]) := lst_ok (sz (by simp))
/-! walks -/
theorem mapA_ok {τ : Type} {f : D → Mo D} {h g : τ → D} : ∀ {xs : List τ}, (∀ x ∈ xs, f (h x) = .ok (g x)) → mapA f (xs.map h) = .ok (xs.map g)
  | [], _ => rfl
  | x :: xs, e => by
    rw [List.map_cons, mapA, e x (List.mem_cons_self ..), mapA_ok fun y hy => e y (List.mem_cons_of_mem _ hy)]
    rfl
theorem mapL_ok {τ : Type} {f : D → Mo D} {h g : τ → D} {xs : List τ} (hl : xs.length ≤ sizeLine) (e : ∀ x ∈ xs, f (h x) = .ok (g x)) : mapL f (xs.map h) = .ok (xs.map g) := by
  unfold mapL
  rw [if_pos (by simpa using hl), mapA_ok e]
  rfl
theorem foldN_inv {σ τ : Type} {f : σ → D → Mo σ} {h : τ → D} (J : List τ → σ → Prop) (full : List τ) : ∀ (xs acc : List τ) (s : σ), acc ++ xs = full → J acc s → (∀ x acc s rest, acc ++ x :: rest = full → J acc s → ∃ s', f s (h x) = .ok s' ∧ J (acc ++ [x]) s') → ∃ s', foldN f s (xs.map h) = .ok s' ∧ J full s'
  | [], acc, s, hf, j, _ => ⟨s, rfl, by rw [← hf]; simpa using j⟩
  | x :: xs, acc, s, hf, j, st => by
    obtain ⟨s1, e1, j1⟩ := st x acc s xs hf j
    obtain ⟨s2, e2, j2⟩ := foldN_inv J full xs (acc ++ [x]) s1 (by simpa using hf) j1 st
    exact ⟨s2, by rw [List.map_cons, foldN, e1, ok_bind, e2], j2⟩
theorem o_rng {m : Nat} (hm : m ≤ 1000000) : optM (rng1F [.int (m : Nat)]) = .ok ((List.range m).map fun (i : Nat) => D.int i) := by
  rw [rng1F_nat hm]
  show Mo.ok (rngL 0 m) = _
  unfold rngL
  simp
end
/-! ### the package -/
end M

set_option Elab.async false
set_option linter.all false
set_option maxRecDepth 100000
set_option maxHeartbeats 4000000
/-! S3: traces; draws. -/
namespace M
open PySem
/-! ### draws -/
/-- a pail after at most k mixings -/
def Pl (k : Nat) (p : D) : Prop := ∃ A s c : Int, p = pail A s c ∧ 0 ≤ A ∧ (0 ≤ s ∧ s < 4294967296) ∧ 0 ≤ c ∧ c ≤ k
theorem Pl.mono {k k' : Nat} {p : D} (h : Pl k p) (l : k ≤ k') : Pl k' p := by
  obtain ⟨A, s, c, e, h1, h2, h3, h4⟩ := h
  exact ⟨A, s, c, e, h1, h2, h3, by omega⟩
theorem n32 {x : Int} (h : 0 ≤ x) (h' : x < 4294967296) : x.natAbs < 2 ^ 32 := lt_pow32 h h'
theorem m_cast {k : Nat} {p : D} {m : Int} (h : Pl k p) (hk : k ≤ 1000000) (hm : 0 < m ∧ m < 1073741824) : ∃ v p', m__law_cast p (.int m) = .ok (.int v, p') ∧ (0 ≤ v ∧ v < m) ∧ Pl (k + 1) p' := by
  obtain ⟨A, s, c, rfl, hA, hs, hc, hck⟩ := h
  by_cases hpos : 0 < A
  · refine ⟨A % m, pail (A / m) s c, ?_, ⟨Int.emod_nonneg _ (by omega), Int.emod_lt_of_pos _ hm.1⟩, A / m, s, c, rfl, Int.ediv_nonneg hA (by omega), hs, hc, by omega⟩
    unfold m__law_cast pail
    simp only [ok_bind, p_idx0L, p_gt, tru_bl, decide_eq_true hpos, if_true, p_divmod hm.1 hm.2, un2_tup, noExc_ok, put3_0]
  · have c32 : ∀ z : Int, 0 ≤ z → z ≤ 1000001 → z.natAbs < 2 ^ 32 := fun z h1 h2 => n32 h1 (by omega)
    have hc1 := c32 (c + 1) (by omega) (by omega)
    have s1 := Int.emod_nonneg (s * (36809 + 2 * (c + 1)) + 5303 * (c + 1) + 7) (show (2147483629 : Int) ≠ 0 by omega)
    have s2 := Int.emod_lt_of_pos (s * (36809 + 2 * (c + 1)) + 5303 * (c + 1) + 7) (show (0 : Int) < 2147483629 by omega)
    have t1 := Int.emod_nonneg (((s * (36809 + 2 * (c + 1)) + 5303 * (c + 1) + 7) % 2147483629) * 45413 + 3 * (c + 1) + 1) (show (2147483587 : Int) ≠ 0 by omega)
    have t2 := Int.emod_lt_of_pos (((s * (36809 + 2 * (c + 1)) + 5303 * (c + 1) + 7) % 2147483629) * 45413 + 3 * (c + 1) + 1) (show (0 : Int) < 2147483587 by omega)
    refine ⟨(((((s * (36809 + 2 * (c + 1)) + 5303 * (c + 1) + 7) % 2147483629) * 45413 + 3 * (c + 1) + 1) % 2147483587) / 256) % m, pail A ((((s * (36809 + 2 * (c + 1)) + 5303 * (c + 1) + 7) % 2147483629) * 45413 + 3 * (c + 1) + 1) % 2147483587) (c + 1), ?_, ⟨Int.emod_nonneg _ (by omega), Int.emod_lt_of_pos _ hm.1⟩, _, _, _, rfl, hA, ⟨t1, by omega⟩, by omega, by omega⟩
    unfold m__law_cast pail
    simp only [ok_bind, p_idx0L, p_gt, tru_bl, decide_eq_false hpos, if_false, p_idx2L, p_add, noExc_ok, put3_2, p_idx1L, p_mul (a := 2) (p := 32) (r := 32) (by decide) (n32 (by decide) (by decide)) hc1, p_mul (a := s) (p := 32) (r := 32) (by decide) (n32 hs.1 hs.2) (n32 (x := 36809 + 2 * (c + 1)) (by omega) (by omega)), p_mul (a := 5303) (p := 32) (r := 32) (by decide) (n32 (by decide) (by decide)) hc1, p_int, p_mod (show (0 : Int) < 2147483629 by decide), Bool.false_eq_true]
    generalize (s * (36809 + 2 * (c + 1)) + 5303 * (c + 1) + 7) % 2147483629 = st at s1 s2 t1 t2 ⊢
    simp only [ok_bind, p_mul (a := st) (p := 32) (r := 32) (by decide) (n32 s1 (by omega)) (n32 (x := 45413) (by decide) (by decide)), p_mul (a := 3) (p := 32) (r := 32) (by decide) (n32 (by decide) (by decide)) hc1, p_add, p_int, p_mod (show (0 : Int) < 2147483587 by decide), noExc_ok, put3_1, p_idx1L, p_fdiv (show (0 : Int) < 256 by decide) (show (256 : Int).natAbs < 2 ^ 64 by decide), p_mod hm.1]
theorem slo_cut {l : List D} : prm (.slo false true) [.lst l, .int 6] = .ok (.lst (cutL l none (some 6))) := rfl
theorem map_cut (ns : List Int) : ∃ ms : List Int, cutL (ns.map D.int) none (some 6) = ms.map D.int ∧ ∀ z ∈ ms, z ∈ ns := by
  unfold cutL
  rw [← List.map_drop, ← List.map_take]
  exact ⟨_, rfl, fun z hz => List.mem_of_mem_drop (List.mem_of_mem_take hz)⟩
theorem p_pow18 : prm .pow [.int 10, .int 18] = .ok (.int 1000000000000000000) := prm_of pow18
theorem m_begun {ns : List Int} {k : Nat} (hn : ns.length ≤ 63) (hb : ∀ z ∈ ns, Builtin.Int.intBits z ≤ 1048576) (hk : k < 1000) : ∃ p, m__law_begun ((.lst (ns.map D.int))) (.int k) = .ok p ∧ Pl 0 p := by
  obtain ⟨P0, hP0, hbit⟩ : ∃ P0 : Nat, P0 ≤ 1048576 ∧ ∀ z ∈ ns, z.natAbs < 2 ^ P0 := ⟨_, Nat.le_refl _, fun z hz => PySem.intBits_le_iff.1 (hb z hz)⟩
  have k32 := n32 (x := (k : Int)) (by omega) (by omega)
  obtain ⟨own, hown, e1⟩ : ∃ own : Int, own.natAbs < 2 ^ P0 ∧ (if decide ((k : Int) < (ns.length : Int)) then prm .idx [.lst (ns.map D.int), .int k] else .ok (.int 0)) = .ok (.int own) := by
    by_cases hl : (k : Int) < (ns.length : Int)
    · have hl' : k < ns.length := by omega
      refine ⟨ns[k], hbit _ (List.getElem_mem hl'), ?_⟩
      rw [decide_eq_true hl, if_pos rfl]
      exact p_idxL (by rw [List.getElem?_map, List.getElem?_eq_getElem hl']; rfl)
    · rw [decide_eq_false hl]
      exact ⟨0, Nat.two_pow_pos _, rfl⟩
  obtain ⟨ms, e2, hms⟩ := map_cut ns
  have u1 : (0 : Int) ≤ 60013 + 7727 * (k : Int) ∧ (60013 + 7727 * (k : Int)) < 4294967296 := by omega
  obtain ⟨s', e3, st, hst, hs'⟩ := foldN_inv (f := fun v17 v18 => ((((((prm .mul [v17, D.int 30269]) >>= fun v22 => (prm .mul [v18, D.int 7] >>= fun v25 => prm .add [v22, v25])) >>= fun v26 => prm .add [v26, D.int 13]) >>= fun v28 => prm .int [v28]) >>= fun v29 => prm .mod [v29, D.int 2147483629]))) (h := D.int)
    (fun _ s => ∃ st : Int, (0 ≤ st ∧ st < 4294967296) ∧ s = .int st) ms ms [] (.int (60013 + 7727 * (k : Int))) rfl ⟨_, u1, rfl⟩ (by
      rintro x acc s rest hf ⟨st, hst, rfl⟩
      have hx := hbit x (hms x (by rw [← hf]; simp))
      refine ⟨.int ((st * 30269 + x * 7 + 13) % 2147483629), ?_, _, ⟨Int.emod_nonneg _ (by omega), Int.lt_trans (Int.emod_lt_of_pos _ (by omega)) (by omega)⟩, rfl⟩
      simp only [ok_bind, p_mul (p := 32) (r := 32) (by decide) (n32 hst.1 hst.2) (n32 (x := 30269) (by decide) (by decide)), p_mul (p := P0) (r := 32) (by omega) hx (n32 (x := 7) (by decide) (by decide)), p_add, p_int, p_mod (show (0 : Int) < 2147483629 by decide)])
  subst hs'
  obtain ⟨A, hA, e4⟩ : ∃ A : Int, 0 ≤ A ∧ ((if decide (own < 0) then Mo.ok true else .ok (decide (1000000000000000000 ≤ own))) >>= fun v => if v then Mo.ok (D.int (if own < 0 then -own else own)) else .ok (.int 0)) = .ok (.int A) := by
    by_cases c1 : own < 0
    · exact ⟨-own, by omega, by simp [c1]⟩
    · by_cases c2 : 1000000000000000000 ≤ own
      · exact ⟨own, by omega, by simp [c1, c2]⟩
      · exact ⟨0, Int.le_refl _, by simp [c1, c2]⟩
  refine ⟨pail A ((st * 53 + own * own + 17 * (k : Int)) % 2147483629) 0, ?_, A, _, 0, rfl, hA, ⟨Int.emod_nonneg _ (by omega), Int.lt_trans (Int.emod_lt_of_pos _ (by omega)) (by omega)⟩, by omega, by omega⟩
  unfold m__law_begun pail
  simp only [ok_bind, p_lenL, List.length_map, p_lt, tru_bl, e1, p_mul (a := 7727) (p := 32) (r := 32) (by decide) (n32 (by decide) (by decide)) k32, p_add, slo_cut, itemsM_lst, e2]
  simp only [bind_ok] at e3 ⊢
  simp only [e3, ok_bind, p_lt, tru_bl, p_pow18, p_ge, p_abs, e4, p_mul (a := st) (p := 32) (r := 32) (by decide) (n32 hst.1 hst.2) (n32 (x := 53) (by decide) (by decide)), p_mul (a := own) (p := P0) (r := P0) (by omega) hown hown, p_mul (a := 17) (p := 32) (r := 32) (by decide) (n32 (by decide) (by decide)) k32, p_add, p_int, p_mod (show (0 : Int) < 2147483629 by decide), lst3]
end M

set_option Elab.async false
set_option linter.all false
set_option maxRecDepth 100000
set_option maxHeartbeats 4000000
/-! Pk2: plain functions (printed by gen2.py). -/
namespace M
open PySem
def m__law_any_of (x_0 x_1 : D) : Mo (D × D) :=
  (((.ok x_1) >>= fun v0 => ((((.ok x_1) >>= fun v1 => (prm .len [v1])) >>= fun v2 => (m__law_cast x_0 v2)) >>= fun v3 => (.ok []) >>= fun v4 => .ok ((v3.1 :: v4), v3.2)) >>= fun v5 => .ok ((v0 :: v5.1), v5.2)) >>= fun v6 => prm .idx v6.1 >>= fun v7 => .ok (v7, v6.2))
end M

set_option Elab.async false
set_option linter.all false
set_option maxRecDepth 100000
set_option maxHeartbeats 4000000
/-! S4: texts in plain Lean: numbers written, joined, split, read. -/
namespace M
open PySem
abbrev tx (a : List Nat) : D := .str (SX.S a)
section
variable {a b : List Nat} {i : Int}
def Cps (a : List Nat) : Prop := ∀ c ∈ a, c < 1114112
theorem Cps.take (h : Cps a) (k : Nat) : Cps (a.take k) := fun c hc => h c (List.mem_of_mem_take hc)
theorem Cps.drop (h : Cps a) (k : Nat) : Cps (a.drop k) := fun c hc => h c (List.mem_of_mem_drop hc)
theorem Cps.app (h : Cps a) (h' : Cps b) : Cps (a ++ b) := fun c hc => (List.mem_append.1 hc).elim (h c) (h' c)
@[simp] theorem isS_tx : isS (tx a) = .ok () := nr rfl
end
end M

set_option Elab.async false
set_option linter.all false
set_option maxRecDepth 100000
set_option maxHeartbeats 4000000
/-! S5: the lot's text written and read, in plain Lean. -/
namespace M
open PySem
def bigL : Nat := 10 ^ 30
/-! rows -/
/-- rows of numbers that are not too long -/
structure RowOk (r : List Int) : Prop where
  ne : r ≠ []
  few : r.length ≤ 100
  sm : ∀ x ∈ r, x.natAbs < bigL
/-! lines -/
end M

set_option Elab.async false
set_option linter.all false
set_option maxRecDepth 100000
set_option maxHeartbeats 4000000
/-! S6: a lot of its text; lots built; draws of tables and words; the laws' own products. -/
namespace M
open PySem
section
variable {m : Nat} {ts : List Tb}
theorem LotOk.sz (h : LotOk m ts) : 1 ≤ m ∧ m ≤ 4 := by
  obtain ⟨A0, ts', hts⟩ : ∃ a l, ts = a :: l := by
    cases ts with
    | nil => exact absurd rfl h.ne
    | cons a l => exact ⟨a, l, rfl⟩
  have hA0 := h.tb A0 (by rw [hts]; exact List.mem_cons_self ..)
  exact ⟨hA0.lo, hA0.hi⟩
end
end M

set_option Elab.async false
set_option linter.all false
set_option maxRecDepth 100000
set_option maxHeartbeats 4000000
/-! S7: repr of data; draws of numbers, tables, words. -/
namespace M
open PySem
/-! ### repr -/
def Tq (n : Nat) (x : Str) : Prop := Cps (TL.tl x) ∧ (TL.tl x).length ≤ n
theorem Tq.mono {n k : Nat} {x : Str} (h : Tq n x) (l : n ≤ k) : Tq k x := ⟨h.1, Nat.le_trans h.2 l⟩
theorem Tq.app {n k : Nat} {x y : Str} (h : Tq n x) (h' : Tq k y) : Tq (n + k) (x ++ y) := by
  unfold Tq
  rw [TL.tl_append]
  exact ⟨h.1.app h'.1, by rw [List.length_append]; exact Nat.add_le_add h.2 h'.2⟩
theorem Tq.from {n : Nat} : ∀ {ts : List Str} {k a : Nat} {acc : Str}, Tq a acc → (∀ t ∈ ts, Tq n t) → Tq (a + ts.length * (n + 2)) (textFrom k acc ts)
  | [], k, a, acc, ha, _ => ha.mono (by omega)
  | t :: r, k, a, acc, ha, h => by
    have h1 := h t (by simp)
    have hs : Tq 2 (((if k > 0 then ", " else "" : String) : String) : Str) := by
      unfold Tq
      rw [TL.tl_ofString]
      by_cases hk : k > 0
      · rw [if_pos hk]; exact ⟨by intro c hc; simp at hc; omega, by decide⟩
      · rw [if_neg hk]; exact ⟨by intro c hc; simp at hc, by decide⟩
    refine (Tq.from (k := k + 1) ((ha.app hs).app h1) fun x hx => h x (List.mem_cons_of_mem _ hx)).mono ?_
    rw [List.length_cons, Nat.succ_mul]; omega
structure Rp (k n : Nat) (d : D) : Prop where
  go : ∃ p, d.py = some p ∧ p.showable = true ∧ p.depth ≤ k ∧ Tq n p.shown
theorem Rp.mono {k n k' n' : Nat} {d : D} (h : Rp k n d) (hk : k ≤ k') (hn : n ≤ n') : Rp k' n' d := by
  obtain ⟨p, h1, h2, h3, h4⟩ := h.go
  exact ⟨p, h1, h2, Nat.le_trans h3 hk, h4.mono hn⟩
/-! ### draws -/
theorem m_any {k : Nat} {p : D} {l : List D} (h : Pl k p) (hk : k ≤ 1000000) (h0 : l ≠ []) (hl : l.length ≤ 100000) : ∃ d ∈ l, ∃ p', m__law_any_of p (.lst l) = .ok (d, p') ∧ Pl (k + 1) p' := by
  have hpos : 0 < l.length := List.length_pos_iff.2 h0
  obtain ⟨v, p1, e1, hv, h1⟩ := m_cast (m := (l.length : Int)) h hk ⟨by omega, by omega⟩
  obtain ⟨i, rfl⟩ : ∃ i : Nat, v = (i : Int) := ⟨v.toNat, by omega⟩
  have hi : i < l.length := by omega
  refine ⟨l[i], List.getElem_mem hi, p1, ?_, h1⟩
  unfold m__law_any_of
  simp only [ok_bind, p_lenL, e1, p_idxL (List.getElem?_eq_getElem hi)]
end M

set_option Elab.async false
set_option linter.all false
set_option maxRecDepth 100000
set_option maxHeartbeats 4000000
/-! S8: tables by their entries; sums; products by the laws' own sums. -/
namespace M
open PySem
def sg : Nat → (Nat → Int) → Int
  | 0, _ => 0
  | n + 1, f => sg n f + f n
/-! ### the laws' own sums -/
end M

set_option Elab.async false
set_option linter.all false
set_option maxRecDepth 100000
set_option maxHeartbeats 4000000
/-! S9: walks with draws; words. -/
namespace M
open PySem
/-- the frame of a law: so many cases -/
theorem cases_ok {f : D → Mo D} {ns : List Int} {c : Int} (hc : 2 ≤ c ∧ c ≤ 100) (hn : ns.length ≤ 63) (h : ∀ k : Nat, k < 1000 → f (.int (k : Nat)) = .ok (.bl true)) :
    (((optM (rng1F [D.int (if (if c < (ns.length : Int) then c else (ns.length : Int)) > 2 then (if c < (ns.length : Int) then c else (ns.length : Int)) else 2)])) >>= fun v6 => mapL f v6 >>= fun l => Mo.ok (D.lst l)) >>= fun v12 => prm .all [v12]) = .ok (.bl true) := by
  obtain ⟨z, e, hz⟩ : ∃ z : Nat, (if (if c < (ns.length : Int) then c else (ns.length : Int)) > 2 then (if c < (ns.length : Int) then c else (ns.length : Int)) else 2) = (z : Int) ∧ z ≤ 100 :=
    ⟨(if (if c < (ns.length : Int) then c else (ns.length : Int)) > 2 then (if c < (ns.length : Int) then c else (ns.length : Int)) else 2).toNat, by split <;> split <;> omega, by split <;> split <;> omega⟩
  rw [e, o_rng (by omega)]
  simp only [ok_bind]
  rw [mapL_ok (g := fun _ => .bl true) (sz (by simp; omega)) (fun k hk => h k (by have := List.mem_range.1 hk; omega))]
  simp only [ok_bind]
  exact p_all
end M

set_option Elab.async false
set_option linter.all false
set_option maxRecDepth 100000
set_option maxHeartbeats 4000000
/-! S10: traces by entries; words turned. -/
namespace M
open PySem
end M

set_option Elab.async false
set_option linter.all false
set_option maxRecDepth 100000
set_option maxHeartbeats 4000000
/-! S11: tables scaled, added, turned over. -/
namespace M
open PySem
end M

set_option Elab.async false
set_option linter.all false
set_option maxRecDepth 100000
set_option maxHeartbeats 4000000
/-! Pk3: plain functions (printed by gen2.py). -/
namespace M
open PySem
end M

set_option Elab.async false
set_option linter.all false
set_option maxRecDepth 100000
set_option maxHeartbeats 4000000
/-! S12: repr of texts; what a lot tells of itself. -/
namespace M
open PySem
/-! sizes -/
section
variable {m : Nat} {ts : List Tb}
/-! the lot's own defs -/
end
end M

set_option Elab.async false
set_option linter.all false
set_option maxRecDepth 100000
set_option maxHeartbeats 4000000
/-! S13: lots compared. -/
namespace M
open PySem
end M

set_option Elab.async false
set_option linter.all false
set_option maxRecDepth 100000
set_option maxHeartbeats 4000000
/-! Pk4: plain functions (printed by gen2.py). -/
namespace M
open PySem
end M

set_option Elab.async false
set_option linter.all false
/-! X10: the exceptions' layer and the specs, side by side. -/

set_option Elab.async false
set_option linter.all false
set_option maxRecDepth 100000
set_option maxHeartbeats 4000000
/-! Pk5: plain functions (printed by gen2.py). -/
namespace M
open PySem
def m__law_thing (x_0 : D) : Mo (D × D) :=
  ((((.ok D.non) >>= fun v0 => ((.ok (D.bl true)) >>= fun v1 => ((.ok (D.bl false)) >>= fun v2 => ((.ok (D.int 0)) >>= fun v3 => ((.ok (D.int 1)) >>= fun v4 => (((.ok (D.int 1)) >>= fun v5 => (prm .neg [v5])) >>= fun v6 => ((.ok (D.int 2)) >>= fun v7 => ((((.ok (D.int 10)) >>= fun v8 => ((.ok (D.int 6)) >>= fun v9 => (prm .pow [v8, v9]))) >>= fun v10 => ((.ok (D.int 1)) >>= fun v11 => (prm .add [v10, v11]))) >>= fun v12 => ((((.ok (D.int 10)) >>= fun v13 => ((.ok (D.int 39)) >>= fun v14 => (prm .pow [v13, v14]))) >>= fun v15 => (prm .neg [v15])) >>= fun v16 => ((.ok (D.str "")) >>= fun v17 => ((.ok (D.str "a")) >>= fun v18 => ((.ok (D.str "lot 1")) >>= fun v19 => (((.ok []) >>= tupM) >>= fun v20 => ((((.ok (D.int 0)) >>= fun v21 => (.ok []) >>= fun v22 => .ok (v21 :: v22)) >>= tupM) >>= fun v23 => ((((.ok (D.int 1)) >>= fun v24 => ((.ok (D.int 0)) >>= fun v25 => (.ok []) >>= fun v26 => .ok (v25 :: v26)) >>= fun v27 => .ok (v24 :: v27)) >>= tupM) >>= fun v28 => ((((((.ok (D.int 5)) >>= fun v29 => (.ok []) >>= fun v30 => .ok (v29 :: v30)) >>= tupM) >>= fun v31 => (.ok []) >>= fun v32 => .ok (v31 :: v32)) >>= tupM) >>= fun v33 => ((.ok (D.str "A")) >>= fun v34 => (.ok []) >>= fun v35 => .ok (v34 :: v35)) >>= fun v36 => .ok (v33 :: v36)) >>= fun v37 => .ok (v28 :: v37)) >>= fun v38 => .ok (v23 :: v38)) >>= fun v39 => .ok (v20 :: v39)) >>= fun v40 => .ok (v19 :: v40)) >>= fun v41 => .ok (v18 :: v41)) >>= fun v42 => .ok (v17 :: v42)) >>= fun v43 => .ok (v16 :: v43)) >>= fun v44 => .ok (v12 :: v44)) >>= fun v45 => .ok (v7 :: v45)) >>= fun v46 => .ok (v6 :: v46)) >>= fun v47 => .ok (v4 :: v47)) >>= fun v48 => .ok (v3 :: v48)) >>= fun v49 => .ok (v2 :: v49)) >>= fun v50 => .ok (v1 :: v50)) >>= fun v51 => .ok (v0 :: v51)) >>= lstM) >>= fun v52 => (((.ok v52) >>= fun v53 => (((((.ok []) >>= lstM) >>= fun v54 => ((((.ok (D.int 1)) >>= fun v55 => (.ok []) >>= fun v56 => .ok (v55 :: v56)) >>= lstM) >>= fun v57 => ((.ok (D.dct [])) >>= fun v58 => ((.ok (D.dct [("a", 1)])) >>= fun v59 => ((((((.ok (D.int 1)) >>= fun v60 => ((.ok (D.int 2)) >>= fun v61 => (.ok []) >>= fun v62 => .ok (v61 :: v62)) >>= fun v63 => .ok (v60 :: v63)) >>= tupM) >>= fun v64 => (.ok []) >>= fun v65 => .ok (v64 :: v65)) >>= tupM) >>= fun v66 => ((((((.ok (D.int 1)) >>= fun v67 => ((.ok (D.int 0)) >>= fun v68 => (.ok []) >>= fun v69 => .ok (v68 :: v69)) >>= fun v70 => .ok (v67 :: v70)) >>= tupM) >>= fun v71 => ((((.ok (D.int 0)) >>= fun v72 => ((.ok (D.int 1)) >>= fun v73 => (.ok []) >>= fun v74 => .ok (v73 :: v74)) >>= fun v75 => .ok (v72 :: v75)) >>= tupM) >>= fun v76 => (.ok []) >>= fun v77 => .ok (v76 :: v77)) >>= fun v78 => .ok (v71 :: v78)) >>= tupM) >>= fun v79 => ((((((((.ok (D.int 5)) >>= fun v80 => (.ok []) >>= fun v81 => .ok (v80 :: v81)) >>= tupM) >>= fun v82 => (.ok []) >>= fun v83 => .ok (v82 :: v83)) >>= tupM) >>= fun v84 => (.ok []) >>= fun v85 => .ok (v84 :: v85)) >>= tupM) >>= fun v86 => ((((.ok (D.str "all")) >>= fun v87 => (.ok []) >>= fun v88 => .ok (v87 :: v88)) >>= tupM) >>= fun v89 => ((((.ok D.non) >>= fun v90 => (.ok []) >>= fun v91 => .ok (v90 :: v91)) >>= tupM) >>= fun v92 => ((.ok (D.str "abcdefghi")) >>= fun v93 => (.ok []) >>= fun v94 => .ok (v93 :: v94)) >>= fun v95 => .ok (v92 :: v95)) >>= fun v96 => .ok (v89 :: v96)) >>= fun v97 => .ok (v86 :: v97)) >>= fun v98 => .ok (v79 :: v98)) >>= fun v99 => .ok (v66 :: v99)) >>= fun v100 => .ok (v59 :: v100)) >>= fun v101 => .ok (v58 :: v101)) >>= fun v102 => .ok (v57 :: v102)) >>= fun v103 => .ok (v54 :: v103)) >>= lstM) >>= fun v104 => (prm .add [v53, v104]))) >>= fun v105 => ((.ok v105) >>= fun v106 => (m__law_any_of x_0 v106))))
end M

set_option Elab.async false
set_option linter.all false
set_option maxRecDepth 100000
set_option maxHeartbeats 8000000
/-! X11: values of any kind, what is told of them; texts read where errors are caught. -/
namespace M
open PySem
/-- what a word may be made of; S: which texts -/
inductive WvS (S : Str → Prop) (L : Nat) : Nat → D → Prop
  | tup {κ : Nat} {xs : List D} : xs.length ≤ L → (∀ x ∈ xs, WvS S L κ x) → WvS S L (κ + 1) (.tup xs)
  | int {κ : Nat} (z : Int) : WvS S L κ (.int z)
  | bl {κ : Nat} (b : Bool) : WvS S L κ (.bl b)
  | non {κ : Nat} : WvS S L κ .non
  | str {κ : Nat} (s : Str) (h : S s := by trivial) : WvS S L κ (.str s)
  | lst {κ : Nat} (xs : List D) : WvS S L κ (.lst xs)
  | dct {κ : Nat} (kvs : List (Str × Int)) : WvS S L κ (.dct kvs)
abbrev Wv (L : Nat) : Nat → D → Prop := WvS (fun _ => True) L
theorem WvS.mono {S : Str → Prop} {L L' κ κ' : Nat} {d : D} (h : WvS S L κ d) (l : L ≤ L') (k : κ ≤ κ') : WvS S L' κ' d := by
  induction h generalizing κ' with
  | @tup c xs h1 _ ih =>
    obtain ⟨j, rfl⟩ : ∃ j, κ' = j + 1 := ⟨κ' - 1, by omega⟩
    exact .tup (Nat.le_trans h1 l) fun x hx => ih x hx (by omega)
  | int z => exact .int z
  | bl b => exact .bl b
  | non => exact .non
  | str s hs => exact .str s hs
  | lst xs => exact .lst xs
  | dct kv => exact .dct kv
theorem Wv.mono {L L' κ κ' : Nat} {d : D} (h : Wv L κ d) (l : L ≤ L') (k : κ ≤ κ') : Wv L' κ' d := WvS.mono h l k
theorem WvS.weak {S S' : Str → Prop} {L κ : Nat} {d : D} (h : WvS S L κ d) (w : ∀ s, S s → S' s) : WvS S' L κ d := by
  induction h with
  | tup h1 _ ih => exact .tup h1 ih
  | int z => exact .int z
  | bl b => exact .bl b
  | non => exact .non
  | str s hs => exact .str s (w s hs)
  | lst xs => exact .lst xs
  | dct kv => exact .dct kv
theorem WvS.any {S : Str → Prop} {L κ : Nat} {d : D} (h : WvS S L κ d) : Wv L κ d := h.weak fun _ _ => trivial
def menu : List D := [.non, .bl true, .bl false, .int 0, .int 1, .int (-1), .int 2, .int 1000001, .int (-1000000000000000000000000000000000000000), .str "", .str "a", .str "lot 1", .tup [], .tup [.int 0], .tup [.int 1, .int 0], .tup [.tup [.int 5]], .str "A",
  .lst [], .lst [.int 1], .dct [], .dct [("a", 1)], .tup [.tup [.int 1, .int 2]], .tup [.tup [.int 1, .int 0], .tup [.int 0, .int 1]], .tup [.tup [.tup [.int 5]]], .tup [.str "all"], .tup [.non], .str "abcdefghi"]
theorem thing_eq (p : D) : m__law_thing p = m__law_any_of p (.lst menu) := by
  unfold m__law_thing
  rfl
theorem m_thing {k : Nat} {p : D} (h : Pl k p) (hk : k ≤ 1000000) : ∃ d ∈ menu, ∃ p', m__law_thing p = .ok (d, p') ∧ Pl (k + 1) p' := by
  rw [thing_eq]
  exact m_any h hk (by decide) (by decide)
section
variable {xs : List D} {i j : Nat} {z : Int} {b : Bool} {s : Str} {kv : List (Str × Int)}
@[simp] theorem p_revT : prm .revL [.tup xs] = .ok (.tup xs.reverse) := nr rfl
@[simp] theorem p_neU : prm .neU [.tup xs] = .ok (.bl (!xs.isEmpty)) := nr rfl
@[simp] theorem p_listT : prm .list [.tup xs] = .ok (.lst xs) := nr rfl
@[simp] theorem ti_int : prm (.isi "tuple") [.int z] = .ok (.bl false) := nr rfl
@[simp] theorem ti_bl : prm (.isi "tuple") [.bl b] = .ok (.bl false) := nr rfl
@[simp] theorem ti_non : prm (.isi "tuple") [.non] = .ok (.bl false) := nr rfl
@[simp] theorem ti_str : prm (.isi "tuple") [.str s] = .ok (.bl false) := nr rfl
@[simp] theorem ti_lst : prm (.isi "tuple") [.lst xs] = .ok (.bl false) := nr rfl
@[simp] theorem ti_dct : prm (.isi "tuple") [.dct kv] = .ok (.bl false) := nr rfl
@[simp] theorem ii_bl : prm (.isi "int") [.bl b] = .ok (.bl true) := nr rfl
@[simp] theorem ii_non : prm (.isi "int") [.non] = .ok (.bl false) := nr rfl
@[simp] theorem ii_str : prm (.isi "int") [.str s] = .ok (.bl false) := nr rfl
@[simp] theorem ii_lst : prm (.isi "int") [.lst xs] = .ok (.bl false) := nr rfl
@[simp] theorem ii_tup : prm (.isi "int") [.tup xs] = .ok (.bl false) := nr rfl
@[simp] theorem ii_dct : prm (.isi "int") [.dct kv] = .ok (.bl false) := nr rfl
@[simp] theorem bi_bl : prm (.isi "bool") [.bl b] = .ok (.bl true) := nr rfl
end
def two (a t : Str) : D := .lst [.lst [.str a, .str t], .lst [.str a, .str t]]
/-! ### lots built -/
section
variable {m : Nat} {ts : List Tb}
end
end M

set_option Elab.async false
set_option linter.all false
set_option maxRecDepth 100000
set_option maxHeartbeats 4000000
/-! X12: values of any kind judged as tables, as lots. -/
namespace M
open PySem
@[simp] theorem p_neE {xs : List D} : prm .neE [.lst xs] = .ok (.bl (!xs.isEmpty)) := nr rfl
@[simp] theorem p_eqE {xs : List D} : prm .eqE [.lst xs] = .ok (.bl xs.isEmpty) := nr rfl
@[simp] theorem p_eqU {xs : List D} : prm .eqU [.tup xs] = .ok (.bl xs.isEmpty) := nr rfl
section
variable {z : Int} {b : Bool} {s : Str} {kv : List (Str × Int)} {xs : List D}
@[simp] theorem tV_int : prmV (.isi "tuple") [.int z] = .ok (.bl false) := nr rfl
@[simp] theorem tV_bl : prmV (.isi "tuple") [.bl b] = .ok (.bl false) := nr rfl
@[simp] theorem tV_non : prmV (.isi "tuple") [.non] = .ok (.bl false) := nr rfl
@[simp] theorem tV_str : prmV (.isi "tuple") [.str s] = .ok (.bl false) := nr rfl
@[simp] theorem tV_lst : prmV (.isi "tuple") [.lst xs] = .ok (.bl false) := nr rfl
@[simp] theorem tV_dct : prmV (.isi "tuple") [.dct kv] = .ok (.bl false) := nr rfl
end
def smB (z : Int) : Bool := decide ((if z < 0 then -z else z) ≤ 1000000)
def okEl : D → Bool
  | .int z => smB z
  | _ => false
def okRow (n : Nat) : D → Bool
  | .tup xs => xs.length == n && xs.all okEl
  | _ => false
def okTb : D → Bool
  | .tup xs => decide (1 ≤ xs.length) && decide (xs.length ≤ 4) && xs.all (okRow xs.length)
  | _ => false
end M

set_option Elab.async false
set_option linter.all false
set_option maxRecDepth 100000
set_option maxHeartbeats 4000000
/-! X13: values of any kind judged as lots. -/
namespace M
open PySem
def tlen : D → Nat
  | .tup xs => xs.length
  | _ => 0
def badL (xs : List D) (i : Nat) : Bool := i == 3 || (!okTb (xs.getD i .non) || !(tlen (xs.getD i .non) == tlen (xs.getD 0 .non)))
def fstWrong (xs : List D) : Option Nat := (List.range xs.length).find? (badL xs)
/-- what the program's judge gives -/
def judged : D → D
  | .tup xs => if xs.isEmpty then .int (-1) else match fstWrong xs with | some i => .int (i : Nat) | none => .non
  | _ => .int (-1)
end M

set_option Elab.async false
set_option linter.all false
set_option maxRecDepth 100000
set_option maxHeartbeats 4000000
/-! X14: what is answered, shown. -/
namespace M
open PySem
end M

set_option Elab.async false
set_option linter.all false
set_option maxRecDepth 100000
set_option maxHeartbeats 4000000
/-! X24: exceptions made as values, by position, by name, without values. -/
namespace M
open PySem L2 PyProof.Rows SlX
section
open Builtin Builtin.ObjectAttr PySem.HandSPX
section
variable {M : Model} {A : Around} {E : Value → Shared → Prop} {h : Heap} {g : Array GenState} {d : Drawn} {t : Nat} {os : OsState}
variable {nm q : Str} {C N : Addr} {bs bm bmB : List Value} {hdct : Bool} {sn : List Str} {sub : List Value} {ab : Bool} {col : Option Bool} {dd : Option Addr} {k0 k1 k2 k3 k5 : Option Value} {B newId initId : String}
theorem check_new_kw (F : ExcBaseFacts B newId initId bmB) (hT : ∀ X : String, bm.contains (.type X) = bmB.contains (.type X)) {y : Str} {v : Value} {Q : Unit → Shared → Prop}
    (hC : h.get? C = some (excClassObj nm q C N bs bm hdct sn sub ab col dd k0 k1 k2 k3 k5 newId)) (hq : Q () ⟨h, g, d, t, os⟩) : wpAny M A (checkBuiltinCall newId ⟨[.ref C], [(y, v)]⟩) Q E ⟨h, g, d, t, os⟩ := by
  have hcont : (Value.ref C :: bm).contains (.type B) = true := by rw [List.contains_cons, hT, F.hasB, Bool.or_true]
  have hstar := F.noStar
  simp only [checkBuiltinCall, F.newKind, F.newSplit, F.newRow]
  repeat (first | refine wpAny_loadPart_at hC ?_ | (refine wpAny_isSubtype_exc hC ?_; rw [hcont]) | refine wpAny_staticBase_exc hC ?_ | refine wpAny_madeBy_exc hC ?_ | simp only [bne_self_eq_false, Bool.false_eq_true, if_false] | wp_step)
  exact hq
end
section
variable {prog : Program} {w : World} {A : Around} {E : Value → Shared → Prop} {R : Result → Shared → Prop} {h : Heap} {g : Array GenState} {d : Drawn} {t : Nat} {os : OsState}
variable {nm q : Str} {C N : Addr} {bs bm bmB : List Value} {hdct : Bool} {sn : List Str} {sub : List Value} {ab : Bool} {col : Option Bool} {dd : Option Addr} {k0 k1 k2 k3 k5 : Option Value} {B newId initId : String}
theorem new_kw (F : ExcBaseFacts B newId initId bmB) (hT : ∀ X : String, bm.contains (.type X) = bmB.contains (.type X)) {y : Str} {v : Value}
    (hC : h.get? C = some (excClassObj nm q C N bs bm hdct sn sub ab col dd k0 k1 k2 k3 k5 newId))
    (hq : R (.ok (.ret (.ref (h.objs.size + 1)))) ⟨(h.push { cls := .type "tuple", data := .seq ([] : List Value).toArray }).push
      { cls := .ref C, data := .fields #[.ref h.objs.size, .none, .none, .none, .bool false, .none] }, g, d, t, os⟩) :
    codeAny (model prog w) A (.builtin newId ⟨[.ref C], [(y, v)]⟩) R ⟨h, g, d, t, os⟩ := by
  have hends := F.ends
  have hcB : (Value.ref C :: bm).contains (.type B) = true := by rw [List.contains_cons, hT, F.hasB, Bool.or_true]
  have hcA : (Value.ref C :: bm).contains (.type "AttributeError") = false := by rw [List.contains_cons, hT, F.noAttr]; rfl
  have hcN : (Value.ref C :: bm).contains (.type "NameError") = false := by rw [List.contains_cons, hT, F.noName]; rfl
  refine codeAny_builtinAt F.entry ?_
  unfold Builtin.«BaseException.__new__»
  refine PySem.wpAt_bind ?_
  show PySem.wpAt _ _ _ (stack >>= _) _ _ _
  refine PySem.wpAt_bind (PySem.wpAt_stack fun p below => PySem.wpAt_of_wpAny ?_)
  wp_walk
  refine PySem.wpAt_of_wpAny ?_
  rw [F.owner]
  repeat (first | with_reducible refine wpAny_madeHere_exc F.canon hC ?_ | with_reducible refine wpAny_loadPart_at hC ?_ | (with_reducible refine wpAny_isSubtype_exc hC ?_; first | rw [hcB] | rw [hcA] | rw [hcN]) | wp_step)
  show R _ _
  rw [Heap.size_push]
  exact hq
theorem type_call_kw (F : ExcBaseFacts B newId initId bmB) (hT : ∀ X : String, bm.contains (.type X) = bmB.contains (.type X)) {y : Str} {v : Value} {fI : Addr} {Q : Fin → Shared → Prop}
    (hC : h.get? C = some (excClassObj nm q C N bs bm hdct sn sub ab col dd k0 k1 k2 k3 k5 newId))
    (hi : W.Looks (model prog w) h (typeLookup (.ref C) "__init__") (some (.ref fI))) (hb : ∀ self, W.Looks (model prog w) h (bindSpecial (.ref fI) self) (.ref fI, [self]))
    (hq : codeAny (model prog w) A (.call (.ref fI) ⟨[.ref (h.objs.size + 1)], [(y, v)]⟩)
      (fun r s' => match r with | .ok (.ret v) => v = .none ∧ Q (.done (.ret (.ref (h.objs.size + 1)))) s' | .ok _ => False | .error e => E e s')
      ⟨(h.push (W.kdv_tup [])).push (excO C h.objs.size), g, d, t, os⟩) :
    wpAny (model prog w) A (Builtin.«type.__call__» ⟨[.ref C], [(y, v)]⟩) Q E ⟨h, g, d, t, os⟩ := by
  repeat (first | with_reducible refine wpAny_loadPart_at hC ?_ | with_reducible refine wpAny_madeBy_exc hC ?_ | wp_step)
  refine codeAny_call_builtin_code (Code.quiet_builtin _ F.quiet) (check_new_kw F hT hC ?_)
  refine new_kw F hT hC ?_
  show wpAny _ _ _ _ _ _
  have k : ∀ b o, h.get? b = some o → ((h.push (W.kdv_tup [])).push (excO C h.objs.size)).get? b = some o := fun b o e => Heap.get?_push_of_some _ (Heap.get?_push_of_some _ e)
  have hC₁ := k _ _ hC
  have hget : ((h.push (W.kdv_tup [])).push (excO C h.objs.size)).get? (h.objs.size + 1) = some (excO C h.objs.size) := by heap_get
  have hcC : (Value.ref C :: bm).contains (.ref C) = true := by simp
  have i1 := hi.keeps k
  have b1 := (hb (.ref (h.objs.size + 1))).keeps k
  unfold isInstance
  repeat (first | with_reducible refine wpAny_loadPart_at hget ?_ | (with_reducible refine wpAny_isSubtype_exc hC₁ ?_; rw [hcC]) | wp_step)
  show wpAny _ _ (typeLookup (.ref C) _) _ _ _
  refine i1.at ?_
  refine wpAny_holding (wpAny_bind (b1.at ?_))
  refine wpAny_bind (wpAny_call (codeAny_mono hq fun r s' z => ?_))
  rcases r with e | (v | _ | _ | _) <;> first | exact z | exact z.elim | skip
  obtain ⟨rfl, z⟩ := z
  first
    | exact wpAny_pure (wpAny_pure z)
    | (wp_walk; exact z)
theorem call_kw (F : ExcBaseFacts B newId initId bmB) (hT : ∀ X : String, bm.contains (.type X) = bmB.contains (.type X)) {y : Str} {v : Value} {fI : Addr}
    (hC : h.get? C = some (excClassObj nm q C N bs bm hdct sn sub ab col dd k0 k1 k2 k3 k5 newId))
    (hi : W.Looks (model prog w) h (typeLookup (.ref C) "__init__") (some (.ref fI))) (hb : ∀ self, W.Looks (model prog w) h (bindSpecial (.ref fI) self) (.ref fI, [self]))
    (hq : codeAny (model prog w) (A.under (.builtin "type.__call__" ⟨[.ref C], [(y, v)]⟩)) (.call (.ref fI) ⟨[.ref (h.objs.size + 1)], [(y, v)]⟩) (W.InitBack (h.objs.size + 1) R)
      ⟨(h.push (W.kdv_tup [])).push (excO C h.objs.size), g, d, t, os⟩) :
    codeAny (model prog w) A (.call (.ref C) ⟨[], [(y, v)]⟩) R ⟨h, g, d, t, os⟩ := by
  have f1 := tc_lookup
  have f2 := tc_bind (.ref C)
  have hTy : (⟨h, g, d, t, os⟩ : Shared).TypeIs (.ref C) "type" := ⟨_, hC, rfl⟩
  refine codeAny_of_tree ?_
  show wpAny _ _ (callAny (.ref C) _) _ _ _
  repeat (any_goals (first | assumption | with_reducible refine wpAny_loadPart_at hC ?_ | wp_step))
  refine ⟨rfl, ?_⟩
  refine codeAny_call_builtin_at (Code.quiet_builtin _ (by decide +kernel)) entry_typeCall (wpAny_check_type_call_sub hC (type_call_kw F hT hC hi hb ?_))
  refine codeAny_mono hq fun r s' z => ?_
  rcases r with e | (v | _ | _ | _) <;> exact z
end
end
section
variable {X : Cx} {e : Expr} {es : List Expr} {kws : List Keyword} {f : Str} {p pos : Pos} {ta tk : TA}
/-- C(f = e), C's own __init__ keeping sp -/
theorem pmk_oexGK {CX : CXT} {x : Str} {C fI : Addr} {k : Nat} {fd : FuncData} {ps : List Str} {sp : Sp} (T : OexG X.K C) (iC : PySem.W.findIn X.K (.ref C) "__init__" = some (some (.ref fI))) (tI : PySem.W.typeIn X.K (.ref fI) = some (.type "function"))
    (F1 : FnOk X.prog X.w X.K X.mg X.base CX k fI fd ps sp) (hr : Room (k + 1) X.A) (hb : KB X.K fd ps 1 [f] [0, 1]) (hx : Passes CX X (fun _ _ _ => False)) (hg : Gl X x) (hm : X.mg x = some (.ref C)) (hkw : PK X kws tk)
    (hall : (backToKw pos (keywordEach kws X.env)).all (·.1.isSome) = true := by rfl) (hks : (backToKw pos (keywordEach kws X.env)).filterMap (·.1) = [f] := by rfl) (hdb : (x == ("__debug__" : Str)) = false := by decide)
    (hpl : ((backTo pos (starEach [] X.env)).any (·.1) || (backToKw pos (keywordEach kws X.env)).any (·.1.isNone)) = false := by rfl) :
    PMk X (.Call (.Name x p) [] kws pos) (fun σ H Q => tk σ H fun vs H1 => vs.length = 1 ∧ ∀ a, H1 a = none → sp (.ref a :: vs) (upd H1 a (exo a C none))
      (fun v H2 => v = .non ∧ ∃ (d : Addr) (fs : List (Str × V)), H2 a = some (exo a C (some d)) ∧ H2 d = some (exd d fs) ∧ H1 d = none ∧ Q (.ref C) (some d) (upd (del H2 a) d (.xd fs))) (fun _ _ _ => False)) := by
  intro pins s σ H Q I h
  obtain ⟨fm, nm, q, N, bs, bm, sn, sub, ab, col, dd, k0, k1, k2, k3, k5, hC, hbm⟩ := T.cls
  refine wpAny_Call_Name_kw (ld_glob I hg hm ?_ hdb)
  refine PySem.W.callWith_KW0 (h₀ := X.base) I.ok.mod.kin T.kC hall (thn (hkw.run pos pins s σ H _ I h) fun us s1 ⟨vs, H1, I1, r1, hz, q1⟩ => ⟨I1.kIn, ?_⟩) hpl
  rw [hks]
  obtain ⟨u, rfl⟩ : ∃ u, us = [u] := by
    have e := r1.length
    rw [hz] at e
    match us, e with
    | [u], _ => exact ⟨u, rfl⟩
  show wpAny _ _ (call (.ref C) [] [(f, u)]) _ _ _
  obtain ⟨hp, g, dr, tk, os⟩ := s1
  have hsz : hp.objs.size ≤ hp.objs.size + 1 := Nat.le_succ _
  have hn : H1 (hp.objs.size + 1) = none := I1.hok.fresh hsz
  have hq := q1 (hp.objs.size + 1) hn
  have kk : ∀ b o, hp.get? b = some o → ((hp.push (PySem.W.kdv_tup [])).push (PySem.HandSPX.excO C hp.objs.size)).get? b = some o := fun b o e => Heap.get?_push_of_some _ (Heap.get?_push_of_some _ e)
  have hget : ((hp.push (PySem.W.kdv_tup [])).push (PySem.HandSPX.excO C hp.objs.size)).get? (hp.objs.size + 1) = some (PySem.HandSPX.excO C hp.objs.size) := by heap_get
  have I2 : Inv X pins σ (upd H1 (hp.objs.size + 1) (exo (hp.objs.size + 1) C none)) ⟨(hp.push (PySem.W.kdv_tup [])).push (PySem.HandSPX.excO C hp.objs.size), g, dr, tk, os⟩ :=
    I1.laid (t' := tk) (a := hp.objs.size + 1) (o := exo (hp.objs.size + 1) C none) (h' := (hp.push (PySem.W.kdv_tup [])).push (PySem.HandSPX.excO C hp.objs.size)) kk hsz (exo_ok hget)
  have r2 : Vals (V.ref (hp.objs.size + 1) :: vs) (pick [0, 1] ([Value.ref (hp.objs.size + 1)] ++ [u])) := .cons rfl r1
  refine wpAny_call (call_kw fm.base (fun Y => refsT_contains fm.tail_own Y bm hbm) (I1.kIn _ _ hC) (PySem.W.looks_findIn I1.kIn iC) (fun self => PySem.W.bind_fn I1.kIn self tI)
    (codeAny_mono (F1.run _ X.stack _ _ ⟨[Value.ref (hp.objs.size + 1)], [(f, u)]⟩ (pick [0, 1] ([Value.ref (hp.objs.size + 1)] ++ [u])) _ _ (fun _ _ _ => False) (hr.make C [] [(f, u)]) (I2.env0.make C [] [(f, u)]) (hb _ [Value.ref (hp.objs.size + 1)] [u] I2.kIn rfl rfl) r2 hq) fun r s' hq' => ?_))
  cases r with
  | error er => exact hx pins σ _ _ er s' I2 hq'
  | ok fl =>
    cases fl with
    | ret u =>
      obtain ⟨v, H2, os2, bare2, un2, hok2, rv, ev, d, fs, ea, ed, hd1, q2⟩ := hq'
      subst ev
      obtain ⟨h2, g2, d2, t2, os'⟩ := s'
      exact ⟨rv, mk_end (raises_own T.exC T.tyC) I1 hsz kk un2 hok2 os2 bare2 ea ed hd1 q2⟩
    | next => exact False.elim hq'
    | brk => exact False.elim hq'
    | cont => exact False.elim hq'
/-- C(), a class without own __init__ -/
theorem pmk_ex0 {C : Addr} {bmB : List Value} {B newId initId : String} {x : Str} (F : ExcBaseFacts B newId initId bmB) (q : PySem.W.excIn X.K C bmB newId = true) (gC : X.mg x = some (.ref C)) (kC : PySem.W.keepIn X.K (.ref C) = true) (r : Raises X (.ref C)) (hg : Gl X x)
    (hdb : (x == ("__debug__" : Str)) = false := by decide) : PMk X (.Call (.Name x p) [] [] pos) (fun _ H Q => Q (.ref C) none H) := by
  intro pins s σ H Q I h
  refine wpAny_Call_Name_kw (ld_glob I hg gC ?_ hdb)
  refine PySem.W.callWith_K0 I.kIn kC ?_
  show wpAny _ _ (call (.ref C) []) _ _ _
  obtain ⟨bm, N, nm, qn, bs, hdct, sn, sub, ab, col, dd, k0, k1, k2, k3, k5, mN, hC, hN, hni, T⟩ := exc_obj I.kIn q
  refine wpAny_call_exc_subT F T hC hN hni (fun h' e hm => ?_) (Nat.zero_le _)
  exact mk_of I hm r h (I.hok.gone hm.new)
/-- an exception made stands as a value -/
theorem pe_ofmk {t : L2.St → Hp → XK → Prop} (h : PMk X e t) : PE X e (fun σ H Q => t σ H fun cls d H' => ∀ a, H' a = none → Q (.ref a) (upd H' a (ExO a cls d))) := by
  refine ⟨fun pins s σ H Q I q => wpAny_mono (h pins s σ H _ I q) (fun u s' hu => ?_) fun _ _ x => x⟩
  obtain ⟨a, oe, vs, sI, H', cls, d, rfl, J, k, hne, ha, hz, hd, h1, na, os, ag, r, q⟩ := hu
  have ok : ObjOk X.prog X.w (upd H' a (ExO a cls d)) s'.heap a (ExO a cls d) := ⟨⟨oe, vs, ha, hz, hd⟩, ⟨oe, ha⟩, fun _ _ ⟨o, v, q, r⟩ k => ⟨o, v, k o q, r⟩⟩
  have I2 := J.laidN (t' := s'.toks) (h' := s'.heap) k hne na ok
  have I3 : Inv X pins σ (upd H' a (ExO a cls d)) s' := ⟨I2.ok, by rw [os]; exact I2.os, ag, I2.base, I2.loc, I2.cell, I2.free, I2.freeC, I2.pin, I2.hok, I2.len⟩
  exact ⟨.ref a, _, I3, rfl, q a na⟩
end
end M

set_option Elab.async false
set_option linter.all false
set_option maxRecDepth 100000
set_option maxHeartbeats 4000000
/-! X25: our tree of C(e), C(f = e), C(), and its reading. -/
namespace M
open PySem L2 PyProof.Rows SlX
def mkX (c : Nat) (A : E) : Calls → Bool → Fm → Res RV := fun K _ q => bindR (ev K A false q) fun r q1 => match r.vd with
  | some d => .ok (.val (.exn c [d])) q1
  | none => .bad
def mkX0 (c : Nat) : Calls → Bool → Fm → Res RV := fun _ _ q => .ok (.val (.exn c [])) q
section
variable {Z : Zc} {K : Calls} {ex : XK} {s : Sg} {H : Hp}
theorem tE_mkX {c : Nat} {f : Str} {A : E} {pk : Bool} {Q : VK} (nc : Z.nc ≤ c) (nx : c < Z.nx) (xf : Z.xf c = [f]) (T : OexG Z.K (Z.C c)) (no : PySem.W.findIn Z.K (.ref (Z.C c)) f = some none) (h : tE Z K ex (.exp (mkX c A)) pk s H Q) :
    tE Z K ex A false s H fun w H1 => ∀ a, H1 a = none → spI Z.K f [.ref a, w] (upd H1 a (exo a (Z.C c) none))
      (fun v H2 => v = .non ∧ ∃ (d : Addr) (fs : List (Str × V)), H2 a = some (exo a (Z.C c) (some d)) ∧ H2 d = some (exd d fs) ∧ H1 d = none ∧ ∀ b, (upd (del H2 a) d (.xd fs)) b = none → Q (.ref b) (upd (upd (del H2 a) d (.xd fs)) b (ExO b (.ref (Z.C c)) (some d)))) (fun _ _ _ => False) := by
  unfold tE at h
  rw [show ev K (.exp (mkX c A)) pk = fun q => bindR (ev K A false q) fun r q1 => match r.vd with
    | some d => .ok (.val (.exn c [d])) q1
    | none => .bad from rfl] at h
  refine TR.bind h fun R0 q q1 r w H1 f0 l b pp z => ?_
  cases e1 : r.vd with
  | none => rw [e1] at z; exact z.elim
  | some d =>
    rw [e1] at z
    obtain ⟨f1, rp⟩ := pp.vd f0 e1
    refine fun a ha => ⟨a, Z.C c, w, rfl, upd_same, T, no, fun dx hdx ne => ⟨rfl, dx, [(f, w)], upd_same, by rw [upd_ne ne, upd_same], ?_, ?_⟩⟩
    · rw [upd_ne ne] at hdx; exact hdx
    · rw [upd_ne ne] at hdx
      have eH : upd (del (upd (upd (upd H1 a (exo a (Z.C c) none)) dx (exd dx [(f, w)])) a (exo a (Z.C c) (some dx))) a) dx (.xd [(f, w)]) = upd H1 dx (.xd [(f, w)]) := by
        funext b
        by_cases h1 : b = dx
        · rw [h1, upd_same, upd_same]
        · rw [upd_ne h1, upd_ne h1]
          by_cases h2 : b = a
          · rw [h2, del_same, ha]
          · rw [del_ne h2, upd_ne h2, upd_ne h1, upd_ne h2]
      rw [eH]
      intro x hx
      have nd : x ≠ dx := fun e => by rw [e, upd_same] at hx; cases hx
      have hx1 : H1 x = none := by rw [upd_ne nd] at hx; exact hx
      have sm1 := same_upd (o := .xd [(f, w)]) hdx
      have sm2 := same_upd (o := ExO x (.ref (Z.C c)) (some dx)) hx
      have sm : Same H1 (upd (upd H1 dx (.xd [(f, w)])) x (ExO x (.ref (Z.C c)) (some dx))) := fun b o e => sm2 _ _ (sm1 _ _ e)
      refine z _ _ (l.trans (Lat.same sm)) b ⟨f1.on sm (fun _ y => .inl y) fun b y => (Lat.same (R := Ow s q) sm).tr b (f1.trk b y), ?_⟩
      refine .exn nc nx (dx := dx) (xs := [w]) upd_same (by rw [upd_ne (Ne.symm nd), upd_same, xf]; rfl) (fun y => f1.rtT y hx1) (fun y => f1.rtT y hdx) (.cons (rp.lat (Lat.same sm)) .nil)
theorem tE_mkX0 {c : Nat} {pk : Bool} {Q : VK} (nc : Z.nc ≤ c) (nx : c < Z.nx) (h : tE Z K ex (.exp (mkX0 c)) pk s H Q) : ∀ a, H a = none → Q (.ref a) (upd H a (ExO a (.ref (Z.C c)) none)) := by
  obtain ⟨R0, q, f0, h⟩ := h
  intro a ha
  have sm := same_upd (o := ExO a (.ref (Z.C c)) none) ha
  exact h _ _ (Lat.same sm) (BK.refl q) ⟨f0.on sm (fun _ y => .inl y) fun b y => (Lat.same (R := Ow s q) sm).tr b (f0.trk b y), .exn0 nc nx upd_same fun y => f0.rtT y ha⟩
end
/-- a class of exceptions that is made with its value by name -/
structure Xdk (W : Wo) (x : Str) (c : Nat) (f : Str) : Prop where
  xd : Xd W x c f
  ek : ∃ fI fd, PySem.W.findIn W.Z.K (.ref (W.Z.C c)) "__init__" = some (some (.ref fI)) ∧ PySem.W.typeIn W.Z.K (.ref fI) = some (.type "function") ∧ FnOk W.P W.w W.Z.K W.mg W.base CX0 1 fI fd ["self", f] (spI W.Z.K f) ∧ KB W.Z.K fd ["self", f] 1 [f] [0, 1]
/-- one without own __init__ -/
structure Xd0 (W : Wo) (x : Str) (c : Nat) : Prop where
  nc : W.Z.nc ≤ c
  nx : c < W.Z.nx
  gC : W.mg x = some (.ref (W.Z.C c))
  kC : PySem.W.keepIn W.Z.K (.ref (W.Z.C c)) = true
  ok : ∃ fm : Fam, PySem.W.excIn W.Z.K (W.Z.C c) fm.tail fm.new = true
  exC : PySem.W.subIn W.Z.K (.ref (W.Z.C c)) (.type "BaseException") = some true
  tyC : PySem.W.typeIn W.Z.K (.ref (W.Z.C c)) = some (.type "type")
section
variable {W : Wo} {X : Cx} {ex : XK} {n : Nat} {p1 p2 p3 p4 pos : Pos} {a : Expr} {A : E} {x f : Str} {c : Nat}
theorem me_mkX [Calm W] (g : Gd W n X ex) (S : Xd W x c f) (ha : ME W X ex a A) (hn : 2 ≤ n := by omega) (hg : Gl X x := by rfl) (hdb : (x == ("__debug__" : Str)) = false := by decide)
    (he : starEach (a :: []) X.env = (false, eval a X.env) :: starEach [] X.env := by rfl) (hpl : (backTo p2 (starEach [] X.env)).any (·.1) = false := by rfl) : ME W X ex (.Call (.Name x p1) [a] [] p2) (.exp (mkX c A)) := fun pk => by
  obtain ⟨fI, fd, i1, i2, F1, hb⟩ := S.ex
  have F1 : FnOk X.prog X.w X.K X.mg X.base CX0 1 fI fd ["self", f] (spI W.Z.K f) := by rw [g.hP, g.hw, g.hK, g.hm, g.hb]; exact F1
  refine (pe_ofmk (pmk_oexG (C := W.Z.C c) (fI := fI) (ds := []) (dvs := []) (by rw [g.hK]; exact S.T) (by rw [g.hK]; exact i1) (by rw [g.hK]; exact i2) F1 (g.room.mono hn) (by rw [g.hK]; exact hb) .nil pass0 hg (by rw [g.hm]; exact S.gC) (pa_cons (ha false) pa_nil he) hdb he hpl)).imp fun s H Q h => ?_
  exact (tE_mkX S.nc S.nx S.xf S.T S.no h).mono fun w H1 z => ⟨by show 1 ≤ 1000; decide, fun a ha => z a ha⟩
theorem me_mkXK [Calm W] {nm : Option Str} (g : Gd W n X ex) (S : Xdk W x c f) (ha : ME W X ex a A) (hn : 2 ≤ n := by omega) (hg : Gl X x := by rfl) (hdb : (x == ("__debug__" : Str)) = false := by decide)
    (hall : (backToKw p2 (keywordEach [⟨nm, a, p3⟩] X.env)).all (·.1.isSome) = true := by rfl) (hks : (backToKw p2 (keywordEach [⟨nm, a, p3⟩] X.env)).filterMap (·.1) = [f] := by rfl)
    (hpl : ((backTo p2 (starEach [] X.env)).any (·.1) || (backToKw p2 (keywordEach [⟨nm, a, p3⟩] X.env)).any (·.1.isNone)) = false := by rfl) : ME W X ex (.Call (.Name x p1) [] [⟨nm, a, p3⟩] p2) (.exp (mkX c A)) := fun pk => by
  obtain ⟨fI, fd, i1, i2, F1, hb⟩ := S.ek
  have S := S.xd
  have F1 : FnOk X.prog X.w X.K X.mg X.base CX0 1 fI fd ["self", f] (spI W.Z.K f) := by rw [g.hP, g.hw, g.hK, g.hm, g.hb]; exact F1
  refine (pe_ofmk (pmk_oexGK (C := W.Z.C c) (fI := fI) (f := f) (by rw [g.hK]; exact S.T) (by rw [g.hK]; exact i1) (by rw [g.hK]; exact i2) F1 (g.room.mono hn) (by rw [g.hK]; exact hb) pass0 hg (by rw [g.hm]; exact S.gC) (pk_cons (ha false) pk_nil) hall hks hdb hpl)).imp fun s H Q h => ?_
  exact (tE_mkX S.nc S.nx S.xf S.T S.no h).mono fun w H1 z => ⟨rfl, fun a ha => z a ha⟩
theorem me_mkX0 (g : Gd W n X ex) (S : Xd0 W x c) (hg : Gl X x := by rfl) (hdb : (x == ("__debug__" : Str)) = false := by decide) : ME W X ex (.Call (.Name x p1) [] [] p2) (.exp (mkX0 c)) := fun pk => by
  obtain ⟨fm, ok⟩ := S.ok
  refine (pe_ofmk (pmk_ex0 (C := W.Z.C c) fm.base (by rw [g.hK]; exact ok) (by rw [g.hm]; exact S.gC) (by rw [g.hK]; exact S.kC) (raises_own (by rw [g.hK]; exact S.exC) (by rw [g.hK]; exact S.tyC)) hg hdb)).imp fun s H Q h => ?_
  exact tE_mkX0 S.nc S.nx h
end
end M

namespace M
open PySem L2 PyProof.Rows SlX
/-- what the top tells of a class without own __init__ -/
structure Xi0 (K : PySem.W.Frag) (mg : Str → Option Value) (C : Addr) (x : Str) : Prop where
  gC : mg x = some (.ref C)
  kC : PySem.W.keepIn K (.ref C) = true
  ok : ∃ fm : Fam, PySem.W.excIn K C fm.tail fm.new = true
  exC : PySem.W.subIn K (.ref C) (.type "BaseException") = some true
  tyC : PySem.W.typeIn K (.ref C) = some (.type "type")
theorem xd0_of {W : Wo} {x : Str} {c : Nat} (X : Xi0 W.Z.K W.mg (W.Z.C c) x) (nc : W.Z.nc ≤ c) (nx : c < W.Z.nx) : Xd0 W x c := ⟨nc, nx, X.gC, X.kC, X.ok, X.exC, X.tyC⟩
def Xik (K : PySem.W.Frag) (C : Addr) (f qual : Str) (st : Stmt) : Prop := ∃ fI fd, PySem.W.findIn K (.ref C) "__init__" = some (some (.ref fI)) ∧ PySem.W.typeIn K (.ref fI) = some (.type "function") ∧ L2.Fun K "__init__" qual st fI fd ∧ KB K fd ["self", f] 1 [f] [0, 1]
theorem xdk_of {W : Wo} {x f qual : Str} {st : Stmt} {c : Nat} {p1 p2 p3 p4 : Pos} (X : Xi W.Z.K W.mg (W.Z.C c) x f qual st) (X2 : Xik W.Z.K (W.Z.C c) f qual st) (S : FnScope ["self", f] ["self", f] (defScope st)) (hB : defBody st = [.Assign [.Attribute (.Name "self" p1) f p2] (.Name f p3) p4]) (nc : W.Z.nc ≤ c) (nx : c < W.Z.nx) (xf : W.Z.xf c = [f])
    (h1 : (f == ("__debug__" : Str)) = false := by decide) (h2 : (f == ("__classdict__" : Str)) = false := by decide) : Xdk W x c f := by
  obtain ⟨fI, fd, i1, i2, F, hb⟩ := X2
  exact ⟨xd_of X S hB nc nx xf h1 h2, fI, fd, i1, i2, xinit_ok F S hB h1 h2, hb⟩
section
variable {K : Calls} {q : Fm} {A : E} {m : Mo D} {c : Nat}
theorem e_mkX (h : EV K A q m) : EB K (.exp (mkX c A)) q (m >>= fun d => .ok (.exn c [d])) := fun pk => by
  rw [show ev K (.exp (mkX c A)) pk q = bindR (ev K A false q) fun r q1 => match r.vd with
    | some d => .ok (.val (.exn c [d])) q1
    | none => .bad from rfl]
  refine Rl.bind (h false) fun a r q' ⟨h1, h2⟩ => ?_
  subst h1
  rw [h2]
  refine Rl.ok ?_; exact ⟨rfl, rfl⟩
theorem e_mkX0 : EB K (.exp (mkX0 c)) q (.ok (.exn c [])) := fun pk => by
  rw [show ev K (.exp (mkX0 c)) pk q = .ok (.val (.exn c [])) q from rfl]
  refine Rl.ok ?_; exact ⟨rfl, rfl⟩
end
end M


set_option Elab.async false
set_option linter.all false
set_option maxRecDepth 100000
set_option maxHeartbeats 8000000
namespace M
open PySem L2 PyProof.Rows SlX
/-! ### the text by places, our trees (printed by gen.py) -/
def top (i : Nat) : Stmt := PySem.Challenge.pw_alltriangular_k01_limits_and_errors.main.body.getD i (.Pass ⟨0, 0, 0, 0⟩)
abbrev s__law_cast : Stmt := top 32
abbrev s__law_any_of : Stmt := top 33
abbrev s__law_thing : Stmt := top 34
abbrev s__law_bases : Stmt := top 38
abbrev s__law_flags : Stmt := top 37
abbrev s__law_held : Stmt := top 39
abbrev s__law_some_right : Stmt := top 40
abbrev s__law_placed : Stmt := top 35
abbrev s__law_named : Stmt := top 36
abbrev s__law_right : Stmt := top 41
abbrev s__law_begun : Stmt := top 31
abbrev s_law : Stmt := top 42
def t__law_cast : Ss := (.cons (.ift (.val (.prm .gt (.cons (.prm .idx (.cons (.var 0) (.cons (.con (.int 0)) .nil))) (.cons (.con (.int 0)) .nil)))) (.cons (.asgS (.tp (.cons (.sub 0 (.con (.int 0))) (.cons (.nm 3) .nil))) (.prm .divmod (.cons (.prm .idx (.cons (.var 0) (.cons (.con (.int 0)) .nil))) (.cons (.var 1) .nil)))) (.cons (.retS (.var 3)) .nil)) .nil) (.cons (.asgS (.sub 0 (.con (.int 2))) (.prm .add (.cons (.prm .idx (.cons (.var 0) (.cons (.con (.int 2)) .nil))) (.cons (.con (.int 1)) .nil)))) (.cons (.asgS (.nm 2) (.prm .mod (.cons (.prm .int (.cons (.prm .add (.cons (.prm .add (.cons (.prm .mul (.cons (.prm .idx (.cons (.var 0) (.cons (.con (.int 1)) .nil))) (.cons (.prm .add (.cons (.con (.int 36809)) (.cons (.prm .mul (.cons (.con (.int 2)) (.cons (.prm .idx (.cons (.var 0) (.cons (.con (.int 2)) .nil))) .nil))) .nil))) .nil))) (.cons (.prm .mul (.cons (.con (.int 5303)) (.cons (.prm .idx (.cons (.var 0) (.cons (.con (.int 2)) .nil))) .nil))) .nil))) (.cons (.con (.int 7)) .nil))) .nil)) (.cons (.con (.int 2147483629)) .nil)))) (.cons (.asgS (.sub 0 (.con (.int 1))) (.prm .mod (.cons (.prm .int (.cons (.prm .add (.cons (.prm .add (.cons (.prm .mul (.cons (.var 2) (.cons (.con (.int 45413)) .nil))) (.cons (.prm .mul (.cons (.con (.int 3)) (.cons (.prm .idx (.cons (.var 0) (.cons (.con (.int 2)) .nil))) .nil))) .nil))) (.cons (.con (.int 1)) .nil))) .nil)) (.cons (.con (.int 2147483587)) .nil)))) (.cons (.retS (.prm .mod (.cons (.prm .int (.cons (.prm .fdiv (.cons (.prm .idx (.cons (.var 0) (.cons (.con (.int 1)) .nil))) (.cons (.con (.int 256)) .nil))) .nil)) (.cons (.var 1) .nil)))) .nil)))))
def d__law_cast : FDef := ⟨2, 4, t__law_cast⟩
def t__law_any_of : Ss := (.cons (.retS (.prm .idx (.cons (.var 1) (.cons (.call 1000 (.b 0 (.v (.prm .len (.cons (.var 1) .nil)) .nil))) .nil)))) .nil)
def d__law_any_of : FDef := ⟨2, 2, t__law_any_of⟩
def t__law_thing : Ss := (.cons (.asgS (.nm 1) (.lst (.one (.con .non) (.one (.con (.bl true)) (.one (.con (.bl false)) (.one (.con (.int 0)) (.one (.con (.int 1)) (.one (.prm .neg (.cons (.con (.int 1)) .nil)) (.one (.con (.int 2)) (.one (.prm .add (.cons (.prm .pow (.cons (.con (.int 10)) (.cons (.con (.int 6)) .nil))) (.cons (.con (.int 1)) .nil))) (.one (.prm .neg (.cons (.prm .pow (.cons (.con (.int 10)) (.cons (.con (.int 39)) .nil))) .nil)) (.one (.con (.str "")) (.one (.con (.str "a")) (.one (.con (.str "lot 1")) (.one (.tup .nil) (.one (.tup (.one (.con (.int 0)) .nil)) (.one (.tup (.one (.con (.int 1)) (.one (.con (.int 0)) .nil))) (.one (.tup (.one (.tup (.one (.con (.int 5)) .nil)) .nil)) (.one (.con (.str "A")) .nil))))))))))))))))))) (.cons (.asgS (.nm 1) (.prm .add (.cons (.var 1) (.cons (.lst (.one (.lst .nil) (.one (.lst (.one (.con (.int 1)) .nil)) (.one (.con (.dct [])) (.one (.con (.dct [("a", 1)])) (.one (.tup (.one (.tup (.one (.con (.int 1)) (.one (.con (.int 2)) .nil))) .nil)) (.one (.tup (.one (.tup (.one (.con (.int 1)) (.one (.con (.int 0)) .nil))) (.one (.tup (.one (.con (.int 0)) (.one (.con (.int 1)) .nil))) .nil))) (.one (.tup (.one (.tup (.one (.tup (.one (.con (.int 5)) .nil)) .nil)) .nil)) (.one (.tup (.one (.con (.str "all")) .nil)) (.one (.tup (.one (.con .non) .nil)) (.one (.con (.str "abcdefghi")) .nil))))))))))) .nil)))) (.cons (.retS (.call 1001 (.b 0 (.v (.var 1) .nil)))) .nil)))
def d__law_thing : FDef := ⟨1, 2, t__law_thing⟩
def t__law_bases : Ss := (.cons (.asgS (.nm 1) (.lst (.one (.prm (.isX [0, 1, 2, 3, 4, 5, 6, 7, 8, 9, 10, 11, 12, 20]) (.cons (.var 0) .nil)) (.one (.prm (.isX [13, 14, 21]) (.cons (.var 0) .nil)) (.one (.prm (.isX [15, 16, 17, 18, 19, 22]) (.cons (.var 0) .nil)) .nil))))) (.cons (.retS (.prm .add (.cons (.var 1) (.cons (.lst (.one (.prm (.isX [0, 1, 2, 3, 4, 5, 6, 7, 8, 9, 10, 11, 12, 20]) (.cons (.var 0) .nil)) (.one (.prm (.isX [13, 14, 21]) (.cons (.var 0) .nil)) (.one (.prm (.isX [15, 16, 17, 18, 19, 22]) (.cons (.var 0) .nil)) .nil)))) .nil)))) .nil))
def d__law_bases : FDef := ⟨1, 2, t__law_bases⟩
def t__law_flags : Ss := (.cons (.asgS (.nm 1) (.lst (.one (.prm (.isX [0]) (.cons (.var 0) .nil)) (.one (.prm (.isX [1]) (.cons (.var 0) .nil)) (.one (.prm (.isX [2]) (.cons (.var 0) .nil)) .nil))))) (.cons (.asgS (.nm 1) (.prm .add (.cons (.var 1) (.cons (.lst (.one (.prm (.isX [3]) (.cons (.var 0) .nil)) (.one (.prm (.isX [4]) (.cons (.var 0) .nil)) (.one (.prm (.isX [5]) (.cons (.var 0) .nil)) .nil)))) .nil)))) (.cons (.asgS (.nm 1) (.prm .add (.cons (.var 1) (.cons (.lst (.one (.prm (.isX [6]) (.cons (.var 0) .nil)) (.one (.prm (.isX [7]) (.cons (.var 0) .nil)) (.one (.prm (.isX [8]) (.cons (.var 0) .nil)) .nil)))) .nil)))) (.cons (.asgS (.nm 1) (.prm .add (.cons (.var 1) (.cons (.lst (.one (.prm (.isX [9]) (.cons (.var 0) .nil)) (.one (.prm (.isX [10]) (.cons (.var 0) .nil)) (.one (.prm (.isX [11]) (.cons (.var 0) .nil)) .nil)))) .nil)))) (.cons (.asgS (.nm 1) (.prm .add (.cons (.var 1) (.cons (.lst (.one (.prm (.isX [12]) (.cons (.var 0) .nil)) (.one (.prm (.isX [13]) (.cons (.var 0) .nil)) (.one (.prm (.isX [14]) (.cons (.var 0) .nil)) .nil)))) .nil)))) (.cons (.asgS (.nm 1) (.prm .add (.cons (.var 1) (.cons (.lst (.one (.prm (.isX [15]) (.cons (.var 0) .nil)) (.one (.prm (.isX [16]) (.cons (.var 0) .nil)) (.one (.prm (.isX [17]) (.cons (.var 0) .nil)) .nil)))) .nil)))) (.cons (.retS (.prm .add (.cons (.var 1) (.cons (.lst (.one (.prm (.isX [18]) (.cons (.var 0) .nil)) (.one (.prm (.isX [19]) (.cons (.var 0) .nil)) .nil))) .nil)))) .nil)))))))
def d__law_flags : FDef := ⟨1, 2, t__law_flags⟩
def t__law_held : Ss := (.cons (.retS (.ife (.val (.prm .isIn (.cons (.var 1) (.cons (.lst (.one (.con (.int 8)) (.one (.con (.int 9)) (.one (.con (.int 10)) (.one (.con (.int 11)) (.one (.con (.int 12)) (.one (.con (.int 14)) (.one (.con (.int 19)) .nil)))))))) .nil)))) (.prm (.fldX [8, 9, 10, 11, 12, 14, 19]) (.cons (.var 0) .nil)) (.prm (.fldX [0, 1, 2, 3, 4, 5, 6, 7, 13, 15, 16, 17]) (.cons (.var 0) .nil)))) .nil)
def d__law_held : FDef := ⟨2, 2, t__law_held⟩
def t__law_some_right : Ss := (.cons (.for (.nm 2) (.rng1 (.con (.int 20))) (.cons (.asgS (.nm 3) (.ife (.val (.prm .lt (.cons (.var 2) (.cons (.con (.int 13)) .nil)))) (.con (.int 0)) (.ife (.val (.prm .lt (.cons (.var 2) (.cons (.con (.int 15)) .nil)))) (.con (.int 1)) (.con (.int 2))))) (.cons (.ift (.val (.prm .ne (.cons (.call 1004 (.v (.prm .idx (.cons (.var 0) (.cons (.var 2) .nil))) .nil)) (.cons (.lc [4] (.nm 4) (.rng1 (.con (.int 20))) .yes (.prm .eq (.cons (.var 4) (.cons (.var 2) .nil)))) .nil)))) (.cons (.retS (.con (.bl false))) .nil) .nil) (.cons (.ift (.val (.prm .ne (.cons (.call 1003 (.v (.prm .idx (.cons (.var 0) (.cons (.var 2) .nil))) .nil)) (.cons (.prm .mul (.cons (.lc [4] (.nm 4) (.rng1 (.con (.int 3))) .yes (.prm .eq (.cons (.var 4) (.cons (.var 3) .nil)))) (.cons (.con (.int 2)) .nil))) .nil)))) (.cons (.retS (.con (.bl false))) .nil) .nil) (.cons (.ift (.all (.val (.prm .ne (.cons (.var 2) (.cons (.con (.int 18)) .nil)))) (.val (.prm .ne (.cons (.prm .repr (.cons (.call 1005 (.v (.prm .idx (.cons (.var 0) (.cons (.var 2) .nil))) (.v (.var 2) .nil))) .nil)) (.cons (.prm .repr (.cons (.var 1) .nil)) .nil))))) (.cons (.retS (.con (.bl false))) .nil) .nil) (.cons (.kil [2, 3]) .nil)))))) (.cons (.retS (.prm .eq (.cons (.prm .len (.cons (.var 0) .nil)) (.cons (.con (.int 20)) .nil)))) .nil))
def d__law_some_right : FDef := ⟨2, 5, t__law_some_right⟩
def t__law_placed : Ss := (.cons (.asgS (.nm 1) (.lst (.one (.exp (mkX 0 (.var 0))) (.one (.exp (mkX 1 (.var 0))) (.one (.exp (mkX 2 (.var 0))) (.one (.exp (mkX 3 (.var 0))) (.one (.exp (mkX 4 (.var 0))) .nil))))))) (.cons (.asgS (.nm 1) (.prm .add (.cons (.var 1) (.cons (.lst (.one (.exp (mkX 5 (.var 0))) (.one (.exp (mkX 6 (.var 0))) (.one (.exp (mkX 7 (.var 0))) (.one (.exp (mkX 8 (.var 0))) (.one (.exp (mkX 9 (.var 0))) .nil)))))) .nil)))) (.cons (.asgS (.nm 1) (.prm .add (.cons (.var 1) (.cons (.lst (.one (.exp (mkX 10 (.var 0))) (.one (.exp (mkX 11 (.var 0))) (.one (.exp (mkX 12 (.var 0))) (.one (.exp (mkX 13 (.var 0))) .nil))))) .nil)))) (.cons (.asgS (.nm 1) (.prm .add (.cons (.var 1) (.cons (.lst (.one (.exp (mkX 14 (.var 0))) (.one (.exp (mkX 15 (.var 0))) (.one (.exp (mkX 16 (.var 0))) (.one (.exp (mkX 17 (.var 0))) .nil))))) .nil)))) (.cons (.retS (.prm .add (.cons (.var 1) (.cons (.lst (.one (.exp (mkX0 18)) (.one (.exp (mkX 19 (.var 0))) .nil))) .nil)))) .nil)))))
def d__law_placed : FDef := ⟨1, 2, t__law_placed⟩
def t__law_named : Ss := (.cons (.asgS (.nm 1) (.lst (.one (.exp (mkX 0 (.var 0))) (.one (.exp (mkX 1 (.var 0))) (.one (.exp (mkX 2 (.var 0))) (.one (.exp (mkX 3 (.var 0))) .nil)))))) (.cons (.asgS (.nm 1) (.prm .add (.cons (.var 1) (.cons (.lst (.one (.exp (mkX 4 (.var 0))) (.one (.exp (mkX 5 (.var 0))) (.one (.exp (mkX 6 (.var 0))) .nil)))) .nil)))) (.cons (.asgS (.nm 1) (.prm .add (.cons (.var 1) (.cons (.lst (.one (.exp (mkX 7 (.var 0))) (.one (.exp (mkX 8 (.var 0))) (.one (.exp (mkX 9 (.var 0))) .nil)))) .nil)))) (.cons (.asgS (.nm 1) (.prm .add (.cons (.var 1) (.cons (.lst (.one (.exp (mkX 10 (.var 0))) (.one (.exp (mkX 11 (.var 0))) (.one (.exp (mkX 12 (.var 0))) .nil)))) .nil)))) (.cons (.asgS (.nm 1) (.prm .add (.cons (.var 1) (.cons (.lst (.one (.exp (mkX 13 (.var 0))) (.one (.exp (mkX 14 (.var 0))) (.one (.exp (mkX 15 (.var 0))) (.one (.exp (mkX 16 (.var 0))) .nil))))) .nil)))) (.cons (.retS (.prm .add (.cons (.var 1) (.cons (.lst (.one (.exp (mkX 17 (.var 0))) (.one (.exp (mkX0 18)) (.one (.exp (mkX 19 (.var 0))) .nil)))) .nil)))) .nil))))))
def d__law_named : FDef := ⟨1, 2, t__law_named⟩
def t__law_right : Ss := (.cons (.for (.nm 1) (.rng1 (.con (.int 4))) (.cons (.asgS (.nm 3) (.call 1002 (.b 0 .nil))) (.cons (.ift (.any (.not (.val (.call 1006 (.v (.call 1007 (.v (.var 3) .nil)) (.v (.var 3) .nil))))) (.not (.val (.call 1006 (.v (.call 1008 (.v (.var 3) .nil)) (.v (.var 3) .nil)))))) (.cons (.retS (.con (.bl false))) .nil) .nil) (.cons (.kil [1, 3]) .nil)))) (.cons (.asgS (.nm 2) (.lc [4] (.nm 4) (.seq (.lst (.one (.exp (mkX0 20)) (.one (.exp (mkX0 21)) (.one (.exp (mkX0 22)) .nil))))) .yes (.prm (.slo false true) (.cons (.call 1003 (.v (.var 4) .nil)) (.cons (.con (.int 3)) .nil))))) (.cons (.retS (.prm .eq (.cons (.var 2) (.cons (.lst (.one (.lst (.one (.con (.bl true)) (.one (.con (.bl false)) (.one (.con (.bl false)) .nil)))) (.one (.lst (.one (.con (.bl false)) (.one (.con (.bl true)) (.one (.con (.bl false)) .nil)))) (.one (.lst (.one (.con (.bl false)) (.one (.con (.bl false)) (.one (.con (.bl true)) .nil)))) .nil)))) .nil)))) .nil)))
def d__law_right : FDef := ⟨1, 5, t__law_right⟩
def t__law_begun : Ss := (.cons (.asgS (.nm 2) (.ife (.val (.prm .lt (.cons (.var 1) (.cons (.prm .len (.cons (.var 0) .nil)) .nil)))) (.prm .idx (.cons (.var 0) (.cons (.var 1) .nil))) (.con (.int 0)))) (.cons (.asgS (.nm 3) (.prm .add (.cons (.con (.int 60013)) (.cons (.prm .mul (.cons (.con (.int 7727)) (.cons (.var 1) .nil))) .nil)))) (.cons (.for (.nm 4) (.seq (.prm (.slo false true) (.cons (.var 0) (.cons (.con (.int 6)) .nil)))) (.cons (.asgS (.nm 3) (.prm .mod (.cons (.prm .int (.cons (.prm .add (.cons (.prm .add (.cons (.prm .mul (.cons (.var 3) (.cons (.con (.int 30269)) .nil))) (.cons (.prm .mul (.cons (.var 4) (.cons (.con (.int 7)) .nil))) .nil))) (.cons (.con (.int 13)) .nil))) .nil)) (.cons (.con (.int 2147483629)) .nil)))) (.cons (.kil [4]) .nil))) (.cons (.ret (.lst (.one (.ife (.any (.val (.prm .lt (.cons (.var 2) (.cons (.con (.int 0)) .nil)))) (.val (.prm .ge (.cons (.var 2) (.cons (.prm .pow (.cons (.con (.int 10)) (.cons (.con (.int 18)) .nil))) .nil))))) (.prm .abs (.cons (.var 2) .nil)) (.con (.int 0))) (.one (.prm .mod (.cons (.prm .int (.cons (.prm .add (.cons (.prm .add (.cons (.prm .mul (.cons (.var 3) (.cons (.con (.int 53)) .nil))) (.cons (.prm .mul (.cons (.var 2) (.cons (.var 2) .nil))) .nil))) (.cons (.prm .mul (.cons (.con (.int 17)) (.cons (.var 1) .nil))) .nil))) .nil)) (.cons (.con (.int 2147483629)) .nil))) (.one (.con (.int 0)) .nil))))) .nil))))
def d__law_begun : FDef := ⟨2, 5, t__law_begun⟩
def t_law : Ss := (.cons (.asgS (.nm 1) (.lst (.one (.glo "MOST_SIZE" (.int 4)) (.one (.glo "MOST_TABLES" (.int 3)) (.one (.glo "MOST_NUMBER" (.int 1000000)) (.one (.glo "MOST_LETTERS" (.int 40)) (.one (.glo "MOST_COLUMNS" (.int 8)) (.one (.glo "MOST_CHANGES" (.int 6)) .nil)))))))) (.cons (.ift (.val (.prm .ne (.cons (.prm .repr (.cons (.var 1) .nil)) (.cons (.prm .repr (.cons (.lst (.one (.con (.int 4)) (.one (.con (.int 3)) (.one (.prm .pow (.cons (.con (.int 10)) (.cons (.con (.int 6)) .nil))) (.one (.con (.int 40)) (.one (.con (.int 8)) (.one (.con (.int 6)) .nil))))))) .nil)) .nil)))) (.cons (.retS (.con (.bl false))) .nil) .nil) (.cons (.retS (.prm .all (.cons (.lc [2] (.nm 2) (.rng1 (.prm .max2 (.cons (.con (.int 2)) (.cons (.prm .min2 (.cons (.prm .len (.cons (.var 0) .nil)) (.cons (.con (.int 5)) .nil))) .nil)))) .yes (.callO 1009 (.call 1010 (.v (.var 0) (.v (.var 2) .nil))))) .nil))) .nil)))
def d_law : FDef := ⟨1, 3, t_law⟩
def tab : Tab := ⟨[(1000, d__law_cast), (1001, d__law_any_of), (1002, d__law_thing), (1003, d__law_bases), (1004, d__law_flags), (1005, d__law_held), (1006, d__law_some_right), (1007, d__law_placed), (1008, d__law_named), (1009, d__law_right), (1010, d__law_begun), (1011, d_law)], [], []⟩
/-! ### what of the text the bodies ask -/
structure Tx (W : Wo) (k : Nat) : Prop where
  f__law_cast : Fd W k "_law_cast" 1000
  f__law_any_of : Fd W k "_law_any_of" 1001
  f__law_thing : Fd W k "_law_thing" 1002
  f__law_bases : Fd W k "_law_bases" 1003
  f__law_flags : Fd W k "_law_flags" 1004
  f__law_held : Fd W k "_law_held" 1005
  f__law_some_right : Fd W k "_law_some_right" 1006
  f__law_placed : Fd W k "_law_placed" 1007
  f__law_named : Fd W k "_law_named" 1008
  f__law_right : Fd W k "_law_right" 1009
  f__law_begun : Fd W k "_law_begun" 1010
  f_law : Fd W k "law" 1011
  co : Co W.Z W.Z.nc
  xd_InvalidText : Xd W "InvalidText" 0 "given"
  xd_InvalidName : Xd W "InvalidName" 1 "given"
  xd_InvalidIndex : Xd W "InvalidIndex" 2 "given"
  xd_InvalidSize : Xd W "InvalidSize" 3 "given"
  xd_InvalidTable : Xd W "InvalidTable" 4 "given"
  xd_InvalidView : Xd W "InvalidView" 5 "given"
  xd_InvalidWish : Xd W "InvalidWish" 6 "given"
  xd_NotLot : Xd W "NotLot" 7 "given"
  xd_InvalidTables : Xd W "InvalidTables" 8 "index"
  xd_InvalidWord : Xd W "InvalidWord" 9 "index"
  xd_InvalidColumns : Xd W "InvalidColumns" 10 "index"
  xd_InvalidChanges : Xd W "InvalidChanges" 11 "index"
  xd_InvalidWishes : Xd W "InvalidWishes" 12 "index"
  xd_UnknownName : Xd W "UnknownName" 13 "given"
  xd_InUse : Xd W "InUse" 14 "index"
  xd_NotTriangular : Xd W "NotTriangular" 15 "given"
  xd_OtherSize : Xd W "OtherSize" 16 "given"
  xd_TooMany : Xd W "TooMany" 17 "given"
  xd_Broken : Xd W "Broken" 19 "index"
  x0_NothingToUndo : Xd0 W "NothingToUndo" 18
  x0_WrongValue : Xd0 W "WrongValue" 20
  x0_WrongName : Xd0 W "WrongName" 21
  x0_NotPossible : Xd0 W "NotPossible" 22
  xk0_Broken : Xdk W "Broken" 19 "index"
  xk0_InUse : Xdk W "InUse" 14 "index"
  xk0_InvalidChanges : Xdk W "InvalidChanges" 11 "index"
  xk0_InvalidColumns : Xdk W "InvalidColumns" 10 "index"
  xk0_InvalidIndex : Xdk W "InvalidIndex" 2 "given"
  xk0_InvalidName : Xdk W "InvalidName" 1 "given"
  xk0_InvalidSize : Xdk W "InvalidSize" 3 "given"
  xk0_InvalidTable : Xdk W "InvalidTable" 4 "given"
  xk0_InvalidTables : Xdk W "InvalidTables" 8 "index"
  xk0_InvalidText : Xdk W "InvalidText" 0 "given"
  xk0_InvalidView : Xdk W "InvalidView" 5 "given"
  xk0_InvalidWish : Xdk W "InvalidWish" 6 "given"
  xk0_InvalidWishes : Xdk W "InvalidWishes" 12 "index"
  xk0_InvalidWord : Xdk W "InvalidWord" 9 "index"
  xk0_NotLot : Xdk W "NotLot" 7 "given"
  xk0_NotTriangular : Xdk W "NotTriangular" 15 "given"
  xk0_OtherSize : Xdk W "OtherSize" 16 "given"
  xk0_TooMany : Xdk W "TooMany" 17 "given"
  xk0_UnknownName : Xdk W "UnknownName" 13 "given"
  xo : Xo W.Z
  xk_ArithmeticError : Xk W.Z (.type "ArithmeticError") [15, 16, 17, 18, 19, 22]
  xk_Broken : ∃ CT, W.mg "Broken" = some (.ref CT) ∧ Xk W.Z (.ref CT) [19]
  xk_InUse : ∃ CT, W.mg "InUse" = some (.ref CT) ∧ Xk W.Z (.ref CT) [14]
  xk_InvalidChanges : ∃ CT, W.mg "InvalidChanges" = some (.ref CT) ∧ Xk W.Z (.ref CT) [11]
  xk_InvalidColumns : ∃ CT, W.mg "InvalidColumns" = some (.ref CT) ∧ Xk W.Z (.ref CT) [10]
  xk_InvalidIndex : ∃ CT, W.mg "InvalidIndex" = some (.ref CT) ∧ Xk W.Z (.ref CT) [2]
  xk_InvalidName : ∃ CT, W.mg "InvalidName" = some (.ref CT) ∧ Xk W.Z (.ref CT) [1]
  xk_InvalidSize : ∃ CT, W.mg "InvalidSize" = some (.ref CT) ∧ Xk W.Z (.ref CT) [3]
  xk_InvalidTable : ∃ CT, W.mg "InvalidTable" = some (.ref CT) ∧ Xk W.Z (.ref CT) [4]
  xk_InvalidTables : ∃ CT, W.mg "InvalidTables" = some (.ref CT) ∧ Xk W.Z (.ref CT) [8]
  xk_InvalidText : ∃ CT, W.mg "InvalidText" = some (.ref CT) ∧ Xk W.Z (.ref CT) [0]
  xk_InvalidView : ∃ CT, W.mg "InvalidView" = some (.ref CT) ∧ Xk W.Z (.ref CT) [5]
  xk_InvalidWish : ∃ CT, W.mg "InvalidWish" = some (.ref CT) ∧ Xk W.Z (.ref CT) [6]
  xk_InvalidWishes : ∃ CT, W.mg "InvalidWishes" = some (.ref CT) ∧ Xk W.Z (.ref CT) [12]
  xk_InvalidWord : ∃ CT, W.mg "InvalidWord" = some (.ref CT) ∧ Xk W.Z (.ref CT) [9]
  xk_LookupError : Xk W.Z (.type "LookupError") [13, 14, 21]
  xk_NotLot : ∃ CT, W.mg "NotLot" = some (.ref CT) ∧ Xk W.Z (.ref CT) [7]
  xk_NotPossible : ∃ CT, W.mg "NotPossible" = some (.ref CT) ∧ Xk W.Z (.ref CT) [15, 16, 17, 18, 19, 22]
  xk_NotTriangular : ∃ CT, W.mg "NotTriangular" = some (.ref CT) ∧ Xk W.Z (.ref CT) [15]
  xk_NothingToUndo : ∃ CT, W.mg "NothingToUndo" = some (.ref CT) ∧ Xk W.Z (.ref CT) [18]
  xk_OtherSize : ∃ CT, W.mg "OtherSize" = some (.ref CT) ∧ Xk W.Z (.ref CT) [16]
  xk_TooMany : ∃ CT, W.mg "TooMany" = some (.ref CT) ∧ Xk W.Z (.ref CT) [17]
  xk_UnknownName : ∃ CT, W.mg "UnknownName" = some (.ref CT) ∧ Xk W.Z (.ref CT) [13]
  xk_ValueError : Xk W.Z (.type "ValueError") [0, 1, 2, 3, 4, 5, 6, 7, 8, 9, 10, 11, 12, 20]
  xk_WrongName : ∃ CT, W.mg "WrongName" = some (.ref CT) ∧ Xk W.Z (.ref CT) [13, 14, 21]
  xk_WrongValue : ∃ CT, W.mg "WrongValue" = some (.ref CT) ∧ Xk W.Z (.ref CT) [0, 1, 2, 3, 4, 5, 6, 7, 8, 9, 10, 11, 12, 20]
  xf_given : Xf W.Z "given" [0, 1, 2, 3, 4, 5, 6, 7, 13, 15, 16, 17]
  xf_index : Xf W.Z "index" [8, 9, 10, 11, 12, 14, 19]
  n_ArithmeticError : W.mg "ArithmeticError" = none
  n_LookupError : W.mg "LookupError" = none
  n_ValueError : W.mg "ValueError" = none
  n_abs : W.mg "abs" = none
  n_all : W.mg "all" = none
  n_divmod : W.mg "divmod" = none
  n_int : W.mg "int" = none
  n_isinstance : W.mg "isinstance" = none
  n_len : W.mg "len" = none
  n_max : W.mg "max" = none
  n_min : W.mg "min" = none
  n_range : W.mg "range" = none
  n_repr : W.mg "repr" = none
  x_MOST_CHANGES : ∃ t, W.mg "MOST_CHANGES" = some (.int 6 t)
  x_MOST_COLUMNS : ∃ t, W.mg "MOST_COLUMNS" = some (.int 8 t)
  x_MOST_LETTERS : ∃ t, W.mg "MOST_LETTERS" = some (.int 40 t)
  x_MOST_NUMBER : ∃ t, W.mg "MOST_NUMBER" = some (.int 1000000 t)
  x_MOST_SIZE : ∃ t, W.mg "MOST_SIZE" = some (.int 4 t)
  x_MOST_TABLES : ∃ t, W.mg "MOST_TABLES" = some (.int 3 t)
noncomputable def Tx.t_MOST_CHANGES {W : Wo} {k : Nat} (T : Tx W k) : Tok := T.x_MOST_CHANGES.choose
theorem Tx.c_MOST_CHANGES {W : Wo} {k : Nat} (T : Tx W k) : W.mg "MOST_CHANGES" = some (.int 6 T.t_MOST_CHANGES) := T.x_MOST_CHANGES.choose_spec
noncomputable def Tx.t_MOST_COLUMNS {W : Wo} {k : Nat} (T : Tx W k) : Tok := T.x_MOST_COLUMNS.choose
theorem Tx.c_MOST_COLUMNS {W : Wo} {k : Nat} (T : Tx W k) : W.mg "MOST_COLUMNS" = some (.int 8 T.t_MOST_COLUMNS) := T.x_MOST_COLUMNS.choose_spec
noncomputable def Tx.t_MOST_LETTERS {W : Wo} {k : Nat} (T : Tx W k) : Tok := T.x_MOST_LETTERS.choose
theorem Tx.c_MOST_LETTERS {W : Wo} {k : Nat} (T : Tx W k) : W.mg "MOST_LETTERS" = some (.int 40 T.t_MOST_LETTERS) := T.x_MOST_LETTERS.choose_spec
noncomputable def Tx.t_MOST_NUMBER {W : Wo} {k : Nat} (T : Tx W k) : Tok := T.x_MOST_NUMBER.choose
theorem Tx.c_MOST_NUMBER {W : Wo} {k : Nat} (T : Tx W k) : W.mg "MOST_NUMBER" = some (.int 1000000 T.t_MOST_NUMBER) := T.x_MOST_NUMBER.choose_spec
noncomputable def Tx.t_MOST_SIZE {W : Wo} {k : Nat} (T : Tx W k) : Tok := T.x_MOST_SIZE.choose
theorem Tx.c_MOST_SIZE {W : Wo} {k : Nat} (T : Tx W k) : W.mg "MOST_SIZE" = some (.int 4 T.t_MOST_SIZE) := T.x_MOST_SIZE.choose_spec
noncomputable def Tx.t_MOST_TABLES {W : Wo} {k : Nat} (T : Tx W k) : Tok := T.x_MOST_TABLES.choose
theorem Tx.c_MOST_TABLES {W : Wo} {k : Nat} (T : Tx W k) : W.mg "MOST_TABLES" = some (.int 3 T.t_MOST_TABLES) := T.x_MOST_TABLES.choose_spec
theorem sc__law_cast : FnScope ["_law_pail", "_law_many", "_law_state", "_law_figure"] ["_law_pail", "_law_many"] (defScope s__law_cast) := ⟨rfl, rfl, rfl, by decide +kernel, rfl, by decide +kernel, by decide +kernel⟩
theorem b__law_cast {W : Wo} [Calm W] {k : Nat} {f : Addr} (T : Tx W k) (cdv : Value) (A : Around) (outer : List Env) (s : Shared) (H : Hp) (E : XK) (g : Gd W (k + 3) (cxF W ["_law_pail", "_law_many", "_law_state", "_law_figure"] "_law_cast" (defScope s__law_cast) f cdv A outer s H E) E) : MSs W (cxF W ["_law_pail", "_law_many", "_law_state", "_law_figure"] "_law_cast" (defScope s__law_cast) f cdv A outer s H E) E (defBody s__law_cast) d__law_cast.body :=
  (mss_cons (ms_ift (mt_cmp cm_gt (me_idx (me_var 0) me_int g) me_int) (mss_cons (ms_asgS (me_divmod g T.n_divmod (me_idx (me_var 0) me_int g) (me_var 1)) (ml_tp g (mls_cons (ml_sub g 0 me_int) (mls_cons (ml_nm g 3) mls_nil)))) (mss_cons (ms_retS (me_var 3)) mss_nil)) mss_nil) (mss_cons (ms_asgS (me_add (me_idx (me_var 0) me_int g) me_int g) (ml_sub g 0 me_int)) (mss_cons (ms_asgS (me_mod (me_toInt g T.n_int (me_add (me_add (me_mul (me_idx (me_var 0) me_int g) (me_add me_int (me_mul me_int (me_idx (me_var 0) me_int g) g) g) g) (me_mul me_int (me_idx (me_var 0) me_int g) g) g) me_int g)) me_int) (ml_nm g 2)) (mss_cons (ms_asgS (me_mod (me_toInt g T.n_int (me_add (me_add (me_mul (me_var 2) me_int g) (me_mul me_int (me_idx (me_var 0) me_int g) g) g) me_int g)) me_int) (ml_sub g 0 me_int)) (mss_cons (ms_retS (me_mod (me_toInt g T.n_int (me_fdiv (me_idx (me_var 0) me_int g) me_int)) (me_var 1))) mss_nil)))))
theorem sc__law_any_of : FnScope ["_law_pail", "_law_some"] ["_law_pail", "_law_some"] (defScope s__law_any_of) := ⟨rfl, rfl, rfl, by decide +kernel, rfl, by decide +kernel, by decide +kernel⟩
theorem b__law_any_of {W : Wo} [Calm W] {k : Nat} {f : Addr} (T : Tx W k) (cdv : Value) (A : Around) (outer : List Env) (s : Shared) (H : Hp) (E : XK) (g : Gd W (k + 3) (cxF W ["_law_pail", "_law_some"] "_law_any_of" (defScope s__law_any_of) f cdv A outer s H E) E) : MSs W (cxF W ["_law_pail", "_law_some"] "_law_any_of" (defScope s__law_any_of) f cdv A outer s H E) E (defBody s__law_any_of) d__law_any_of.body :=
  (mss_cons (ms_retS (me_idx (me_var 1) (me_call g T.f__law_cast (mg_b 0 (mg_v (me_len g T.n_len (me_var 1)) mg_nil))) g)) mss_nil)
theorem sc__law_thing : FnScope ["_law_pail", "_law_menu"] ["_law_pail"] (defScope s__law_thing) := ⟨rfl, rfl, rfl, by decide +kernel, rfl, by decide +kernel, by decide +kernel⟩
theorem b__law_thing {W : Wo} [Calm W] {k : Nat} {f : Addr} (T : Tx W k) (cdv : Value) (A : Around) (outer : List Env) (s : Shared) (H : Hp) (E : XK) (g : Gd W (k + 3) (cxF W ["_law_pail", "_law_menu"] "_law_thing" (defScope s__law_thing) f cdv A outer s H E) E) : MSs W (cxF W ["_law_pail", "_law_menu"] "_law_thing" (defScope s__law_thing) f cdv A outer s H E) E (defBody s__law_thing) d__law_thing.body :=
  (mss_cons (ms_asgS (me_lst (ma_one me_non (ma_one me_bl (ma_one me_bl (ma_one me_int (ma_one me_int (ma_one (me_neg me_int) (ma_one me_int (ma_one (me_add (me_pow me_int me_int) me_int g) (ma_one (me_neg (me_pow me_int me_int)) (ma_one me_str (ma_one me_str (ma_one me_str (ma_one (me_tup ma_nil) (ma_one (me_tup (ma_one me_int ma_nil)) (ma_one (me_tup (ma_one me_int (ma_one me_int ma_nil))) (ma_one (me_tup (ma_one (me_tup (ma_one me_int ma_nil)) ma_nil)) (ma_one me_str ma_nil)))))))))))))))))) (ml_nm g 1)) (mss_cons (ms_asgS (me_add (me_var 1) (me_lst (ma_one (me_lst ma_nil) (ma_one (me_lst (ma_one me_int ma_nil)) (ma_one me_dct0 (ma_one me_dct1 (ma_one (me_tup (ma_one (me_tup (ma_one me_int (ma_one me_int ma_nil))) ma_nil)) (ma_one (me_tup (ma_one (me_tup (ma_one me_int (ma_one me_int ma_nil))) (ma_one (me_tup (ma_one me_int (ma_one me_int ma_nil))) ma_nil))) (ma_one (me_tup (ma_one (me_tup (ma_one (me_tup (ma_one me_int ma_nil)) ma_nil)) ma_nil)) (ma_one (me_tup (ma_one me_str ma_nil)) (ma_one (me_tup (ma_one me_non ma_nil)) (ma_one me_str ma_nil))))))))))) g) (ml_nm g 1)) (mss_cons (ms_retS (me_call g T.f__law_any_of (mg_b 0 (mg_v (me_var 1) mg_nil)))) mss_nil)))
theorem sc__law_bases : FnScope ["_law_e", "_law_found"] ["_law_e"] (defScope s__law_bases) := ⟨rfl, rfl, rfl, by decide +kernel, rfl, by decide +kernel, by decide +kernel⟩
theorem b__law_bases {W : Wo} [Calm W] {k : Nat} {f : Addr} (T : Tx W k) (cdv : Value) (A : Around) (outer : List Env) (s : Shared) (H : Hp) (E : XK) (g : Gd W (k + 3) (cxF W ["_law_e", "_law_found"] "_law_bases" (defScope s__law_bases) f cdv A outer s H E) E) : MSs W (cxF W ["_law_e", "_law_found"] "_law_bases" (defScope s__law_bases) f cdv A outer s H E) E (defBody s__law_bases) d__law_bases.body :=
  (mss_cons (ms_asgS (me_lst (ma_one (me_isXn g T.xo T.xk_WrongValue T.n_isinstance (me_var 0)) (ma_one (me_isXn g T.xo T.xk_WrongName T.n_isinstance (me_var 0)) (ma_one (me_isXn g T.xo T.xk_NotPossible T.n_isinstance (me_var 0)) ma_nil)))) (ml_nm g 1)) (mss_cons (ms_retS (me_add (me_var 1) (me_lst (ma_one (me_isXb g T.xo T.xk_ValueError rfl T.n_isinstance T.n_ValueError (me_var 0)) (ma_one (me_isXb g T.xo T.xk_LookupError rfl T.n_isinstance T.n_LookupError (me_var 0)) (ma_one (me_isXb g T.xo T.xk_ArithmeticError rfl T.n_isinstance T.n_ArithmeticError (me_var 0)) ma_nil)))) g)) mss_nil))
theorem sc__law_flags : FnScope ["_law_e", "_law_found"] ["_law_e"] (defScope s__law_flags) := ⟨rfl, rfl, rfl, by decide +kernel, rfl, by decide +kernel, by decide +kernel⟩
theorem b__law_flags {W : Wo} [Calm W] {k : Nat} {f : Addr} (T : Tx W k) (cdv : Value) (A : Around) (outer : List Env) (s : Shared) (H : Hp) (E : XK) (g : Gd W (k + 3) (cxF W ["_law_e", "_law_found"] "_law_flags" (defScope s__law_flags) f cdv A outer s H E) E) : MSs W (cxF W ["_law_e", "_law_found"] "_law_flags" (defScope s__law_flags) f cdv A outer s H E) E (defBody s__law_flags) d__law_flags.body :=
  (mss_cons (ms_asgS (me_lst (ma_one (me_isXn g T.xo T.xk_InvalidText T.n_isinstance (me_var 0)) (ma_one (me_isXn g T.xo T.xk_InvalidName T.n_isinstance (me_var 0)) (ma_one (me_isXn g T.xo T.xk_InvalidIndex T.n_isinstance (me_var 0)) ma_nil)))) (ml_nm g 1)) (mss_cons (ms_asgS (me_add (me_var 1) (me_lst (ma_one (me_isXn g T.xo T.xk_InvalidSize T.n_isinstance (me_var 0)) (ma_one (me_isXn g T.xo T.xk_InvalidTable T.n_isinstance (me_var 0)) (ma_one (me_isXn g T.xo T.xk_InvalidView T.n_isinstance (me_var 0)) ma_nil)))) g) (ml_nm g 1)) (mss_cons (ms_asgS (me_add (me_var 1) (me_lst (ma_one (me_isXn g T.xo T.xk_InvalidWish T.n_isinstance (me_var 0)) (ma_one (me_isXn g T.xo T.xk_NotLot T.n_isinstance (me_var 0)) (ma_one (me_isXn g T.xo T.xk_InvalidTables T.n_isinstance (me_var 0)) ma_nil)))) g) (ml_nm g 1)) (mss_cons (ms_asgS (me_add (me_var 1) (me_lst (ma_one (me_isXn g T.xo T.xk_InvalidWord T.n_isinstance (me_var 0)) (ma_one (me_isXn g T.xo T.xk_InvalidColumns T.n_isinstance (me_var 0)) (ma_one (me_isXn g T.xo T.xk_InvalidChanges T.n_isinstance (me_var 0)) ma_nil)))) g) (ml_nm g 1)) (mss_cons (ms_asgS (me_add (me_var 1) (me_lst (ma_one (me_isXn g T.xo T.xk_InvalidWishes T.n_isinstance (me_var 0)) (ma_one (me_isXn g T.xo T.xk_UnknownName T.n_isinstance (me_var 0)) (ma_one (me_isXn g T.xo T.xk_InUse T.n_isinstance (me_var 0)) ma_nil)))) g) (ml_nm g 1)) (mss_cons (ms_asgS (me_add (me_var 1) (me_lst (ma_one (me_isXn g T.xo T.xk_NotTriangular T.n_isinstance (me_var 0)) (ma_one (me_isXn g T.xo T.xk_OtherSize T.n_isinstance (me_var 0)) (ma_one (me_isXn g T.xo T.xk_TooMany T.n_isinstance (me_var 0)) ma_nil)))) g) (ml_nm g 1)) (mss_cons (ms_retS (me_add (me_var 1) (me_lst (ma_one (me_isXn g T.xo T.xk_NothingToUndo T.n_isinstance (me_var 0)) (ma_one (me_isXn g T.xo T.xk_Broken T.n_isinstance (me_var 0)) ma_nil))) g)) mss_nil)))))))
theorem sc__law_held : FnScope ["_law_e", "_law_at"] ["_law_e", "_law_at"] (defScope s__law_held) := ⟨rfl, rfl, rfl, by decide +kernel, rfl, by decide +kernel, by decide +kernel⟩
theorem b__law_held {W : Wo} [Calm W] {k : Nat} {f : Addr} (T : Tx W k) (cdv : Value) (A : Around) (outer : List Env) (s : Shared) (H : Hp) (E : XK) (g : Gd W (k + 3) (cxF W ["_law_e", "_law_at"] "_law_held" (defScope s__law_held) f cdv A outer s H E) E) : MSs W (cxF W ["_law_e", "_law_at"] "_law_held" (defScope s__law_held) f cdv A outer s H E) E (defBody s__law_held) d__law_held.body :=
  (mss_cons (ms_retS (me_ife (mt_cmp (cm_in g) (me_var 1) (me_lst (ma_one me_int (ma_one me_int (ma_one me_int (ma_one me_int (ma_one me_int (ma_one me_int (ma_one me_int ma_nil))))))))) (me_fldX g T.xo T.xf_index (me_var 0)) (me_fldX g T.xo T.xf_given (me_var 0)))) mss_nil)
theorem sc__law_some_right : FnScope ["_law_some", "_law_thing_here", "_law_at", "_law_base", "_law_k"] ["_law_some", "_law_thing_here"] (defScope s__law_some_right) := ⟨rfl, rfl, rfl, by decide +kernel, rfl, by decide +kernel, by decide +kernel⟩
theorem b__law_some_right {W : Wo} [Calm W] {k : Nat} {f : Addr} (T : Tx W k) (cdv : Value) (A : Around) (outer : List Env) (s : Shared) (H : Hp) (E : XK) (g : Gd W (k + 3) (cxF W ["_law_some", "_law_thing_here", "_law_at", "_law_base", "_law_k"] "_law_some_right" (defScope s__law_some_right) f cdv A outer s H E) E) : MSs W (cxF W ["_law_some", "_law_thing_here", "_law_at", "_law_base", "_law_k"] "_law_some_right" (defScope s__law_some_right) f cdv A outer s H E) E (defBody s__law_some_right) d__law_some_right.body :=
  (mss_cons (ms_for g po_cx (mi_rng1 g T.n_range me_int) (ml_nm g 2) (mss_cons (ms_asgS (me_ife (mt_cmp cm_lt (me_var 2) me_int) me_int (me_ife (mt_cmp cm_lt (me_var 2) me_int) me_int me_int)) (ml_nm g 3)) (mss_cons (ms_ift (mt_cmp (cm_ne g) (me_call g T.f__law_flags (mg_v (me_idx (me_var 0) (me_var 2) g) mg_nil)) (me_lc [("_law_k", 4)] g (mi_rng1 g T.n_range me_int) (fun _ _ _ _ _ g => (ml_nm g 4)) (fun _ _ _ _ _ g => mts_nil) (fun _ _ _ _ _ g => (me_cmp (cm_eq g) (me_var 4) (me_var 2))))) (mss_cons (ms_retS me_bl) mss_nil) mss_nil) (mss_cons (ms_ift (mt_cmp (cm_ne g) (me_call g T.f__law_bases (mg_v (me_idx (me_var 0) (me_var 2) g) mg_nil)) (me_mul (me_lc [("_law_k", 4)] g (mi_rng1 g T.n_range me_int) (fun _ _ _ _ _ g => (ml_nm g 4)) (fun _ _ _ _ _ g => mts_nil) (fun _ _ _ _ _ g => (me_cmp (cm_eq g) (me_var 4) (me_var 3)))) me_int g)) (mss_cons (ms_retS me_bl) mss_nil) mss_nil) (mss_cons (ms_ift (mt_w (mw_and (mt_cmp (cm_ne g) (me_var 2) me_int) (mw_and1 (mt_cmp (cm_ne g) (me_repr g T.n_repr (me_call g T.f__law_held (mg_v (me_idx (me_var 0) (me_var 2) g) (mg_v (me_var 2) mg_nil)))) (me_repr g T.n_repr (me_var 1)))))) (mss_cons (ms_retS me_bl) mss_nil) mss_nil) (mss_kil mss_nil)))))) (mss_cons (ms_retS (me_cmp (cm_eq g) (me_len g T.n_len (me_var 0)) me_int)) mss_nil))
theorem sc__law_placed : FnScope ["_law_thing_here", "_law_found"] ["_law_thing_here"] (defScope s__law_placed) := ⟨rfl, rfl, rfl, by decide +kernel, rfl, by decide +kernel, by decide +kernel⟩
theorem b__law_placed {W : Wo} [Calm W] {k : Nat} {f : Addr} (T : Tx W k) (cdv : Value) (A : Around) (outer : List Env) (s : Shared) (H : Hp) (E : XK) (g : Gd W (k + 3) (cxF W ["_law_thing_here", "_law_found"] "_law_placed" (defScope s__law_placed) f cdv A outer s H E) E) : MSs W (cxF W ["_law_thing_here", "_law_found"] "_law_placed" (defScope s__law_placed) f cdv A outer s H E) E (defBody s__law_placed) d__law_placed.body :=
  (mss_cons (ms_asgS (me_lst (ma_one (me_mkX g T.xd_InvalidText (me_var 0)) (ma_one (me_mkX g T.xd_InvalidName (me_var 0)) (ma_one (me_mkX g T.xd_InvalidIndex (me_var 0)) (ma_one (me_mkX g T.xd_InvalidSize (me_var 0)) (ma_one (me_mkX g T.xd_InvalidTable (me_var 0)) ma_nil)))))) (ml_nm g 1)) (mss_cons (ms_asgS (me_add (me_var 1) (me_lst (ma_one (me_mkX g T.xd_InvalidView (me_var 0)) (ma_one (me_mkX g T.xd_InvalidWish (me_var 0)) (ma_one (me_mkX g T.xd_NotLot (me_var 0)) (ma_one (me_mkX g T.xd_InvalidTables (me_var 0)) (ma_one (me_mkX g T.xd_InvalidWord (me_var 0)) ma_nil)))))) g) (ml_nm g 1)) (mss_cons (ms_asgS (me_add (me_var 1) (me_lst (ma_one (me_mkX g T.xd_InvalidColumns (me_var 0)) (ma_one (me_mkX g T.xd_InvalidChanges (me_var 0)) (ma_one (me_mkX g T.xd_InvalidWishes (me_var 0)) (ma_one (me_mkX g T.xd_UnknownName (me_var 0)) ma_nil))))) g) (ml_nm g 1)) (mss_cons (ms_asgS (me_add (me_var 1) (me_lst (ma_one (me_mkX g T.xd_InUse (me_var 0)) (ma_one (me_mkX g T.xd_NotTriangular (me_var 0)) (ma_one (me_mkX g T.xd_OtherSize (me_var 0)) (ma_one (me_mkX g T.xd_TooMany (me_var 0)) ma_nil))))) g) (ml_nm g 1)) (mss_cons (ms_retS (me_add (me_var 1) (me_lst (ma_one (me_mkX0 g T.x0_NothingToUndo) (ma_one (me_mkX g T.xd_Broken (me_var 0)) ma_nil))) g)) mss_nil)))))
theorem sc__law_named : FnScope ["_law_thing_here", "_law_found"] ["_law_thing_here"] (defScope s__law_named) := ⟨rfl, rfl, rfl, by decide +kernel, rfl, by decide +kernel, by decide +kernel⟩
theorem b__law_named {W : Wo} [Calm W] {k : Nat} {f : Addr} (T : Tx W k) (cdv : Value) (A : Around) (outer : List Env) (s : Shared) (H : Hp) (E : XK) (g : Gd W (k + 3) (cxF W ["_law_thing_here", "_law_found"] "_law_named" (defScope s__law_named) f cdv A outer s H E) E) : MSs W (cxF W ["_law_thing_here", "_law_found"] "_law_named" (defScope s__law_named) f cdv A outer s H E) E (defBody s__law_named) d__law_named.body :=
  (mss_cons (ms_asgS (me_lst (ma_one (me_mkXK g T.xk0_InvalidText (me_var 0)) (ma_one (me_mkXK g T.xk0_InvalidName (me_var 0)) (ma_one (me_mkXK g T.xk0_InvalidIndex (me_var 0)) (ma_one (me_mkXK g T.xk0_InvalidSize (me_var 0)) ma_nil))))) (ml_nm g 1)) (mss_cons (ms_asgS (me_add (me_var 1) (me_lst (ma_one (me_mkXK g T.xk0_InvalidTable (me_var 0)) (ma_one (me_mkXK g T.xk0_InvalidView (me_var 0)) (ma_one (me_mkXK g T.xk0_InvalidWish (me_var 0)) ma_nil)))) g) (ml_nm g 1)) (mss_cons (ms_asgS (me_add (me_var 1) (me_lst (ma_one (me_mkXK g T.xk0_NotLot (me_var 0)) (ma_one (me_mkXK g T.xk0_InvalidTables (me_var 0)) (ma_one (me_mkXK g T.xk0_InvalidWord (me_var 0)) ma_nil)))) g) (ml_nm g 1)) (mss_cons (ms_asgS (me_add (me_var 1) (me_lst (ma_one (me_mkXK g T.xk0_InvalidColumns (me_var 0)) (ma_one (me_mkXK g T.xk0_InvalidChanges (me_var 0)) (ma_one (me_mkXK g T.xk0_InvalidWishes (me_var 0)) ma_nil)))) g) (ml_nm g 1)) (mss_cons (ms_asgS (me_add (me_var 1) (me_lst (ma_one (me_mkXK g T.xk0_UnknownName (me_var 0)) (ma_one (me_mkXK g T.xk0_InUse (me_var 0)) (ma_one (me_mkXK g T.xk0_NotTriangular (me_var 0)) (ma_one (me_mkXK g T.xk0_OtherSize (me_var 0)) ma_nil))))) g) (ml_nm g 1)) (mss_cons (ms_retS (me_add (me_var 1) (me_lst (ma_one (me_mkXK g T.xk0_TooMany (me_var 0)) (ma_one (me_mkX0 g T.x0_NothingToUndo) (ma_one (me_mkXK g T.xk0_Broken (me_var 0)) ma_nil)))) g)) mss_nil))))))
theorem sc__law_right : FnScope ["_law_pail", "_law_turn", "_law_told", "_law_thing_here", "_law_e"] ["_law_pail"] (defScope s__law_right) := ⟨rfl, rfl, rfl, by decide +kernel, rfl, by decide +kernel, by decide +kernel⟩
theorem b__law_right {W : Wo} [Calm W] {k : Nat} {f : Addr} (T : Tx W k) (cdv : Value) (A : Around) (outer : List Env) (s : Shared) (H : Hp) (E : XK) (g : Gd W (k + 3) (cxF W ["_law_pail", "_law_turn", "_law_told", "_law_thing_here", "_law_e"] "_law_right" (defScope s__law_right) f cdv A outer s H E) E) : MSs W (cxF W ["_law_pail", "_law_turn", "_law_told", "_law_thing_here", "_law_e"] "_law_right" (defScope s__law_right) f cdv A outer s H E) E (defBody s__law_right) d__law_right.body :=
  (mss_cons (ms_for g po_cx (mi_rng1 g T.n_range me_int) (ml_nm g 1) (mss_cons (ms_asgS (me_call g T.f__law_thing (mg_b 0 mg_nil)) (ml_nm g 3)) (mss_cons (ms_ift (mt_w (mw_or (mt_not (mt_val g (me_call g T.f__law_some_right (mg_v (me_call g T.f__law_placed (mg_v (me_var 3) mg_nil)) (mg_v (me_var 3) mg_nil))))) (mw_or1 (mt_not (mt_val g (me_call g T.f__law_some_right (mg_v (me_call g T.f__law_named (mg_v (me_var 3) mg_nil)) (mg_v (me_var 3) mg_nil)))))))) (mss_cons (ms_retS me_bl) mss_nil) mss_nil) (mss_kil mss_nil)))) (mss_cons (ms_setLcS [("_law_e", 4)] g (mi_seq g (me_lst (ma_one (me_mkX0 g T.x0_WrongValue) (ma_one (me_mkX0 g T.x0_WrongName) (ma_one (me_mkX0 g T.x0_NotPossible) ma_nil))))) (fun _ _ _ _ _ g => (ml_nm g 4)) (fun _ _ _ _ _ g => mts_nil) (fun _ _ _ _ _ g => (me_slo01 (me_call g T.f__law_bases (mg_v (me_var 4) mg_nil)) me_int g))) (mss_cons (ms_retS (me_cmp (cm_eq g) (me_var 2) (me_lst (ma_one (me_lst (ma_one me_bl (ma_one me_bl (ma_one me_bl ma_nil)))) (ma_one (me_lst (ma_one me_bl (ma_one me_bl (ma_one me_bl ma_nil)))) (ma_one (me_lst (ma_one me_bl (ma_one me_bl (ma_one me_bl ma_nil)))) ma_nil)))))) mss_nil)))
theorem sc__law_begun : FnScope ["_law_script", "_law_turn", "_law_own", "_law_state", "_law_cell"] ["_law_script", "_law_turn"] (defScope s__law_begun) := ⟨rfl, rfl, rfl, by decide +kernel, rfl, by decide +kernel, by decide +kernel⟩
theorem b__law_begun {W : Wo} [Calm W] {k : Nat} {f : Addr} (T : Tx W k) (cdv : Value) (A : Around) (outer : List Env) (s : Shared) (H : Hp) (E : XK) (g : Gd W (k + 3) (cxF W ["_law_script", "_law_turn", "_law_own", "_law_state", "_law_cell"] "_law_begun" (defScope s__law_begun) f cdv A outer s H E) E) : MSs W (cxF W ["_law_script", "_law_turn", "_law_own", "_law_state", "_law_cell"] "_law_begun" (defScope s__law_begun) f cdv A outer s H E) E (defBody s__law_begun) d__law_begun.body :=
  (mss_cons (ms_asgS (me_ife (mt_cmp cm_lt (me_var 1) (me_len g T.n_len (me_var 0))) (me_idx (me_var 0) (me_var 1) g) me_int) (ml_nm g 2)) (mss_cons (ms_asgS (me_add me_int (me_mul me_int (me_var 1) g) g) (ml_nm g 3)) (mss_cons (ms_for g po_cx (mi_seq g (me_slo01 (me_var 0) me_int g)) (ml_nm g 4) (mss_cons (ms_asgS (me_mod (me_toInt g T.n_int (me_add (me_add (me_mul (me_var 3) me_int g) (me_mul (me_var 4) me_int g) g) me_int g)) me_int) (ml_nm g 3)) (mss_kil mss_nil))) (mss_cons (ms_ret (me_lst (ma_one (me_ife (mt_w (mw_or (mt_cmp cm_lt (me_var 2) me_int) (mw_or1 (mt_cmp cm_ge (me_var 2) (me_pow me_int me_int))))) (me_abs g T.n_abs (me_var 2)) me_int) (ma_one (me_mod (me_toInt g T.n_int (me_add (me_add (me_mul (me_var 3) me_int g) (me_mul (me_var 2) (me_var 2) g) g) (me_mul me_int (me_var 1) g) g)) me_int) (ma_one me_int ma_nil))))) mss_nil))))
theorem sc_law : FnScope ["_law_script", "_law_some", "_law_turn"] ["_law_script"] (defScope s_law) := ⟨rfl, rfl, rfl, by decide +kernel, rfl, by decide +kernel, by decide +kernel⟩
theorem b_law {W : Wo} [Calm W] {k : Nat} {f : Addr} (T : Tx W k) (cdv : Value) (A : Around) (outer : List Env) (s : Shared) (H : Hp) (E : XK) (g : Gd W (k + 3) (cxF W ["_law_script", "_law_some", "_law_turn"] "law" (defScope s_law) f cdv A outer s H E) E) : MSs W (cxF W ["_law_script", "_law_some", "_law_turn"] "law" (defScope s_law) f cdv A outer s H E) E (defBody s_law) d_law.body :=
  (mss_cons (ms_asgS (me_lst (ma_one (me_gInt g T.c_MOST_SIZE) (ma_one (me_gInt g T.c_MOST_TABLES) (ma_one (me_gInt g T.c_MOST_NUMBER) (ma_one (me_gInt g T.c_MOST_LETTERS) (ma_one (me_gInt g T.c_MOST_COLUMNS) (ma_one (me_gInt g T.c_MOST_CHANGES) ma_nil))))))) (ml_nm g 1)) (mss_cons (ms_ift (mt_cmp (cm_ne g) (me_repr g T.n_repr (me_var 1)) (me_repr g T.n_repr (me_lst (ma_one me_int (ma_one me_int (ma_one (me_pow me_int me_int) (ma_one me_int (ma_one me_int (ma_one me_int ma_nil))))))))) (mss_cons (ms_retS me_bl) mss_nil) mss_nil) (mss_cons (ms_retS (me_all g T.n_all (me_lc [("_law_turn", 2)] g (mi_rng1 g T.n_range (me_max2 g T.n_max me_int (me_min2 g T.n_min (me_len g T.n_len (me_var 0)) me_int))) (fun _ _ _ _ _ g => (ml_nm g 2)) (fun _ _ _ _ _ g => mts_nil) (fun _ _ _ _ _ g => (me_callO g T.f__law_right (me_call g T.f__law_begun (mg_v (me_var 0) (mg_v (me_var 2) mg_nil)))))))) mss_nil)))
abbrev lvl : Nat := 4
def xfs : Nat → List Str := fun i => if i = 0 then ["given"] else if i = 1 then ["given"] else if i = 2 then ["given"] else if i = 3 then ["given"] else if i = 4 then ["given"] else if i = 5 then ["given"] else if i = 6 then ["given"] else if i = 7 then ["given"] else if i = 8 then ["index"] else if i = 9 then ["index"] else if i = 10 then ["index"] else if i = 11 then ["index"] else if i = 12 then ["index"] else if i = 13 then ["given"] else if i = 14 then ["index"] else if i = 15 then ["given"] else if i = 16 then ["given"] else if i = 17 then ["given"] else if i = 19 then ["index"] else []
abbrev Zj (K : PySem.W.Frag) (C : Nat → Addr) (T0 : List (Addr × Str)) : Zc := ⟨K, C, xfs, 0, 23, T0⟩
abbrev sx_InvalidText : Stmt := inClass (top 2) 0
theorem scx_InvalidText : FnScope ["self", "given"] ["self", "given"] (defScope sx_InvalidText) := ⟨rfl, rfl, rfl, by decide +kernel, rfl, by decide +kernel, by decide +kernel⟩
abbrev sx_InvalidName : Stmt := inClass (top 3) 0
theorem scx_InvalidName : FnScope ["self", "given"] ["self", "given"] (defScope sx_InvalidName) := ⟨rfl, rfl, rfl, by decide +kernel, rfl, by decide +kernel, by decide +kernel⟩
abbrev sx_InvalidIndex : Stmt := inClass (top 4) 0
theorem scx_InvalidIndex : FnScope ["self", "given"] ["self", "given"] (defScope sx_InvalidIndex) := ⟨rfl, rfl, rfl, by decide +kernel, rfl, by decide +kernel, by decide +kernel⟩
abbrev sx_InvalidSize : Stmt := inClass (top 5) 0
theorem scx_InvalidSize : FnScope ["self", "given"] ["self", "given"] (defScope sx_InvalidSize) := ⟨rfl, rfl, rfl, by decide +kernel, rfl, by decide +kernel, by decide +kernel⟩
abbrev sx_InvalidTable : Stmt := inClass (top 6) 0
theorem scx_InvalidTable : FnScope ["self", "given"] ["self", "given"] (defScope sx_InvalidTable) := ⟨rfl, rfl, rfl, by decide +kernel, rfl, by decide +kernel, by decide +kernel⟩
abbrev sx_InvalidView : Stmt := inClass (top 7) 0
theorem scx_InvalidView : FnScope ["self", "given"] ["self", "given"] (defScope sx_InvalidView) := ⟨rfl, rfl, rfl, by decide +kernel, rfl, by decide +kernel, by decide +kernel⟩
abbrev sx_InvalidWish : Stmt := inClass (top 8) 0
theorem scx_InvalidWish : FnScope ["self", "given"] ["self", "given"] (defScope sx_InvalidWish) := ⟨rfl, rfl, rfl, by decide +kernel, rfl, by decide +kernel, by decide +kernel⟩
abbrev sx_NotLot : Stmt := inClass (top 9) 0
theorem scx_NotLot : FnScope ["self", "given"] ["self", "given"] (defScope sx_NotLot) := ⟨rfl, rfl, rfl, by decide +kernel, rfl, by decide +kernel, by decide +kernel⟩
abbrev sx_InvalidTables : Stmt := inClass (top 10) 0
theorem scx_InvalidTables : FnScope ["self", "index"] ["self", "index"] (defScope sx_InvalidTables) := ⟨rfl, rfl, rfl, by decide +kernel, rfl, by decide +kernel, by decide +kernel⟩
abbrev sx_InvalidWord : Stmt := inClass (top 11) 0
theorem scx_InvalidWord : FnScope ["self", "index"] ["self", "index"] (defScope sx_InvalidWord) := ⟨rfl, rfl, rfl, by decide +kernel, rfl, by decide +kernel, by decide +kernel⟩
abbrev sx_InvalidColumns : Stmt := inClass (top 12) 0
theorem scx_InvalidColumns : FnScope ["self", "index"] ["self", "index"] (defScope sx_InvalidColumns) := ⟨rfl, rfl, rfl, by decide +kernel, rfl, by decide +kernel, by decide +kernel⟩
abbrev sx_InvalidChanges : Stmt := inClass (top 13) 0
theorem scx_InvalidChanges : FnScope ["self", "index"] ["self", "index"] (defScope sx_InvalidChanges) := ⟨rfl, rfl, rfl, by decide +kernel, rfl, by decide +kernel, by decide +kernel⟩
abbrev sx_InvalidWishes : Stmt := inClass (top 14) 0
theorem scx_InvalidWishes : FnScope ["self", "index"] ["self", "index"] (defScope sx_InvalidWishes) := ⟨rfl, rfl, rfl, by decide +kernel, rfl, by decide +kernel, by decide +kernel⟩
abbrev sx_UnknownName : Stmt := inClass (top 16) 0
theorem scx_UnknownName : FnScope ["self", "given"] ["self", "given"] (defScope sx_UnknownName) := ⟨rfl, rfl, rfl, by decide +kernel, rfl, by decide +kernel, by decide +kernel⟩
abbrev sx_InUse : Stmt := inClass (top 17) 0
theorem scx_InUse : FnScope ["self", "index"] ["self", "index"] (defScope sx_InUse) := ⟨rfl, rfl, rfl, by decide +kernel, rfl, by decide +kernel, by decide +kernel⟩
abbrev sx_NotTriangular : Stmt := inClass (top 19) 0
theorem scx_NotTriangular : FnScope ["self", "given"] ["self", "given"] (defScope sx_NotTriangular) := ⟨rfl, rfl, rfl, by decide +kernel, rfl, by decide +kernel, by decide +kernel⟩
abbrev sx_OtherSize : Stmt := inClass (top 20) 0
theorem scx_OtherSize : FnScope ["self", "given"] ["self", "given"] (defScope sx_OtherSize) := ⟨rfl, rfl, rfl, by decide +kernel, rfl, by decide +kernel, by decide +kernel⟩
abbrev sx_TooMany : Stmt := inClass (top 21) 0
theorem scx_TooMany : FnScope ["self", "given"] ["self", "given"] (defScope sx_TooMany) := ⟨rfl, rfl, rfl, by decide +kernel, rfl, by decide +kernel, by decide +kernel⟩
abbrev sx_Broken : Stmt := inClass (top 23) 0
theorem scx_Broken : FnScope ["self", "index"] ["self", "index"] (defScope sx_Broken) := ⟨rfl, rfl, rfl, by decide +kernel, rfl, by decide +kernel, by decide +kernel⟩
structure Facts (K : PySem.W.Frag) (mg : Str → Option Value) (C : Nat → Addr) (cs0 : List (Addr × Addr)) (T0 : List (Addr × Str)) (a__law_cast a__law_any_of a__law_thing a__law_bases a__law_flags a__law_held a__law_some_right a__law_placed a__law_named a__law_right a__law_begun a_law : Addr) : Prop where
  d__law_cast : Df K "_law_cast" "_law_cast" s__law_cast ["_law_pail", "_law_many"] a__law_cast
  g__law_cast : mg "_law_cast" = some (.ref a__law_cast)
  k__law_cast : PySem.W.keepIn K (.ref a__law_cast) = true
  d__law_any_of : Df K "_law_any_of" "_law_any_of" s__law_any_of ["_law_pail", "_law_some"] a__law_any_of
  g__law_any_of : mg "_law_any_of" = some (.ref a__law_any_of)
  k__law_any_of : PySem.W.keepIn K (.ref a__law_any_of) = true
  d__law_thing : Df K "_law_thing" "_law_thing" s__law_thing ["_law_pail"] a__law_thing
  g__law_thing : mg "_law_thing" = some (.ref a__law_thing)
  k__law_thing : PySem.W.keepIn K (.ref a__law_thing) = true
  d__law_bases : Df K "_law_bases" "_law_bases" s__law_bases ["_law_e"] a__law_bases
  g__law_bases : mg "_law_bases" = some (.ref a__law_bases)
  k__law_bases : PySem.W.keepIn K (.ref a__law_bases) = true
  d__law_flags : Df K "_law_flags" "_law_flags" s__law_flags ["_law_e"] a__law_flags
  g__law_flags : mg "_law_flags" = some (.ref a__law_flags)
  k__law_flags : PySem.W.keepIn K (.ref a__law_flags) = true
  d__law_held : Df K "_law_held" "_law_held" s__law_held ["_law_e", "_law_at"] a__law_held
  g__law_held : mg "_law_held" = some (.ref a__law_held)
  k__law_held : PySem.W.keepIn K (.ref a__law_held) = true
  d__law_some_right : Df K "_law_some_right" "_law_some_right" s__law_some_right ["_law_some", "_law_thing_here"] a__law_some_right
  g__law_some_right : mg "_law_some_right" = some (.ref a__law_some_right)
  k__law_some_right : PySem.W.keepIn K (.ref a__law_some_right) = true
  d__law_placed : Df K "_law_placed" "_law_placed" s__law_placed ["_law_thing_here"] a__law_placed
  g__law_placed : mg "_law_placed" = some (.ref a__law_placed)
  k__law_placed : PySem.W.keepIn K (.ref a__law_placed) = true
  d__law_named : Df K "_law_named" "_law_named" s__law_named ["_law_thing_here"] a__law_named
  g__law_named : mg "_law_named" = some (.ref a__law_named)
  k__law_named : PySem.W.keepIn K (.ref a__law_named) = true
  d__law_right : Df K "_law_right" "_law_right" s__law_right ["_law_pail"] a__law_right
  g__law_right : mg "_law_right" = some (.ref a__law_right)
  k__law_right : PySem.W.keepIn K (.ref a__law_right) = true
  d__law_begun : Df K "_law_begun" "_law_begun" s__law_begun ["_law_script", "_law_turn"] a__law_begun
  g__law_begun : mg "_law_begun" = some (.ref a__law_begun)
  k__law_begun : PySem.W.keepIn K (.ref a__law_begun) = true
  d_law : Df K "law" "law" s_law ["_law_script"] a_law
  g_law : mg "law" = some (.ref a_law)
  k_law : PySem.W.keepIn K (.ref a_law) = true
  co : Co (Zj K C T0) 0
  xi_InvalidText : Xi K mg (C 0) "InvalidText" "given" "InvalidText.__init__" sx_InvalidText
  xi_InvalidName : Xi K mg (C 1) "InvalidName" "given" "InvalidName.__init__" sx_InvalidName
  xi_InvalidIndex : Xi K mg (C 2) "InvalidIndex" "given" "InvalidIndex.__init__" sx_InvalidIndex
  xi_InvalidSize : Xi K mg (C 3) "InvalidSize" "given" "InvalidSize.__init__" sx_InvalidSize
  xi_InvalidTable : Xi K mg (C 4) "InvalidTable" "given" "InvalidTable.__init__" sx_InvalidTable
  xi_InvalidView : Xi K mg (C 5) "InvalidView" "given" "InvalidView.__init__" sx_InvalidView
  xi_InvalidWish : Xi K mg (C 6) "InvalidWish" "given" "InvalidWish.__init__" sx_InvalidWish
  xi_NotLot : Xi K mg (C 7) "NotLot" "given" "NotLot.__init__" sx_NotLot
  xi_InvalidTables : Xi K mg (C 8) "InvalidTables" "index" "InvalidTables.__init__" sx_InvalidTables
  xi_InvalidWord : Xi K mg (C 9) "InvalidWord" "index" "InvalidWord.__init__" sx_InvalidWord
  xi_InvalidColumns : Xi K mg (C 10) "InvalidColumns" "index" "InvalidColumns.__init__" sx_InvalidColumns
  xi_InvalidChanges : Xi K mg (C 11) "InvalidChanges" "index" "InvalidChanges.__init__" sx_InvalidChanges
  xi_InvalidWishes : Xi K mg (C 12) "InvalidWishes" "index" "InvalidWishes.__init__" sx_InvalidWishes
  xi_UnknownName : Xi K mg (C 13) "UnknownName" "given" "UnknownName.__init__" sx_UnknownName
  xi_InUse : Xi K mg (C 14) "InUse" "index" "InUse.__init__" sx_InUse
  xi_NotTriangular : Xi K mg (C 15) "NotTriangular" "given" "NotTriangular.__init__" sx_NotTriangular
  xi_OtherSize : Xi K mg (C 16) "OtherSize" "given" "OtherSize.__init__" sx_OtherSize
  xi_TooMany : Xi K mg (C 17) "TooMany" "given" "TooMany.__init__" sx_TooMany
  xi_Broken : Xi K mg (C 19) "Broken" "index" "Broken.__init__" sx_Broken
  x0_NothingToUndo : Xi0 K mg (C 18) "NothingToUndo"
  x0_WrongValue : Xi0 K mg (C 20) "WrongValue"
  x0_WrongName : Xi0 K mg (C 21) "WrongName"
  x0_NotPossible : Xi0 K mg (C 22) "NotPossible"
  xk0_Broken : Xik K (C 19) "index" "Broken.__init__" sx_Broken
  xk0_InUse : Xik K (C 14) "index" "InUse.__init__" sx_InUse
  xk0_InvalidChanges : Xik K (C 11) "index" "InvalidChanges.__init__" sx_InvalidChanges
  xk0_InvalidColumns : Xik K (C 10) "index" "InvalidColumns.__init__" sx_InvalidColumns
  xk0_InvalidIndex : Xik K (C 2) "given" "InvalidIndex.__init__" sx_InvalidIndex
  xk0_InvalidName : Xik K (C 1) "given" "InvalidName.__init__" sx_InvalidName
  xk0_InvalidSize : Xik K (C 3) "given" "InvalidSize.__init__" sx_InvalidSize
  xk0_InvalidTable : Xik K (C 4) "given" "InvalidTable.__init__" sx_InvalidTable
  xk0_InvalidTables : Xik K (C 8) "index" "InvalidTables.__init__" sx_InvalidTables
  xk0_InvalidText : Xik K (C 0) "given" "InvalidText.__init__" sx_InvalidText
  xk0_InvalidView : Xik K (C 5) "given" "InvalidView.__init__" sx_InvalidView
  xk0_InvalidWish : Xik K (C 6) "given" "InvalidWish.__init__" sx_InvalidWish
  xk0_InvalidWishes : Xik K (C 12) "index" "InvalidWishes.__init__" sx_InvalidWishes
  xk0_InvalidWord : Xik K (C 9) "index" "InvalidWord.__init__" sx_InvalidWord
  xk0_NotLot : Xik K (C 7) "given" "NotLot.__init__" sx_NotLot
  xk0_NotTriangular : Xik K (C 15) "given" "NotTriangular.__init__" sx_NotTriangular
  xk0_OtherSize : Xik K (C 16) "given" "OtherSize.__init__" sx_OtherSize
  xk0_TooMany : Xik K (C 17) "given" "TooMany.__init__" sx_TooMany
  xk0_UnknownName : Xik K (C 13) "given" "UnknownName.__init__" sx_UnknownName
  xo : Xo (Zj K C T0)
  xk_ArithmeticError : Xk (Zj K C T0) (.type "ArithmeticError") [15, 16, 17, 18, 19, 22]
  xk_Broken : ∃ CT, mg "Broken" = some (.ref CT) ∧ Xk (Zj K C T0) (.ref CT) [19]
  xk_InUse : ∃ CT, mg "InUse" = some (.ref CT) ∧ Xk (Zj K C T0) (.ref CT) [14]
  xk_InvalidChanges : ∃ CT, mg "InvalidChanges" = some (.ref CT) ∧ Xk (Zj K C T0) (.ref CT) [11]
  xk_InvalidColumns : ∃ CT, mg "InvalidColumns" = some (.ref CT) ∧ Xk (Zj K C T0) (.ref CT) [10]
  xk_InvalidIndex : ∃ CT, mg "InvalidIndex" = some (.ref CT) ∧ Xk (Zj K C T0) (.ref CT) [2]
  xk_InvalidName : ∃ CT, mg "InvalidName" = some (.ref CT) ∧ Xk (Zj K C T0) (.ref CT) [1]
  xk_InvalidSize : ∃ CT, mg "InvalidSize" = some (.ref CT) ∧ Xk (Zj K C T0) (.ref CT) [3]
  xk_InvalidTable : ∃ CT, mg "InvalidTable" = some (.ref CT) ∧ Xk (Zj K C T0) (.ref CT) [4]
  xk_InvalidTables : ∃ CT, mg "InvalidTables" = some (.ref CT) ∧ Xk (Zj K C T0) (.ref CT) [8]
  xk_InvalidText : ∃ CT, mg "InvalidText" = some (.ref CT) ∧ Xk (Zj K C T0) (.ref CT) [0]
  xk_InvalidView : ∃ CT, mg "InvalidView" = some (.ref CT) ∧ Xk (Zj K C T0) (.ref CT) [5]
  xk_InvalidWish : ∃ CT, mg "InvalidWish" = some (.ref CT) ∧ Xk (Zj K C T0) (.ref CT) [6]
  xk_InvalidWishes : ∃ CT, mg "InvalidWishes" = some (.ref CT) ∧ Xk (Zj K C T0) (.ref CT) [12]
  xk_InvalidWord : ∃ CT, mg "InvalidWord" = some (.ref CT) ∧ Xk (Zj K C T0) (.ref CT) [9]
  xk_LookupError : Xk (Zj K C T0) (.type "LookupError") [13, 14, 21]
  xk_NotLot : ∃ CT, mg "NotLot" = some (.ref CT) ∧ Xk (Zj K C T0) (.ref CT) [7]
  xk_NotPossible : ∃ CT, mg "NotPossible" = some (.ref CT) ∧ Xk (Zj K C T0) (.ref CT) [15, 16, 17, 18, 19, 22]
  xk_NotTriangular : ∃ CT, mg "NotTriangular" = some (.ref CT) ∧ Xk (Zj K C T0) (.ref CT) [15]
  xk_NothingToUndo : ∃ CT, mg "NothingToUndo" = some (.ref CT) ∧ Xk (Zj K C T0) (.ref CT) [18]
  xk_OtherSize : ∃ CT, mg "OtherSize" = some (.ref CT) ∧ Xk (Zj K C T0) (.ref CT) [16]
  xk_TooMany : ∃ CT, mg "TooMany" = some (.ref CT) ∧ Xk (Zj K C T0) (.ref CT) [17]
  xk_UnknownName : ∃ CT, mg "UnknownName" = some (.ref CT) ∧ Xk (Zj K C T0) (.ref CT) [13]
  xk_ValueError : Xk (Zj K C T0) (.type "ValueError") [0, 1, 2, 3, 4, 5, 6, 7, 8, 9, 10, 11, 12, 20]
  xk_WrongName : ∃ CT, mg "WrongName" = some (.ref CT) ∧ Xk (Zj K C T0) (.ref CT) [13, 14, 21]
  xk_WrongValue : ∃ CT, mg "WrongValue" = some (.ref CT) ∧ Xk (Zj K C T0) (.ref CT) [0, 1, 2, 3, 4, 5, 6, 7, 8, 9, 10, 11, 12, 20]
  n_ArithmeticError : mg "ArithmeticError" = none
  n_LookupError : mg "LookupError" = none
  n_ValueError : mg "ValueError" = none
  n_abs : mg "abs" = none
  n_all : mg "all" = none
  n_divmod : mg "divmod" = none
  n_int : mg "int" = none
  n_isinstance : mg "isinstance" = none
  n_len : mg "len" = none
  n_max : mg "max" = none
  n_min : mg "min" = none
  n_range : mg "range" = none
  n_repr : mg "repr" = none
  x_MOST_CHANGES : ∃ t, mg "MOST_CHANGES" = some (.int 6 t)
  x_MOST_COLUMNS : ∃ t, mg "MOST_COLUMNS" = some (.int 8 t)
  x_MOST_LETTERS : ∃ t, mg "MOST_LETTERS" = some (.int 40 t)
  x_MOST_NUMBER : ∃ t, mg "MOST_NUMBER" = some (.int 1000000 t)
  x_MOST_SIZE : ∃ t, mg "MOST_SIZE" = some (.int 4 t)
  x_MOST_TABLES : ∃ t, mg "MOST_TABLES" = some (.int 3 t)
section
variable {P : Program} {w : World} {K : PySem.W.Frag} {mg : Str → Option Value} {base : Heap} {C : Nat → Addr} {cs0 : List (Addr × Addr)} {T0 : List (Addr × Str)} {a__law_cast a__law_any_of a__law_thing a__law_bases a__law_flags a__law_held a__law_some_right a__law_placed a__law_named a__law_right a__law_begun a_law : Addr}
abbrev Wj (P : Program) (w : World) (K : PySem.W.Frag) (mg : Str → Option Value) (base : Heap) (C : Nat → Addr) (T0 : List (Addr × Str)) (j : Nat) : Wo := ⟨P, w, mg, base, Zj K C T0, calls tab j, false⟩
instance {P : Program} {w : World} {K : PySem.W.Frag} {mg : Str → Option Value} {base : Heap} {C : Nat → Addr} {T0 : List (Addr × Str)} {j : Nat} : Calm (Wj P w K mg base C T0 j) := ⟨rfl⟩
theorem lev (F : Facts K mg C cs0 T0 a__law_cast a__law_any_of a__law_thing a__law_bases a__law_flags a__law_held a__law_some_right a__law_placed a__law_named a__law_right a__law_begun a_law) (TB : ∀ p ∈ cs0, LamX.TabB base mg p.1 p.2) : ∀ j, Tx (Wj P w K mg base C T0 j) (4 * j)
  | 0 => { f__law_cast := ⟨a__law_cast, fnr_zero (t := tab) (W := Wj P w K mg base C T0 0), F.g__law_cast, F.k__law_cast⟩, f__law_any_of := ⟨a__law_any_of, fnr_zero (t := tab) (W := Wj P w K mg base C T0 0), F.g__law_any_of, F.k__law_any_of⟩, f__law_thing := ⟨a__law_thing, fnr_zero (t := tab) (W := Wj P w K mg base C T0 0), F.g__law_thing, F.k__law_thing⟩, f__law_bases := ⟨a__law_bases, fnr_zero (t := tab) (W := Wj P w K mg base C T0 0), F.g__law_bases, F.k__law_bases⟩, f__law_flags := ⟨a__law_flags, fnr_zero (t := tab) (W := Wj P w K mg base C T0 0), F.g__law_flags, F.k__law_flags⟩, f__law_held := ⟨a__law_held, fnr_zero (t := tab) (W := Wj P w K mg base C T0 0), F.g__law_held, F.k__law_held⟩, f__law_some_right := ⟨a__law_some_right, fnr_zero (t := tab) (W := Wj P w K mg base C T0 0), F.g__law_some_right, F.k__law_some_right⟩, f__law_placed := ⟨a__law_placed, fnr_zero (t := tab) (W := Wj P w K mg base C T0 0), F.g__law_placed, F.k__law_placed⟩, f__law_named := ⟨a__law_named, fnr_zero (t := tab) (W := Wj P w K mg base C T0 0), F.g__law_named, F.k__law_named⟩, f__law_right := ⟨a__law_right, fnr_zero (t := tab) (W := Wj P w K mg base C T0 0), F.g__law_right, F.k__law_right⟩, f__law_begun := ⟨a__law_begun, fnr_zero (t := tab) (W := Wj P w K mg base C T0 0), F.g__law_begun, F.k__law_begun⟩, f_law := ⟨a_law, fnr_zero (t := tab) (W := Wj P w K mg base C T0 0), F.g_law, F.k_law⟩, co := F.co, x0_NothingToUndo := xd0_of F.x0_NothingToUndo (show 0 ≤ 18 by decide) (show 18 < 23 by decide), x0_WrongValue := xd0_of F.x0_WrongValue (show 0 ≤ 20 by decide) (show 20 < 23 by decide), x0_WrongName := xd0_of F.x0_WrongName (show 0 ≤ 21 by decide) (show 21 < 23 by decide), x0_NotPossible := xd0_of F.x0_NotPossible (show 0 ≤ 22 by decide) (show 22 < 23 by decide), xk0_Broken := xdk_of F.xi_Broken F.xk0_Broken scx_Broken rfl (show 0 ≤ 19 by decide) (show 19 < 23 by decide) rfl, xk0_InUse := xdk_of F.xi_InUse F.xk0_InUse scx_InUse rfl (show 0 ≤ 14 by decide) (show 14 < 23 by decide) rfl, xk0_InvalidChanges := xdk_of F.xi_InvalidChanges F.xk0_InvalidChanges scx_InvalidChanges rfl (show 0 ≤ 11 by decide) (show 11 < 23 by decide) rfl, xk0_InvalidColumns := xdk_of F.xi_InvalidColumns F.xk0_InvalidColumns scx_InvalidColumns rfl (show 0 ≤ 10 by decide) (show 10 < 23 by decide) rfl, xk0_InvalidIndex := xdk_of F.xi_InvalidIndex F.xk0_InvalidIndex scx_InvalidIndex rfl (show 0 ≤ 2 by decide) (show 2 < 23 by decide) rfl, xk0_InvalidName := xdk_of F.xi_InvalidName F.xk0_InvalidName scx_InvalidName rfl (show 0 ≤ 1 by decide) (show 1 < 23 by decide) rfl, xk0_InvalidSize := xdk_of F.xi_InvalidSize F.xk0_InvalidSize scx_InvalidSize rfl (show 0 ≤ 3 by decide) (show 3 < 23 by decide) rfl, xk0_InvalidTable := xdk_of F.xi_InvalidTable F.xk0_InvalidTable scx_InvalidTable rfl (show 0 ≤ 4 by decide) (show 4 < 23 by decide) rfl, xk0_InvalidTables := xdk_of F.xi_InvalidTables F.xk0_InvalidTables scx_InvalidTables rfl (show 0 ≤ 8 by decide) (show 8 < 23 by decide) rfl, xk0_InvalidText := xdk_of F.xi_InvalidText F.xk0_InvalidText scx_InvalidText rfl (show 0 ≤ 0 by decide) (show 0 < 23 by decide) rfl, xk0_InvalidView := xdk_of F.xi_InvalidView F.xk0_InvalidView scx_InvalidView rfl (show 0 ≤ 5 by decide) (show 5 < 23 by decide) rfl, xk0_InvalidWish := xdk_of F.xi_InvalidWish F.xk0_InvalidWish scx_InvalidWish rfl (show 0 ≤ 6 by decide) (show 6 < 23 by decide) rfl, xk0_InvalidWishes := xdk_of F.xi_InvalidWishes F.xk0_InvalidWishes scx_InvalidWishes rfl (show 0 ≤ 12 by decide) (show 12 < 23 by decide) rfl, xk0_InvalidWord := xdk_of F.xi_InvalidWord F.xk0_InvalidWord scx_InvalidWord rfl (show 0 ≤ 9 by decide) (show 9 < 23 by decide) rfl, xk0_NotLot := xdk_of F.xi_NotLot F.xk0_NotLot scx_NotLot rfl (show 0 ≤ 7 by decide) (show 7 < 23 by decide) rfl, xk0_NotTriangular := xdk_of F.xi_NotTriangular F.xk0_NotTriangular scx_NotTriangular rfl (show 0 ≤ 15 by decide) (show 15 < 23 by decide) rfl, xk0_OtherSize := xdk_of F.xi_OtherSize F.xk0_OtherSize scx_OtherSize rfl (show 0 ≤ 16 by decide) (show 16 < 23 by decide) rfl, xk0_TooMany := xdk_of F.xi_TooMany F.xk0_TooMany scx_TooMany rfl (show 0 ≤ 17 by decide) (show 17 < 23 by decide) rfl, xk0_UnknownName := xdk_of F.xi_UnknownName F.xk0_UnknownName scx_UnknownName rfl (show 0 ≤ 13 by decide) (show 13 < 23 by decide) rfl, xd_InvalidText := xd_of F.xi_InvalidText scx_InvalidText rfl (show 0 ≤ 0 by decide) (show 0 < 23 by decide) rfl, xd_InvalidName := xd_of F.xi_InvalidName scx_InvalidName rfl (show 0 ≤ 1 by decide) (show 1 < 23 by decide) rfl, xd_InvalidIndex := xd_of F.xi_InvalidIndex scx_InvalidIndex rfl (show 0 ≤ 2 by decide) (show 2 < 23 by decide) rfl, xd_InvalidSize := xd_of F.xi_InvalidSize scx_InvalidSize rfl (show 0 ≤ 3 by decide) (show 3 < 23 by decide) rfl, xd_InvalidTable := xd_of F.xi_InvalidTable scx_InvalidTable rfl (show 0 ≤ 4 by decide) (show 4 < 23 by decide) rfl, xd_InvalidView := xd_of F.xi_InvalidView scx_InvalidView rfl (show 0 ≤ 5 by decide) (show 5 < 23 by decide) rfl, xd_InvalidWish := xd_of F.xi_InvalidWish scx_InvalidWish rfl (show 0 ≤ 6 by decide) (show 6 < 23 by decide) rfl, xd_NotLot := xd_of F.xi_NotLot scx_NotLot rfl (show 0 ≤ 7 by decide) (show 7 < 23 by decide) rfl, xd_InvalidTables := xd_of F.xi_InvalidTables scx_InvalidTables rfl (show 0 ≤ 8 by decide) (show 8 < 23 by decide) rfl, xd_InvalidWord := xd_of F.xi_InvalidWord scx_InvalidWord rfl (show 0 ≤ 9 by decide) (show 9 < 23 by decide) rfl, xd_InvalidColumns := xd_of F.xi_InvalidColumns scx_InvalidColumns rfl (show 0 ≤ 10 by decide) (show 10 < 23 by decide) rfl, xd_InvalidChanges := xd_of F.xi_InvalidChanges scx_InvalidChanges rfl (show 0 ≤ 11 by decide) (show 11 < 23 by decide) rfl, xd_InvalidWishes := xd_of F.xi_InvalidWishes scx_InvalidWishes rfl (show 0 ≤ 12 by decide) (show 12 < 23 by decide) rfl, xd_UnknownName := xd_of F.xi_UnknownName scx_UnknownName rfl (show 0 ≤ 13 by decide) (show 13 < 23 by decide) rfl, xd_InUse := xd_of F.xi_InUse scx_InUse rfl (show 0 ≤ 14 by decide) (show 14 < 23 by decide) rfl, xd_NotTriangular := xd_of F.xi_NotTriangular scx_NotTriangular rfl (show 0 ≤ 15 by decide) (show 15 < 23 by decide) rfl, xd_OtherSize := xd_of F.xi_OtherSize scx_OtherSize rfl (show 0 ≤ 16 by decide) (show 16 < 23 by decide) rfl, xd_TooMany := xd_of F.xi_TooMany scx_TooMany rfl (show 0 ≤ 17 by decide) (show 17 < 23 by decide) rfl, xd_Broken := xd_of F.xi_Broken scx_Broken rfl (show 0 ≤ 19 by decide) (show 19 < 23 by decide) rfl, xo := F.xo, xk_ArithmeticError := F.xk_ArithmeticError, xk_Broken := F.xk_Broken, xk_InUse := F.xk_InUse, xk_InvalidChanges := F.xk_InvalidChanges, xk_InvalidColumns := F.xk_InvalidColumns, xk_InvalidIndex := F.xk_InvalidIndex, xk_InvalidName := F.xk_InvalidName, xk_InvalidSize := F.xk_InvalidSize, xk_InvalidTable := F.xk_InvalidTable, xk_InvalidTables := F.xk_InvalidTables, xk_InvalidText := F.xk_InvalidText, xk_InvalidView := F.xk_InvalidView, xk_InvalidWish := F.xk_InvalidWish, xk_InvalidWishes := F.xk_InvalidWishes, xk_InvalidWord := F.xk_InvalidWord, xk_LookupError := F.xk_LookupError, xk_NotLot := F.xk_NotLot, xk_NotPossible := F.xk_NotPossible, xk_NotTriangular := F.xk_NotTriangular, xk_NothingToUndo := F.xk_NothingToUndo, xk_OtherSize := F.xk_OtherSize, xk_TooMany := F.xk_TooMany, xk_UnknownName := F.xk_UnknownName, xk_ValueError := F.xk_ValueError, xk_WrongName := F.xk_WrongName, xk_WrongValue := F.xk_WrongValue, xf_given := (fun c hc => by have hc := List.contains_iff_mem.mp hc; simp only [List.mem_cons, List.mem_nil_iff, or_false] at hc; rcases hc with rfl | rfl | rfl | rfl | rfl | rfl | rfl | rfl | rfl | rfl | rfl | rfl; exact ⟨rfl, F.xi_InvalidText.no⟩; exact ⟨rfl, F.xi_InvalidName.no⟩; exact ⟨rfl, F.xi_InvalidIndex.no⟩; exact ⟨rfl, F.xi_InvalidSize.no⟩; exact ⟨rfl, F.xi_InvalidTable.no⟩; exact ⟨rfl, F.xi_InvalidView.no⟩; exact ⟨rfl, F.xi_InvalidWish.no⟩; exact ⟨rfl, F.xi_NotLot.no⟩; exact ⟨rfl, F.xi_UnknownName.no⟩; exact ⟨rfl, F.xi_NotTriangular.no⟩; exact ⟨rfl, F.xi_OtherSize.no⟩; exact ⟨rfl, F.xi_TooMany.no⟩), xf_index := (fun c hc => by have hc := List.contains_iff_mem.mp hc; simp only [List.mem_cons, List.mem_nil_iff, or_false] at hc; rcases hc with rfl | rfl | rfl | rfl | rfl | rfl | rfl; exact ⟨rfl, F.xi_InvalidTables.no⟩; exact ⟨rfl, F.xi_InvalidWord.no⟩; exact ⟨rfl, F.xi_InvalidColumns.no⟩; exact ⟨rfl, F.xi_InvalidChanges.no⟩; exact ⟨rfl, F.xi_InvalidWishes.no⟩; exact ⟨rfl, F.xi_InUse.no⟩; exact ⟨rfl, F.xi_Broken.no⟩), n_ArithmeticError := F.n_ArithmeticError, n_LookupError := F.n_LookupError, n_ValueError := F.n_ValueError, n_abs := F.n_abs, n_all := F.n_all, n_divmod := F.n_divmod, n_int := F.n_int, n_isinstance := F.n_isinstance, n_len := F.n_len, n_max := F.n_max, n_min := F.n_min, n_range := F.n_range, n_repr := F.n_repr, x_MOST_CHANGES := F.x_MOST_CHANGES, x_MOST_COLUMNS := F.x_MOST_COLUMNS, x_MOST_LETTERS := F.x_MOST_LETTERS, x_MOST_NUMBER := F.x_MOST_NUMBER, x_MOST_SIZE := F.x_MOST_SIZE, x_MOST_TABLES := F.x_MOST_TABLES }
  | j + 1 => by
    have T : Tx (Wj P w K mg base C T0 j) (4 * j) := lev F TB j
    exact { f__law_cast := ⟨a__law_cast, fnr_next (W := Wj P w K mg base C T0 j) (d := d__law_cast) rfl rfl F.d__law_cast sc__law_cast rfl rfl (b__law_cast T), F.g__law_cast, F.k__law_cast⟩, f__law_any_of := ⟨a__law_any_of, fnr_next (W := Wj P w K mg base C T0 j) (d := d__law_any_of) rfl rfl F.d__law_any_of sc__law_any_of rfl rfl (b__law_any_of T), F.g__law_any_of, F.k__law_any_of⟩, f__law_thing := ⟨a__law_thing, fnr_next (W := Wj P w K mg base C T0 j) (d := d__law_thing) rfl rfl F.d__law_thing sc__law_thing rfl rfl (b__law_thing T), F.g__law_thing, F.k__law_thing⟩, f__law_bases := ⟨a__law_bases, fnr_next (W := Wj P w K mg base C T0 j) (d := d__law_bases) rfl rfl F.d__law_bases sc__law_bases rfl rfl (b__law_bases T), F.g__law_bases, F.k__law_bases⟩, f__law_flags := ⟨a__law_flags, fnr_next (W := Wj P w K mg base C T0 j) (d := d__law_flags) rfl rfl F.d__law_flags sc__law_flags rfl rfl (b__law_flags T), F.g__law_flags, F.k__law_flags⟩, f__law_held := ⟨a__law_held, fnr_next (W := Wj P w K mg base C T0 j) (d := d__law_held) rfl rfl F.d__law_held sc__law_held rfl rfl (b__law_held T), F.g__law_held, F.k__law_held⟩, f__law_some_right := ⟨a__law_some_right, fnr_next (W := Wj P w K mg base C T0 j) (d := d__law_some_right) rfl rfl F.d__law_some_right sc__law_some_right rfl rfl (b__law_some_right T), F.g__law_some_right, F.k__law_some_right⟩, f__law_placed := ⟨a__law_placed, fnr_next (W := Wj P w K mg base C T0 j) (d := d__law_placed) rfl rfl F.d__law_placed sc__law_placed rfl rfl (b__law_placed T), F.g__law_placed, F.k__law_placed⟩, f__law_named := ⟨a__law_named, fnr_next (W := Wj P w K mg base C T0 j) (d := d__law_named) rfl rfl F.d__law_named sc__law_named rfl rfl (b__law_named T), F.g__law_named, F.k__law_named⟩, f__law_right := ⟨a__law_right, fnr_next (W := Wj P w K mg base C T0 j) (d := d__law_right) rfl rfl F.d__law_right sc__law_right rfl rfl (b__law_right T), F.g__law_right, F.k__law_right⟩, f__law_begun := ⟨a__law_begun, fnr_next (W := Wj P w K mg base C T0 j) (d := d__law_begun) rfl rfl F.d__law_begun sc__law_begun rfl rfl (b__law_begun T), F.g__law_begun, F.k__law_begun⟩, f_law := ⟨a_law, fnr_next (W := Wj P w K mg base C T0 j) (d := d_law) rfl rfl F.d_law sc_law rfl rfl (b_law T), F.g_law, F.k_law⟩, co := F.co, x0_NothingToUndo := xd0_of F.x0_NothingToUndo (show 0 ≤ 18 by decide) (show 18 < 23 by decide), x0_WrongValue := xd0_of F.x0_WrongValue (show 0 ≤ 20 by decide) (show 20 < 23 by decide), x0_WrongName := xd0_of F.x0_WrongName (show 0 ≤ 21 by decide) (show 21 < 23 by decide), x0_NotPossible := xd0_of F.x0_NotPossible (show 0 ≤ 22 by decide) (show 22 < 23 by decide), xk0_Broken := xdk_of F.xi_Broken F.xk0_Broken scx_Broken rfl (show 0 ≤ 19 by decide) (show 19 < 23 by decide) rfl, xk0_InUse := xdk_of F.xi_InUse F.xk0_InUse scx_InUse rfl (show 0 ≤ 14 by decide) (show 14 < 23 by decide) rfl, xk0_InvalidChanges := xdk_of F.xi_InvalidChanges F.xk0_InvalidChanges scx_InvalidChanges rfl (show 0 ≤ 11 by decide) (show 11 < 23 by decide) rfl, xk0_InvalidColumns := xdk_of F.xi_InvalidColumns F.xk0_InvalidColumns scx_InvalidColumns rfl (show 0 ≤ 10 by decide) (show 10 < 23 by decide) rfl, xk0_InvalidIndex := xdk_of F.xi_InvalidIndex F.xk0_InvalidIndex scx_InvalidIndex rfl (show 0 ≤ 2 by decide) (show 2 < 23 by decide) rfl, xk0_InvalidName := xdk_of F.xi_InvalidName F.xk0_InvalidName scx_InvalidName rfl (show 0 ≤ 1 by decide) (show 1 < 23 by decide) rfl, xk0_InvalidSize := xdk_of F.xi_InvalidSize F.xk0_InvalidSize scx_InvalidSize rfl (show 0 ≤ 3 by decide) (show 3 < 23 by decide) rfl, xk0_InvalidTable := xdk_of F.xi_InvalidTable F.xk0_InvalidTable scx_InvalidTable rfl (show 0 ≤ 4 by decide) (show 4 < 23 by decide) rfl, xk0_InvalidTables := xdk_of F.xi_InvalidTables F.xk0_InvalidTables scx_InvalidTables rfl (show 0 ≤ 8 by decide) (show 8 < 23 by decide) rfl, xk0_InvalidText := xdk_of F.xi_InvalidText F.xk0_InvalidText scx_InvalidText rfl (show 0 ≤ 0 by decide) (show 0 < 23 by decide) rfl, xk0_InvalidView := xdk_of F.xi_InvalidView F.xk0_InvalidView scx_InvalidView rfl (show 0 ≤ 5 by decide) (show 5 < 23 by decide) rfl, xk0_InvalidWish := xdk_of F.xi_InvalidWish F.xk0_InvalidWish scx_InvalidWish rfl (show 0 ≤ 6 by decide) (show 6 < 23 by decide) rfl, xk0_InvalidWishes := xdk_of F.xi_InvalidWishes F.xk0_InvalidWishes scx_InvalidWishes rfl (show 0 ≤ 12 by decide) (show 12 < 23 by decide) rfl, xk0_InvalidWord := xdk_of F.xi_InvalidWord F.xk0_InvalidWord scx_InvalidWord rfl (show 0 ≤ 9 by decide) (show 9 < 23 by decide) rfl, xk0_NotLot := xdk_of F.xi_NotLot F.xk0_NotLot scx_NotLot rfl (show 0 ≤ 7 by decide) (show 7 < 23 by decide) rfl, xk0_NotTriangular := xdk_of F.xi_NotTriangular F.xk0_NotTriangular scx_NotTriangular rfl (show 0 ≤ 15 by decide) (show 15 < 23 by decide) rfl, xk0_OtherSize := xdk_of F.xi_OtherSize F.xk0_OtherSize scx_OtherSize rfl (show 0 ≤ 16 by decide) (show 16 < 23 by decide) rfl, xk0_TooMany := xdk_of F.xi_TooMany F.xk0_TooMany scx_TooMany rfl (show 0 ≤ 17 by decide) (show 17 < 23 by decide) rfl, xk0_UnknownName := xdk_of F.xi_UnknownName F.xk0_UnknownName scx_UnknownName rfl (show 0 ≤ 13 by decide) (show 13 < 23 by decide) rfl, xd_InvalidText := xd_of F.xi_InvalidText scx_InvalidText rfl (show 0 ≤ 0 by decide) (show 0 < 23 by decide) rfl, xd_InvalidName := xd_of F.xi_InvalidName scx_InvalidName rfl (show 0 ≤ 1 by decide) (show 1 < 23 by decide) rfl, xd_InvalidIndex := xd_of F.xi_InvalidIndex scx_InvalidIndex rfl (show 0 ≤ 2 by decide) (show 2 < 23 by decide) rfl, xd_InvalidSize := xd_of F.xi_InvalidSize scx_InvalidSize rfl (show 0 ≤ 3 by decide) (show 3 < 23 by decide) rfl, xd_InvalidTable := xd_of F.xi_InvalidTable scx_InvalidTable rfl (show 0 ≤ 4 by decide) (show 4 < 23 by decide) rfl, xd_InvalidView := xd_of F.xi_InvalidView scx_InvalidView rfl (show 0 ≤ 5 by decide) (show 5 < 23 by decide) rfl, xd_InvalidWish := xd_of F.xi_InvalidWish scx_InvalidWish rfl (show 0 ≤ 6 by decide) (show 6 < 23 by decide) rfl, xd_NotLot := xd_of F.xi_NotLot scx_NotLot rfl (show 0 ≤ 7 by decide) (show 7 < 23 by decide) rfl, xd_InvalidTables := xd_of F.xi_InvalidTables scx_InvalidTables rfl (show 0 ≤ 8 by decide) (show 8 < 23 by decide) rfl, xd_InvalidWord := xd_of F.xi_InvalidWord scx_InvalidWord rfl (show 0 ≤ 9 by decide) (show 9 < 23 by decide) rfl, xd_InvalidColumns := xd_of F.xi_InvalidColumns scx_InvalidColumns rfl (show 0 ≤ 10 by decide) (show 10 < 23 by decide) rfl, xd_InvalidChanges := xd_of F.xi_InvalidChanges scx_InvalidChanges rfl (show 0 ≤ 11 by decide) (show 11 < 23 by decide) rfl, xd_InvalidWishes := xd_of F.xi_InvalidWishes scx_InvalidWishes rfl (show 0 ≤ 12 by decide) (show 12 < 23 by decide) rfl, xd_UnknownName := xd_of F.xi_UnknownName scx_UnknownName rfl (show 0 ≤ 13 by decide) (show 13 < 23 by decide) rfl, xd_InUse := xd_of F.xi_InUse scx_InUse rfl (show 0 ≤ 14 by decide) (show 14 < 23 by decide) rfl, xd_NotTriangular := xd_of F.xi_NotTriangular scx_NotTriangular rfl (show 0 ≤ 15 by decide) (show 15 < 23 by decide) rfl, xd_OtherSize := xd_of F.xi_OtherSize scx_OtherSize rfl (show 0 ≤ 16 by decide) (show 16 < 23 by decide) rfl, xd_TooMany := xd_of F.xi_TooMany scx_TooMany rfl (show 0 ≤ 17 by decide) (show 17 < 23 by decide) rfl, xd_Broken := xd_of F.xi_Broken scx_Broken rfl (show 0 ≤ 19 by decide) (show 19 < 23 by decide) rfl, xo := F.xo, xk_ArithmeticError := F.xk_ArithmeticError, xk_Broken := F.xk_Broken, xk_InUse := F.xk_InUse, xk_InvalidChanges := F.xk_InvalidChanges, xk_InvalidColumns := F.xk_InvalidColumns, xk_InvalidIndex := F.xk_InvalidIndex, xk_InvalidName := F.xk_InvalidName, xk_InvalidSize := F.xk_InvalidSize, xk_InvalidTable := F.xk_InvalidTable, xk_InvalidTables := F.xk_InvalidTables, xk_InvalidText := F.xk_InvalidText, xk_InvalidView := F.xk_InvalidView, xk_InvalidWish := F.xk_InvalidWish, xk_InvalidWishes := F.xk_InvalidWishes, xk_InvalidWord := F.xk_InvalidWord, xk_LookupError := F.xk_LookupError, xk_NotLot := F.xk_NotLot, xk_NotPossible := F.xk_NotPossible, xk_NotTriangular := F.xk_NotTriangular, xk_NothingToUndo := F.xk_NothingToUndo, xk_OtherSize := F.xk_OtherSize, xk_TooMany := F.xk_TooMany, xk_UnknownName := F.xk_UnknownName, xk_ValueError := F.xk_ValueError, xk_WrongName := F.xk_WrongName, xk_WrongValue := F.xk_WrongValue, xf_given := (fun c hc => by have hc := List.contains_iff_mem.mp hc; simp only [List.mem_cons, List.mem_nil_iff, or_false] at hc; rcases hc with rfl | rfl | rfl | rfl | rfl | rfl | rfl | rfl | rfl | rfl | rfl | rfl; exact ⟨rfl, F.xi_InvalidText.no⟩; exact ⟨rfl, F.xi_InvalidName.no⟩; exact ⟨rfl, F.xi_InvalidIndex.no⟩; exact ⟨rfl, F.xi_InvalidSize.no⟩; exact ⟨rfl, F.xi_InvalidTable.no⟩; exact ⟨rfl, F.xi_InvalidView.no⟩; exact ⟨rfl, F.xi_InvalidWish.no⟩; exact ⟨rfl, F.xi_NotLot.no⟩; exact ⟨rfl, F.xi_UnknownName.no⟩; exact ⟨rfl, F.xi_NotTriangular.no⟩; exact ⟨rfl, F.xi_OtherSize.no⟩; exact ⟨rfl, F.xi_TooMany.no⟩), xf_index := (fun c hc => by have hc := List.contains_iff_mem.mp hc; simp only [List.mem_cons, List.mem_nil_iff, or_false] at hc; rcases hc with rfl | rfl | rfl | rfl | rfl | rfl | rfl; exact ⟨rfl, F.xi_InvalidTables.no⟩; exact ⟨rfl, F.xi_InvalidWord.no⟩; exact ⟨rfl, F.xi_InvalidColumns.no⟩; exact ⟨rfl, F.xi_InvalidChanges.no⟩; exact ⟨rfl, F.xi_InvalidWishes.no⟩; exact ⟨rfl, F.xi_InUse.no⟩; exact ⟨rfl, F.xi_Broken.no⟩), n_ArithmeticError := F.n_ArithmeticError, n_LookupError := F.n_LookupError, n_ValueError := F.n_ValueError, n_abs := F.n_abs, n_all := F.n_all, n_divmod := F.n_divmod, n_int := F.n_int, n_isinstance := F.n_isinstance, n_len := F.n_len, n_max := F.n_max, n_min := F.n_min, n_range := F.n_range, n_repr := F.n_repr, x_MOST_CHANGES := F.x_MOST_CHANGES, x_MOST_COLUMNS := F.x_MOST_COLUMNS, x_MOST_LETTERS := F.x_MOST_LETTERS, x_MOST_NUMBER := F.x_MOST_NUMBER, x_MOST_SIZE := F.x_MOST_SIZE, x_MOST_TABLES := F.x_MOST_TABLES }
end
end M

set_option Elab.async false
set_option linter.all false
set_option maxRecDepth 100000
set_option maxHeartbeats 8000000
namespace M
open PySem L2 PyProof.Rows SlX
/-! ### plain functions -/
def m__law_bases (x_0 : D) : Mo D :=
  (((((.ok x_0) >>= fun v0 => (prm (.isX [0, 1, 2, 3, 4, 5, 6, 7, 8, 9, 10, 11, 12, 20]) [v0])) >>= fun v1 => (((.ok x_0) >>= fun v2 => (prm (.isX [13, 14, 21]) [v2])) >>= fun v3 => (((.ok x_0) >>= fun v4 => (prm (.isX [15, 16, 17, 18, 19, 22]) [v4])) >>= fun v5 => (.ok []) >>= fun v6 => .ok (v5 :: v6)) >>= fun v7 => .ok (v3 :: v7)) >>= fun v8 => .ok (v1 :: v8)) >>= lstM) >>= fun v9 => ((.ok v9) >>= fun v10 => (((((.ok x_0) >>= fun v11 => (prm (.isX [0, 1, 2, 3, 4, 5, 6, 7, 8, 9, 10, 11, 12, 20]) [v11])) >>= fun v12 => (((.ok x_0) >>= fun v13 => (prm (.isX [13, 14, 21]) [v13])) >>= fun v14 => (((.ok x_0) >>= fun v15 => (prm (.isX [15, 16, 17, 18, 19, 22]) [v15])) >>= fun v16 => (.ok []) >>= fun v17 => .ok (v16 :: v17)) >>= fun v18 => .ok (v14 :: v18)) >>= fun v19 => .ok (v12 :: v19)) >>= lstM) >>= fun v20 => (prm .add [v10, v20]))))
def m__law_flags (x_0 : D) : Mo D :=
  (((((.ok x_0) >>= fun v0 => (prm (.isX [0]) [v0])) >>= fun v1 => (((.ok x_0) >>= fun v2 => (prm (.isX [1]) [v2])) >>= fun v3 => (((.ok x_0) >>= fun v4 => (prm (.isX [2]) [v4])) >>= fun v5 => (.ok []) >>= fun v6 => .ok (v5 :: v6)) >>= fun v7 => .ok (v3 :: v7)) >>= fun v8 => .ok (v1 :: v8)) >>= lstM) >>= fun v9 => (((.ok v9) >>= fun v10 => (((((.ok x_0) >>= fun v11 => (prm (.isX [3]) [v11])) >>= fun v12 => (((.ok x_0) >>= fun v13 => (prm (.isX [4]) [v13])) >>= fun v14 => (((.ok x_0) >>= fun v15 => (prm (.isX [5]) [v15])) >>= fun v16 => (.ok []) >>= fun v17 => .ok (v16 :: v17)) >>= fun v18 => .ok (v14 :: v18)) >>= fun v19 => .ok (v12 :: v19)) >>= lstM) >>= fun v20 => (prm .add [v10, v20]))) >>= fun v21 => (((.ok v21) >>= fun v22 => (((((.ok x_0) >>= fun v23 => (prm (.isX [6]) [v23])) >>= fun v24 => (((.ok x_0) >>= fun v25 => (prm (.isX [7]) [v25])) >>= fun v26 => (((.ok x_0) >>= fun v27 => (prm (.isX [8]) [v27])) >>= fun v28 => (.ok []) >>= fun v29 => .ok (v28 :: v29)) >>= fun v30 => .ok (v26 :: v30)) >>= fun v31 => .ok (v24 :: v31)) >>= lstM) >>= fun v32 => (prm .add [v22, v32]))) >>= fun v33 => (((.ok v33) >>= fun v34 => (((((.ok x_0) >>= fun v35 => (prm (.isX [9]) [v35])) >>= fun v36 => (((.ok x_0) >>= fun v37 => (prm (.isX [10]) [v37])) >>= fun v38 => (((.ok x_0) >>= fun v39 => (prm (.isX [11]) [v39])) >>= fun v40 => (.ok []) >>= fun v41 => .ok (v40 :: v41)) >>= fun v42 => .ok (v38 :: v42)) >>= fun v43 => .ok (v36 :: v43)) >>= lstM) >>= fun v44 => (prm .add [v34, v44]))) >>= fun v45 => (((.ok v45) >>= fun v46 => (((((.ok x_0) >>= fun v47 => (prm (.isX [12]) [v47])) >>= fun v48 => (((.ok x_0) >>= fun v49 => (prm (.isX [13]) [v49])) >>= fun v50 => (((.ok x_0) >>= fun v51 => (prm (.isX [14]) [v51])) >>= fun v52 => (.ok []) >>= fun v53 => .ok (v52 :: v53)) >>= fun v54 => .ok (v50 :: v54)) >>= fun v55 => .ok (v48 :: v55)) >>= lstM) >>= fun v56 => (prm .add [v46, v56]))) >>= fun v57 => (((.ok v57) >>= fun v58 => (((((.ok x_0) >>= fun v59 => (prm (.isX [15]) [v59])) >>= fun v60 => (((.ok x_0) >>= fun v61 => (prm (.isX [16]) [v61])) >>= fun v62 => (((.ok x_0) >>= fun v63 => (prm (.isX [17]) [v63])) >>= fun v64 => (.ok []) >>= fun v65 => .ok (v64 :: v65)) >>= fun v66 => .ok (v62 :: v66)) >>= fun v67 => .ok (v60 :: v67)) >>= lstM) >>= fun v68 => (prm .add [v58, v68]))) >>= fun v69 => ((.ok v69) >>= fun v70 => (((((.ok x_0) >>= fun v71 => (prm (.isX [18]) [v71])) >>= fun v72 => (((.ok x_0) >>= fun v73 => (prm (.isX [19]) [v73])) >>= fun v74 => (.ok []) >>= fun v75 => .ok (v74 :: v75)) >>= fun v76 => .ok (v72 :: v76)) >>= lstM) >>= fun v77 => (prm .add [v70, v77])))))))))
def m__law_held (x_0 x_1 : D) : Mo D :=
  ((((.ok x_1) >>= fun v0 => ((((.ok (D.int 8)) >>= fun v1 => ((.ok (D.int 9)) >>= fun v2 => ((.ok (D.int 10)) >>= fun v3 => ((.ok (D.int 11)) >>= fun v4 => ((.ok (D.int 12)) >>= fun v5 => ((.ok (D.int 14)) >>= fun v6 => ((.ok (D.int 19)) >>= fun v7 => (.ok []) >>= fun v8 => .ok (v7 :: v8)) >>= fun v9 => .ok (v6 :: v9)) >>= fun v10 => .ok (v5 :: v10)) >>= fun v11 => .ok (v4 :: v11)) >>= fun v12 => .ok (v3 :: v12)) >>= fun v13 => .ok (v2 :: v13)) >>= fun v14 => .ok (v1 :: v14)) >>= lstM) >>= fun v15 => (prm .isIn [v0, v15]))) >>= fun v16 => (tru v16)) >>= fun v17 => (if v17 then ((.ok x_0) >>= fun v18 => (prm (.fldX [8, 9, 10, 11, 12, 14, 19]) [v18])) else ((.ok x_0) >>= fun v19 => (prm (.fldX [0, 1, 2, 3, 4, 5, 6, 7, 13, 15, 16, 17]) [v19]))))
def m__law_some_right (x_0 x_1 : D) : Mo D :=
  (((.ok (D.int 20)) >>= fun v0 => (optM (rng1F [v0]))) >>= fun v1 => foldB (ρ := D) (fun (v2 : Unit) v3 => (.ok v3) >>= fun v4 => (((((.ok v4) >>= fun v5 => ((.ok (D.int 13)) >>= fun v6 => (prm .lt [v5, v6]))) >>= fun v7 => (tru v7)) >>= fun v8 => (if v8 then (.ok (D.int 0)) else ((((.ok v4) >>= fun v9 => ((.ok (D.int 15)) >>= fun v10 => (prm .lt [v9, v10]))) >>= fun v11 => (tru v11)) >>= fun v12 => (if v12 then (.ok (D.int 1)) else (.ok (D.int 2)))))) >>= fun v13 => ((((((.ok x_0) >>= fun v14 => ((.ok v4) >>= fun v15 => (prm .idx [v14, v15]))) >>= fun v16 => (m__law_flags v16)) >>= fun v17 => ((((.ok (D.int 20)) >>= fun v18 => (optM (rng1F [v18]))) >>= fun v19 => (mapL (fun v20 => (.ok v20) >>= fun v21 => ((.ok v21) >>= fun v22 => ((.ok v4) >>= fun v23 => (prm .eq [v22, v23])))) v19 >>= fun l => .ok (D.lst l))) >>= fun v24 => (prm .ne [v17, v24]))) >>= fun v25 => (tru v25)) >>= fun v26 => if v26 then ((.ok (D.bl false)) >>= fun v27 => .ok (.ret v27)) else ((((((.ok x_0) >>= fun v28 => ((.ok v4) >>= fun v29 => (prm .idx [v28, v29]))) >>= fun v30 => (m__law_bases v30)) >>= fun v31 => (((((.ok (D.int 3)) >>= fun v32 => (optM (rng1F [v32]))) >>= fun v33 => (mapL (fun v34 => (.ok v34) >>= fun v35 => ((.ok v35) >>= fun v36 => ((.ok v13) >>= fun v37 => (prm .eq [v36, v37])))) v33 >>= fun l => .ok (D.lst l))) >>= fun v38 => ((.ok (D.int 2)) >>= fun v39 => (prm .mul [v38, v39]))) >>= fun v40 => (prm .ne [v31, v40]))) >>= fun v41 => (tru v41)) >>= fun v42 => if v42 then ((.ok (D.bl false)) >>= fun v43 => .ok (.ret v43)) else (((((.ok v4) >>= fun v44 => ((.ok (D.int 18)) >>= fun v45 => (prm .ne [v44, v45]))) >>= fun v46 => (tru v46)) >>= fun v47 => if v47 then ((((((.ok x_0) >>= fun v48 => ((.ok v4) >>= fun v49 => (prm .idx [v48, v49]))) >>= fun v50 => ((.ok v4) >>= fun v51 => (m__law_held v50 v51))) >>= fun v52 => (prm .repr [v52])) >>= fun v53 => (((.ok x_1) >>= fun v54 => (prm .repr [v54])) >>= fun v55 => (prm .ne [v53, v55]))) >>= fun v56 => (tru v56)) else .ok false) >>= fun v57 => if v57 then ((.ok (D.bl false)) >>= fun v58 => .ok (.ret v58)) else (.ok (.nx ()))))))) () v1 >>= fun v59 => Fl.on v59 (fun _ => (((.ok x_0) >>= fun v60 => (prm .len [v60])) >>= fun v61 => ((.ok (D.int 20)) >>= fun v62 => (prm .eq [v61, v62])))) (fun v59 => .ok ( v59)))
def m__law_placed (x_0 : D) : Mo D :=
  (((((.ok x_0) >>= fun v0 => (.ok (D.exn 0 [v0]))) >>= fun v1 => (((.ok x_0) >>= fun v2 => (.ok (D.exn 1 [v2]))) >>= fun v3 => (((.ok x_0) >>= fun v4 => (.ok (D.exn 2 [v4]))) >>= fun v5 => (((.ok x_0) >>= fun v6 => (.ok (D.exn 3 [v6]))) >>= fun v7 => (((.ok x_0) >>= fun v8 => (.ok (D.exn 4 [v8]))) >>= fun v9 => (.ok []) >>= fun v10 => .ok (v9 :: v10)) >>= fun v11 => .ok (v7 :: v11)) >>= fun v12 => .ok (v5 :: v12)) >>= fun v13 => .ok (v3 :: v13)) >>= fun v14 => .ok (v1 :: v14)) >>= lstM) >>= fun v15 => (((.ok v15) >>= fun v16 => (((((.ok x_0) >>= fun v17 => (.ok (D.exn 5 [v17]))) >>= fun v18 => (((.ok x_0) >>= fun v19 => (.ok (D.exn 6 [v19]))) >>= fun v20 => (((.ok x_0) >>= fun v21 => (.ok (D.exn 7 [v21]))) >>= fun v22 => (((.ok x_0) >>= fun v23 => (.ok (D.exn 8 [v23]))) >>= fun v24 => (((.ok x_0) >>= fun v25 => (.ok (D.exn 9 [v25]))) >>= fun v26 => (.ok []) >>= fun v27 => .ok (v26 :: v27)) >>= fun v28 => .ok (v24 :: v28)) >>= fun v29 => .ok (v22 :: v29)) >>= fun v30 => .ok (v20 :: v30)) >>= fun v31 => .ok (v18 :: v31)) >>= lstM) >>= fun v32 => (prm .add [v16, v32]))) >>= fun v33 => (((.ok v33) >>= fun v34 => (((((.ok x_0) >>= fun v35 => (.ok (D.exn 10 [v35]))) >>= fun v36 => (((.ok x_0) >>= fun v37 => (.ok (D.exn 11 [v37]))) >>= fun v38 => (((.ok x_0) >>= fun v39 => (.ok (D.exn 12 [v39]))) >>= fun v40 => (((.ok x_0) >>= fun v41 => (.ok (D.exn 13 [v41]))) >>= fun v42 => (.ok []) >>= fun v43 => .ok (v42 :: v43)) >>= fun v44 => .ok (v40 :: v44)) >>= fun v45 => .ok (v38 :: v45)) >>= fun v46 => .ok (v36 :: v46)) >>= lstM) >>= fun v47 => (prm .add [v34, v47]))) >>= fun v48 => (((.ok v48) >>= fun v49 => (((((.ok x_0) >>= fun v50 => (.ok (D.exn 14 [v50]))) >>= fun v51 => (((.ok x_0) >>= fun v52 => (.ok (D.exn 15 [v52]))) >>= fun v53 => (((.ok x_0) >>= fun v54 => (.ok (D.exn 16 [v54]))) >>= fun v55 => (((.ok x_0) >>= fun v56 => (.ok (D.exn 17 [v56]))) >>= fun v57 => (.ok []) >>= fun v58 => .ok (v57 :: v58)) >>= fun v59 => .ok (v55 :: v59)) >>= fun v60 => .ok (v53 :: v60)) >>= fun v61 => .ok (v51 :: v61)) >>= lstM) >>= fun v62 => (prm .add [v49, v62]))) >>= fun v63 => ((.ok v63) >>= fun v64 => ((((.ok (D.exn 18 [])) >>= fun v65 => (((.ok x_0) >>= fun v66 => (.ok (D.exn 19 [v66]))) >>= fun v67 => (.ok []) >>= fun v68 => .ok (v67 :: v68)) >>= fun v69 => .ok (v65 :: v69)) >>= lstM) >>= fun v70 => (prm .add [v64, v70])))))))
def m__law_named (x_0 : D) : Mo D :=
  (((((.ok x_0) >>= fun v0 => (.ok (D.exn 0 [v0]))) >>= fun v1 => (((.ok x_0) >>= fun v2 => (.ok (D.exn 1 [v2]))) >>= fun v3 => (((.ok x_0) >>= fun v4 => (.ok (D.exn 2 [v4]))) >>= fun v5 => (((.ok x_0) >>= fun v6 => (.ok (D.exn 3 [v6]))) >>= fun v7 => (.ok []) >>= fun v8 => .ok (v7 :: v8)) >>= fun v9 => .ok (v5 :: v9)) >>= fun v10 => .ok (v3 :: v10)) >>= fun v11 => .ok (v1 :: v11)) >>= lstM) >>= fun v12 => (((.ok v12) >>= fun v13 => (((((.ok x_0) >>= fun v14 => (.ok (D.exn 4 [v14]))) >>= fun v15 => (((.ok x_0) >>= fun v16 => (.ok (D.exn 5 [v16]))) >>= fun v17 => (((.ok x_0) >>= fun v18 => (.ok (D.exn 6 [v18]))) >>= fun v19 => (.ok []) >>= fun v20 => .ok (v19 :: v20)) >>= fun v21 => .ok (v17 :: v21)) >>= fun v22 => .ok (v15 :: v22)) >>= lstM) >>= fun v23 => (prm .add [v13, v23]))) >>= fun v24 => (((.ok v24) >>= fun v25 => (((((.ok x_0) >>= fun v26 => (.ok (D.exn 7 [v26]))) >>= fun v27 => (((.ok x_0) >>= fun v28 => (.ok (D.exn 8 [v28]))) >>= fun v29 => (((.ok x_0) >>= fun v30 => (.ok (D.exn 9 [v30]))) >>= fun v31 => (.ok []) >>= fun v32 => .ok (v31 :: v32)) >>= fun v33 => .ok (v29 :: v33)) >>= fun v34 => .ok (v27 :: v34)) >>= lstM) >>= fun v35 => (prm .add [v25, v35]))) >>= fun v36 => (((.ok v36) >>= fun v37 => (((((.ok x_0) >>= fun v38 => (.ok (D.exn 10 [v38]))) >>= fun v39 => (((.ok x_0) >>= fun v40 => (.ok (D.exn 11 [v40]))) >>= fun v41 => (((.ok x_0) >>= fun v42 => (.ok (D.exn 12 [v42]))) >>= fun v43 => (.ok []) >>= fun v44 => .ok (v43 :: v44)) >>= fun v45 => .ok (v41 :: v45)) >>= fun v46 => .ok (v39 :: v46)) >>= lstM) >>= fun v47 => (prm .add [v37, v47]))) >>= fun v48 => (((.ok v48) >>= fun v49 => (((((.ok x_0) >>= fun v50 => (.ok (D.exn 13 [v50]))) >>= fun v51 => (((.ok x_0) >>= fun v52 => (.ok (D.exn 14 [v52]))) >>= fun v53 => (((.ok x_0) >>= fun v54 => (.ok (D.exn 15 [v54]))) >>= fun v55 => (((.ok x_0) >>= fun v56 => (.ok (D.exn 16 [v56]))) >>= fun v57 => (.ok []) >>= fun v58 => .ok (v57 :: v58)) >>= fun v59 => .ok (v55 :: v59)) >>= fun v60 => .ok (v53 :: v60)) >>= fun v61 => .ok (v51 :: v61)) >>= lstM) >>= fun v62 => (prm .add [v49, v62]))) >>= fun v63 => ((.ok v63) >>= fun v64 => (((((.ok x_0) >>= fun v65 => (.ok (D.exn 17 [v65]))) >>= fun v66 => ((.ok (D.exn 18 [])) >>= fun v67 => (((.ok x_0) >>= fun v68 => (.ok (D.exn 19 [v68]))) >>= fun v69 => (.ok []) >>= fun v70 => .ok (v69 :: v70)) >>= fun v71 => .ok (v67 :: v71)) >>= fun v72 => .ok (v66 :: v72)) >>= lstM) >>= fun v73 => (prm .add [v64, v73]))))))))
def m__law_right (x_0 : D) : Mo (D × D) :=
  (((.ok (D.int 4)) >>= fun v0 => (optM (rng1F [v0]))) >>= fun v1 => foldB (ρ := D × D) (fun v2 v3 => (.ok v3) >>= fun v4 => ((m__law_thing v2) >>= fun v5 => (((((((.ok v5.1) >>= fun v6 => (m__law_placed v6)) >>= fun v7 => ((.ok v5.1) >>= fun v8 => (m__law_some_right v7 v8))) >>= fun v9 => (tru v9)) >>= fun v10 => .ok (!v10)) >>= fun v11 => if v11 then .ok true else (((((.ok v5.1) >>= fun v12 => (m__law_named v12)) >>= fun v13 => ((.ok v5.1) >>= fun v14 => (m__law_some_right v13 v14))) >>= fun v15 => (tru v15)) >>= fun v16 => .ok (!v16))) >>= fun v17 => if v17 then ((.ok (D.bl false)) >>= fun v18 => .ok (.ret (v18, v5.2))) else (.ok (.nx v5.2))))) x_0 v1 >>= fun v19 => Fl.on v19 (fun v20 => ((((((.ok (D.exn 20 [])) >>= fun v21 => ((.ok (D.exn 21 [])) >>= fun v22 => ((.ok (D.exn 22 [])) >>= fun v23 => (.ok []) >>= fun v24 => .ok (v23 :: v24)) >>= fun v25 => .ok (v22 :: v25)) >>= fun v26 => .ok (v21 :: v26)) >>= lstM) >>= fun v27 => (itemsM v27)) >>= fun v28 => (mapL (fun v29 => (.ok v29) >>= fun v30 => (((.ok v30) >>= fun v31 => (m__law_bases v31)) >>= fun v32 => ((.ok (D.int 3)) >>= fun v33 => (prm (.slo false true) [v32, v33])))) v28 >>= fun l => .ok (D.lst l))) >>= fun v34 => (((.ok v34) >>= fun v35 => ((((((.ok (D.bl true)) >>= fun v36 => ((.ok (D.bl false)) >>= fun v37 => ((.ok (D.bl false)) >>= fun v38 => (.ok []) >>= fun v39 => .ok (v38 :: v39)) >>= fun v40 => .ok (v37 :: v40)) >>= fun v41 => .ok (v36 :: v41)) >>= lstM) >>= fun v42 => ((((.ok (D.bl false)) >>= fun v43 => ((.ok (D.bl true)) >>= fun v44 => ((.ok (D.bl false)) >>= fun v45 => (.ok []) >>= fun v46 => .ok (v45 :: v46)) >>= fun v47 => .ok (v44 :: v47)) >>= fun v48 => .ok (v43 :: v48)) >>= lstM) >>= fun v49 => ((((.ok (D.bl false)) >>= fun v50 => ((.ok (D.bl false)) >>= fun v51 => ((.ok (D.bl true)) >>= fun v52 => (.ok []) >>= fun v53 => .ok (v52 :: v53)) >>= fun v54 => .ok (v51 :: v54)) >>= fun v55 => .ok (v50 :: v55)) >>= lstM) >>= fun v56 => (.ok []) >>= fun v57 => .ok (v56 :: v57)) >>= fun v58 => .ok (v49 :: v58)) >>= fun v59 => .ok (v42 :: v59)) >>= lstM) >>= fun v60 => (prm .eq [v35, v60]))) >>= fun v61 => (.ok (v61, v20))))) (fun v19 => .ok ( v19)))
def m_law (x_0 : D) : Mo D :=
  ((((.ok (D.int 4)) >>= fun v0 => ((.ok (D.int 3)) >>= fun v1 => ((.ok (D.int 1000000)) >>= fun v2 => ((.ok (D.int 40)) >>= fun v3 => ((.ok (D.int 8)) >>= fun v4 => ((.ok (D.int 6)) >>= fun v5 => (.ok []) >>= fun v6 => .ok (v5 :: v6)) >>= fun v7 => .ok (v4 :: v7)) >>= fun v8 => .ok (v3 :: v8)) >>= fun v9 => .ok (v2 :: v9)) >>= fun v10 => .ok (v1 :: v10)) >>= fun v11 => .ok (v0 :: v11)) >>= lstM) >>= fun v12 => (((((.ok v12) >>= fun v13 => (prm .repr [v13])) >>= fun v14 => (((((.ok (D.int 4)) >>= fun v15 => ((.ok (D.int 3)) >>= fun v16 => (((.ok (D.int 10)) >>= fun v17 => ((.ok (D.int 6)) >>= fun v18 => (prm .pow [v17, v18]))) >>= fun v19 => ((.ok (D.int 40)) >>= fun v20 => ((.ok (D.int 8)) >>= fun v21 => ((.ok (D.int 6)) >>= fun v22 => (.ok []) >>= fun v23 => .ok (v22 :: v23)) >>= fun v24 => .ok (v21 :: v24)) >>= fun v25 => .ok (v20 :: v25)) >>= fun v26 => .ok (v19 :: v26)) >>= fun v27 => .ok (v16 :: v27)) >>= fun v28 => .ok (v15 :: v28)) >>= lstM) >>= fun v29 => (prm .repr [v29])) >>= fun v30 => (prm .ne [v14, v30]))) >>= fun v31 => (tru v31)) >>= fun v32 => if v32 then (.ok (D.bl false)) else (((((.ok (D.int 2)) >>= fun v33 => ((((.ok x_0) >>= fun v34 => (prm .len [v34])) >>= fun v35 => ((.ok (D.int 5)) >>= fun v36 => (prm .min2 [v35, v36]))) >>= fun v37 => (prm .max2 [v33, v37]))) >>= fun v38 => (optM (rng1F [v38]))) >>= fun v39 => (mapL (fun v40 => (.ok v40) >>= fun v41 => (((.ok x_0) >>= fun v42 => ((.ok v41) >>= fun v43 => (m__law_begun v42 v43))) >>= fun v44 => (m__law_right v44 >>= fun y => .ok y.1))) v39 >>= fun l => .ok (D.lst l))) >>= fun v45 => (prm .all [v45]))))
end M

set_option Elab.async false
set_option linter.all false
set_option maxRecDepth 100000
set_option maxHeartbeats 8000000
namespace M
open PySem L2 PyProof.Rows SlX
/-! ### what they have to do with the trees -/
theorem r__law_cast {n : Nat} (hn : 1 ≤ n) (bo : Bool) (x_0 x_1 : D) : FLb (calls tab n) 1000 bo x_0 [x_1] (m__law_cast x_0 x_1) := by
  obtain ⟨n, rfl⟩ : ∃ k, n = k + 1 := ⟨n - 1, by omega⟩
  have hn : 0 ≤ n := Nat.le_of_succ_le_succ hn
  have h : SQ (calls tab n) t__law_cast [] [.ow bo x_0, .sh false x_1, .no, .no] (m__law_cast x_0 x_1) (PF 2 (fun y => y.1) (fun (y : D × D) q' => bo = true → q' = .ow true y.2 :: List.replicate 1 .no)) := by
    unfold m__law_cast
    refine sq_if (t_val (xv_a (v_p2 (xv_a (v_p2 (ea_own (x := x_0)) (xv_a (xb_v e_con)))) (xv_a (xb_v e_con))))) ?_ ?_
    · intro c14
      refine sq_tgt (Ft := fun a27 b28 => [.ow bo b28.1, .sh false x_1, .no, .sh false b28.2]) (v_p2 (xv_a (v_p2 (ea_own (x := x_0)) (xv_a (xb_v e_con)))) (xv_a (xb_v (e_var (x := x_1))))) (fun a27 => (xl_tp2 (m := fun a32 a33 => (((noExc (.ok (D.int 0))) >>= fun a35 => (putM x_0 a35 a32)) >>= fun u30 => (.ok a33) >>= fun w31 => .ok (u30, w31))) (F := (fun z29 => [.ow bo z29.1, .sh false x_1, .no, .sh false z29.2])) (fun _ _ => xls_cons (F3 := (fun z29 => [.ow bo z29.1, .sh false x_1, .no, .sh false z29.2])) (fun u30 w31 => (u30, w31)) (xl_sub (F := (fun z29 => [.ow bo z29, .sh false x_1, .no, .no])) rfl e_con) (fun u30 => xls_one (xl_nm (F := (fun w31 => [.ow bo u30, .sh false x_1, .no, .sh false w31]))))))) ?_
      intro a27 b28
      exact sq_retS (fun a36 => (a36, b28.1)) (xb_v (e_var (x := b28.2))) (fun _ => pf_ret (hB := (fun h => by subst h; rfl)))
    intro c14
    refine sq_nil ?_
    refine sq_tgt (Ft := fun a50 b51 => [.ow bo b51, .sh false x_1, .no, .no]) (v_p2 (xv_a (v_p2 (ea_own (x := x_0)) (xv_a (xb_v e_con)))) (xv_a (xb_v e_con))) (fun a50 => (xl_sub (F := (fun z52 => [.ow bo z52, .sh false x_1, .no, .no])) rfl e_con)) ?_
    intro a50 b51
    refine sq_set (F' := fun a117 => [.ow bo b51, .sh false x_1, .sh false a117, .no]) (v_p2 (xv_a (v_p1 (xv_a (v_p2 (xv_a (v_p2 (xv_a (v_p2 (xv_a (v_p2 (ea_own (x := b51)) (xv_a (xb_v e_con)))) (xv_a (v_p2 (xv_a (xb_v e_con)) (xv_a (v_p2 (xv_a (xb_v e_con)) (xv_a (v_p2 (ea_own (x := b51)) (xv_a (xb_v e_con)))))))))) (xv_a (v_p2 (xv_a (xb_v e_con)) (xv_a (v_p2 (ea_own (x := b51)) (xv_a (xb_v e_con)))))))) (xv_a (xb_v e_con)))))) (xv_a (xb_v e_con))) ?_
    intro a117
    refine sq_tgt (Ft := fun a157 b158 => [.ow bo b158, .sh false x_1, .sh false a117, .no]) (v_p2 (xv_a (v_p1 (xv_a (v_p2 (xv_a (v_p2 (xv_a (v_p2 (xv_a (xb_v (e_var (x := a117)))) (xv_a (xb_v e_con)))) (xv_a (v_p2 (xv_a (xb_v e_con)) (xv_a (v_p2 (ea_own (x := b51)) (xv_a (xb_v e_con)))))))) (xv_a (xb_v e_con)))))) (xv_a (xb_v e_con))) (fun a157 => (xl_sub (F := (fun z159 => [.ow bo z159, .sh false x_1, .sh false a117, .no])) rfl e_con)) ?_
    intro a157 b158
    exact sq_retS (fun a182 => (a182, b158)) (v_p2 (xv_a (v_p1 (xv_a (v_p2 (xv_a (v_p2 (ea_own (x := b158)) (xv_a (xb_v e_con)))) (xv_a (xb_v e_con)))))) (xv_a (xb_v (e_var (x := x_1))))) (fun _ => pf_ret (hB := (fun h => by subst h; rfl)))
  exact fv_of (d := d__law_cast) rfl rfl h.r
theorem r__law_any_of {n : Nat} (hn : 2 ≤ n) (bo : Bool) (x_0 x_1 : D) : FLb (calls tab n) 1001 bo x_0 [x_1] (m__law_any_of x_0 x_1) := by
  obtain ⟨n, rfl⟩ : ∃ k, n = k + 1 := ⟨n - 1, by omega⟩
  have hn : 1 ≤ n := Nat.le_of_succ_le_succ hn
  have h : SQ (calls tab n) t__law_any_of [] [.ow bo x_0, .sh false x_1] (m__law_any_of x_0 x_1) (PF 2 (fun y => y.1) (fun (y : D × D) q' => bo = true → q' = .ow true y.2 :: List.replicate 1 .no)) := by
    unfold m__law_any_of
    exact sq_retP (xv_prm (V3 := (fun (z : D × D) => z.1)) (F3 := (fun (z197 : D × D) => [.ow bo z197.2, .sh false x_1])) (fun (a195 : List D × D) (d196 : D) => (d196, a195.2)) (xs_cons (V3 := (fun (z : List D × D) => z.1)) (F3 := (fun (z194 : List D × D) => [.ow bo z194.2, .sh false x_1])) (fun (a184 : D) (t193 : List D × D) => ((a184 :: t193.1), t193.2)) (xb_v (e_var (x := x_1))) (fun a184 => (xs_cons (V3 := (fun (z : List D × D) => z.1)) (F3 := (fun (z192 : List D × D) => [.ow bo z192.2, .sh false x_1])) (fun (a185 : D × D) (t191 : List D) => ((a185.1 :: t191), a185.2)) (xb_v (cL1 (x := x_0) (F := (fun z190 => [.ow bo z190, .sh false x_1])) (v_p1 (xv_a (xb_v (e_var (x := x_1))))) (fun x0 => r__law_cast (lv rfl hn) true x_0 x0))) (fun a185 => xs_nil))))) (fun _ => pf_ret (hB := (fun h => by subst h; rfl)))
  exact fv_of (d := d__law_any_of) rfl rfl h.r
theorem r__law_thing {n : Nat} (hn : 3 ≤ n) (bo : Bool) (x_0 : D) : FLb (calls tab n) 1002 bo x_0 [] (m__law_thing x_0) := by
  obtain ⟨n, rfl⟩ : ∃ k, n = k + 1 := ⟨n - 1, by omega⟩
  have hn : 2 ≤ n := Nat.le_of_succ_le_succ hn
  have h : SQ (calls tab n) t__law_thing [] [.ow bo x_0, .no] (m__law_thing x_0) (PF 1 (fun y => y.1) (fun (y : D × D) q' => bo = true → q' = .ow true y.2 :: List.replicate 0 .no)) := by
    unfold m__law_thing
    refine sq_set (F' := fun a317 => [.ow bo x_0, .sh false a317]) (xn_v (e_lst (as_one (xb_v e_con) (as_one (xb_v e_con) (as_one (xb_v e_con) (as_one (xb_v e_con) (as_one (xb_v e_con) (as_one (v_p1 (xv_a (xb_v e_con))) (as_one (xb_v e_con) (as_one (v_p2 (xv_a (v_p2 (xv_a (xb_v e_con)) (xv_a (xb_v e_con)))) (xv_a (xb_v e_con))) (as_one (v_p1 (xv_a (v_p2 (xv_a (xb_v e_con)) (xv_a (xb_v e_con))))) (as_one (xb_v e_con) (as_one (xb_v e_con) (as_one (xb_v e_con) (as_one (xb_v (e_tup as_nil)) (as_one (xb_v (e_tup (as_one (xb_v e_con) as_nil))) (as_one (xb_v (e_tup (as_one (xb_v e_con) (as_one (xb_v e_con) as_nil)))) (as_one (xb_v (e_tup (as_one (xb_v (e_tup (as_one (xb_v e_con) as_nil))) as_nil))) (as_one (xb_v e_con) as_nil))))))))))))))))))) ?_
    intro a317
    refine sq_set (F' := fun a424 => [.ow bo x_0, .sh false a424]) (v_p2 (xv_a (xb_v (e_var (x := a317)))) (xv_a (xn_v (e_lst (as_one (xn_v (e_lst as_nil)) (as_one (xn_v (e_lst (as_one (xb_v e_con) as_nil))) (as_one (xb_v e_con) (as_one (xb_v e_con) (as_one (xb_v (e_tup (as_one (xb_v (e_tup (as_one (xb_v e_con) (as_one (xb_v e_con) as_nil)))) as_nil))) (as_one (xb_v (e_tup (as_one (xb_v (e_tup (as_one (xb_v e_con) (as_one (xb_v e_con) as_nil)))) (as_one (xb_v (e_tup (as_one (xb_v e_con) (as_one (xb_v e_con) as_nil)))) as_nil)))) (as_one (xb_v (e_tup (as_one (xb_v (e_tup (as_one (xb_v (e_tup (as_one (xb_v e_con) as_nil))) as_nil))) as_nil))) (as_one (xb_v (e_tup (as_one (xb_v e_con) as_nil))) (as_one (xb_v (e_tup (as_one (xb_v e_con) as_nil))) (as_one (xb_v e_con) as_nil)))))))))))))) ?_
    intro a424
    exact sq_retP (xb_v (cL1 (x := x_0) (F := (fun z426 => [.ow bo z426, .sh false a424])) (xb_v (e_var (x := a424))) (fun x0 => r__law_any_of (lv rfl hn) true x_0 x0))) (fun _ => pf_ret (hB := (fun h => by subst h; rfl)))
  exact fv_of (d := d__law_thing) rfl rfl h.r
theorem r__law_bases {n : Nat} (hn : 1 ≤ n) (x_0 : D) : FP (calls tab n) 1003 [x_0] (m__law_bases x_0) := by
  obtain ⟨n, rfl⟩ : ∃ k, n = k + 1 := ⟨n - 1, by omega⟩
  have hn : 0 ≤ n := Nat.le_of_succ_le_succ hn
  have h : SQ (calls tab n) t__law_bases [] [.sh false x_0, .no] (m__law_bases x_0) (PF 1 I1 (fun _ _ => True)) := by
    unfold m__law_bases
    refine sq_set (F' := fun a449 => [.sh false x_0, .sh false a449]) (xn_v (e_lst (as_one (v_p1 (xv_a (xb_v (e_var (x := x_0))))) (as_one (v_p1 (xv_a (xb_v (e_var (x := x_0))))) (as_one (v_p1 (xv_a (xb_v (e_var (x := x_0))))) as_nil))))) ?_
    intro a449
    exact sq_retP (v_p2 (xv_a (xb_v (e_var (x := a449)))) (xv_a (xn_v (e_lst (as_one (v_p1 (xv_a (xb_v (e_var (x := x_0))))) (as_one (v_p1 (xv_a (xb_v (e_var (x := x_0))))) (as_one (v_p1 (xv_a (xb_v (e_var (x := x_0))))) as_nil))))))) (fun _ => pf_ret (hB := trivial))
  exact fv_of (d := d__law_bases) rfl rfl h.r
theorem r__law_flags {n : Nat} (hn : 1 ≤ n) (x_0 : D) : FP (calls tab n) 1004 [x_0] (m__law_flags x_0) := by
  obtain ⟨n, rfl⟩ : ∃ k, n = k + 1 := ⟨n - 1, by omega⟩
  have hn : 0 ≤ n := Nat.le_of_succ_le_succ hn
  have h : SQ (calls tab n) t__law_flags [] [.sh false x_0, .no] (m__law_flags x_0) (PF 1 I1 (fun _ _ => True)) := by
    unfold m__law_flags
    refine sq_set (F' := fun a499 => [.sh false x_0, .sh false a499]) (xn_v (e_lst (as_one (v_p1 (xv_a (xb_v (e_var (x := x_0))))) (as_one (v_p1 (xv_a (xb_v (e_var (x := x_0))))) (as_one (v_p1 (xv_a (xb_v (e_var (x := x_0))))) as_nil))))) ?_
    intro a499
    refine sq_set (F' := fun a527 => [.sh false x_0, .sh false a527]) (v_p2 (xv_a (xb_v (e_var (x := a499)))) (xv_a (xn_v (e_lst (as_one (v_p1 (xv_a (xb_v (e_var (x := x_0))))) (as_one (v_p1 (xv_a (xb_v (e_var (x := x_0))))) (as_one (v_p1 (xv_a (xb_v (e_var (x := x_0))))) as_nil))))))) ?_
    intro a527
    refine sq_set (F' := fun a555 => [.sh false x_0, .sh false a555]) (v_p2 (xv_a (xb_v (e_var (x := a527)))) (xv_a (xn_v (e_lst (as_one (v_p1 (xv_a (xb_v (e_var (x := x_0))))) (as_one (v_p1 (xv_a (xb_v (e_var (x := x_0))))) (as_one (v_p1 (xv_a (xb_v (e_var (x := x_0))))) as_nil))))))) ?_
    intro a555
    refine sq_set (F' := fun a583 => [.sh false x_0, .sh false a583]) (v_p2 (xv_a (xb_v (e_var (x := a555)))) (xv_a (xn_v (e_lst (as_one (v_p1 (xv_a (xb_v (e_var (x := x_0))))) (as_one (v_p1 (xv_a (xb_v (e_var (x := x_0))))) (as_one (v_p1 (xv_a (xb_v (e_var (x := x_0))))) as_nil))))))) ?_
    intro a583
    refine sq_set (F' := fun a611 => [.sh false x_0, .sh false a611]) (v_p2 (xv_a (xb_v (e_var (x := a583)))) (xv_a (xn_v (e_lst (as_one (v_p1 (xv_a (xb_v (e_var (x := x_0))))) (as_one (v_p1 (xv_a (xb_v (e_var (x := x_0))))) (as_one (v_p1 (xv_a (xb_v (e_var (x := x_0))))) as_nil))))))) ?_
    intro a611
    refine sq_set (F' := fun a639 => [.sh false x_0, .sh false a639]) (v_p2 (xv_a (xb_v (e_var (x := a611)))) (xv_a (xn_v (e_lst (as_one (v_p1 (xv_a (xb_v (e_var (x := x_0))))) (as_one (v_p1 (xv_a (xb_v (e_var (x := x_0))))) (as_one (v_p1 (xv_a (xb_v (e_var (x := x_0))))) as_nil))))))) ?_
    intro a639
    exact sq_retP (v_p2 (xv_a (xb_v (e_var (x := a639)))) (xv_a (xn_v (e_lst (as_one (v_p1 (xv_a (xb_v (e_var (x := x_0))))) (as_one (v_p1 (xv_a (xb_v (e_var (x := x_0))))) as_nil)))))) (fun _ => pf_ret (hB := trivial))
  exact fv_of (d := d__law_flags) rfl rfl h.r
theorem r__law_held {n : Nat} (hn : 1 ≤ n) (x_0 x_1 : D) : FP (calls tab n) 1005 [x_0, x_1] (m__law_held x_0 x_1) := by
  obtain ⟨n, rfl⟩ : ∃ k, n = k + 1 := ⟨n - 1, by omega⟩
  have hn : 0 ≤ n := Nat.le_of_succ_le_succ hn
  have h : SQ (calls tab n) t__law_held [] [.sh false x_0, .sh false x_1] (m__law_held x_0 x_1) (PF 2 I1 (fun _ _ => True)) := by
    unfold m__law_held
    exact sq_retP (v_ife (t_val (xv_a (v_p2 (xv_a (xb_v (e_var (x := x_1)))) (xv_a (xn_v (e_lst (as_one (xb_v e_con) (as_one (xb_v e_con) (as_one (xb_v e_con) (as_one (xb_v e_con) (as_one (xb_v e_con) (as_one (xb_v e_con) (as_one (xb_v e_con) as_nil))))))))))))) (v_p1 (xv_a (xb_v (e_var (x := x_0))))) (v_p1 (xv_a (xb_v (e_var (x := x_0)))))) (fun _ => pf_ret (hB := trivial))
  exact fv_of (d := d__law_held) rfl rfl h.r
theorem r__law_some_right {n : Nat} (hn : 2 ≤ n) (x_0 x_1 : D) : FP (calls tab n) 1006 [x_0, x_1] (m__law_some_right x_0 x_1) := by
  obtain ⟨n, rfl⟩ : ∃ k, n = k + 1 := ⟨n - 1, by omega⟩
  have hn : 1 ≤ n := Nat.le_of_succ_le_succ hn
  have h : SQ (calls tab n) t__law_some_right [] [.sh false x_0, .sh false x_1, .no, .no, .no] (m__law_some_right x_0 x_1) (PF 2 I1 (fun _ _ => True)) := by
    unfold m__law_some_right
    refine sq_for (ρ := D) (R := (PF 2 I1 (fun _ _ => True))) (F := (fun (s709 : Unit) => [.sh false x_0, .sh false x_1, .no, .no, .no])) (Ft := (fun (s709 : Unit) b712 => [.sh false x_0, .sh false x_1, .sh false b712, .no, .no])) (fun a708 => ()) (fun x838 =>  x838) (i_rng1 (xb_v e_con)) (fun (s709 : Unit) d710 => (xl_nm (F := fun z711 => [.sh false x_0, .sh false x_1, .sh false z711, .no, .no]))) ?_ ?_ (fun _ _ h _ => h)
    · intro s709 b712
      refine sq_set (F' := fun a731 => [.sh false x_0, .sh false x_1, .sh false b712, .sh false a731, .no]) (v_ife (t_val (xv_a (v_p2 (xv_a (xb_v (e_var (x := b712)))) (xv_a (xb_v e_con))))) (xb_v e_con) (v_ife (t_val (xv_a (v_p2 (xv_a (xb_v (e_var (x := b712)))) (xv_a (xb_v e_con))))) (xb_v e_con) (xb_v e_con))) ?_
      intro a731
      refine sq_if (t_val (xv_a (v_p2 (xv_a (xb_v (c1_b (v_p2 (xv_a (xb_v (e_var (x := x_0)))) (xv_a (xb_v (e_var (x := b712))))) (fun x0 => r__law_flags (lv rfl hn) x0)))) (xv_a (xn_v (e_lcM (Q0 := [.sh false x_0, .sh false x_1, .sh false b712, .sh false a731, .no]) (i_rng1 (xb_v e_con)) (fun d741 => tn1_of (Fp := fun b743 => [.sh false x_0, .sh false x_1, .sh false b712, .sh false a731, .sh false b743]) (Fe := fun b743 _ => [.sh false x_0, .sh false x_1, .sh false b712, .sh false a731, .sh false b743]) (xl_nm (F := fun z742 => [.sh false x_0, .sh false x_1, .sh false b712, .sh false a731, .sh false z742])) (fun b743 => (v_p2 (xv_a (xb_v (e_var (x := b743)))) (xv_a (xb_v (e_var (x := b712))))))))))))) ?_ ?_
      · intro c758
        exact sq_retS (fun a759 => Fl.ret a759) (xb_v e_con) (fun _ => pbr (pf_ret (hB := trivial)))
      intro c758
      refine sq_nil ?_
      refine sq_if (t_val (xv_a (v_p2 (xv_a (xb_v (c1_b (v_p2 (xv_a (xb_v (e_var (x := x_0)))) (xv_a (xb_v (e_var (x := b712))))) (fun x0 => r__law_bases (lv rfl hn) x0)))) (xv_a (v_p2 (xv_a (xn_v (e_lcM (Q0 := [.sh false x_0, .sh false x_1, .sh false b712, .sh false a731, .no]) (i_rng1 (xb_v e_con)) (fun d769 => tn1_of (Fp := fun b771 => [.sh false x_0, .sh false x_1, .sh false b712, .sh false a731, .sh false b771]) (Fe := fun b771 _ => [.sh false x_0, .sh false x_1, .sh false b712, .sh false a731, .sh false b771]) (xl_nm (F := fun z770 => [.sh false x_0, .sh false x_1, .sh false b712, .sh false a731, .sh false z770])) (fun b771 => (v_p2 (xv_a (xb_v (e_var (x := b771)))) (xv_a (xb_v (e_var (x := a731)))))))))) (xv_a (xb_v e_con))))))) ?_ ?_
      · intro c792
        exact sq_retS (fun a793 => Fl.ret a793) (xb_v e_con) (fun _ => pbr (pf_ret (hB := trivial)))
      intro c792
      refine sq_nil ?_
      refine sq_if (t_all (t_val (xv_a (v_p2 (xv_a (xb_v (e_var (x := b712)))) (xv_a (xb_v e_con))))) (t_val (xv_a (v_p2 (xv_a (v_p1 (xv_a (xb_v (c2_b (v_p2 (xv_a (xb_v (e_var (x := x_0)))) (xv_a (xb_v (e_var (x := b712))))) (xb_v (e_var (x := b712))) (fun x0 x1 => r__law_held (lv rfl hn) x0 x1)))))) (xv_a (v_p1 (xv_a (xb_v (e_var (x := x_1)))))))))) ?_ ?_
      · intro c825
        exact sq_retS (fun a826 => Fl.ret a826) (xb_v e_con) (fun _ => pbr (pf_ret (hB := trivial)))
      intro c825
      refine sq_nil ?_
      refine sq_kil (q1 := [.sh false x_0, .sh false x_1, .no, .no, .no]) ?_ rfl
      exact sq_end (.inl rfl)
    intro _
    exact sq_retP (v_p2 (xv_a (v_p1 (xv_a (xb_v (e_var (x := x_0)))))) (xv_a (xb_v e_con))) (fun _ => pf_ret (hB := trivial))
  exact fv_of (d := d__law_some_right) rfl rfl h.r
theorem r__law_placed {n : Nat} (hn : 1 ≤ n) (x_0 : D) : FP (calls tab n) 1007 [x_0] (m__law_placed x_0) := by
  obtain ⟨n, rfl⟩ : ∃ k, n = k + 1 := ⟨n - 1, by omega⟩
  have hn : 0 ≤ n := Nat.le_of_succ_le_succ hn
  have h : SQ (calls tab n) t__law_placed [] [.sh false x_0, .no] (m__law_placed x_0) (PF 1 I1 (fun _ _ => True)) := by
    unfold m__law_placed
    refine sq_set (F' := fun a864 => [.sh false x_0, .sh false a864]) (xn_v (e_lst (as_one (xb_v (e_mkX (xb_v (e_var (x := x_0))))) (as_one (xb_v (e_mkX (xb_v (e_var (x := x_0))))) (as_one (xb_v (e_mkX (xb_v (e_var (x := x_0))))) (as_one (xb_v (e_mkX (xb_v (e_var (x := x_0))))) (as_one (xb_v (e_mkX (xb_v (e_var (x := x_0))))) as_nil))))))) ?_
    intro a864
    refine sq_set (F' := fun a896 => [.sh false x_0, .sh false a896]) (v_p2 (xv_a (xb_v (e_var (x := a864)))) (xv_a (xn_v (e_lst (as_one (xb_v (e_mkX (xb_v (e_var (x := x_0))))) (as_one (xb_v (e_mkX (xb_v (e_var (x := x_0))))) (as_one (xb_v (e_mkX (xb_v (e_var (x := x_0))))) (as_one (xb_v (e_mkX (xb_v (e_var (x := x_0))))) (as_one (xb_v (e_mkX (xb_v (e_var (x := x_0))))) as_nil))))))))) ?_
    intro a896
    refine sq_set (F' := fun a923 => [.sh false x_0, .sh false a923]) (v_p2 (xv_a (xb_v (e_var (x := a896)))) (xv_a (xn_v (e_lst (as_one (xb_v (e_mkX (xb_v (e_var (x := x_0))))) (as_one (xb_v (e_mkX (xb_v (e_var (x := x_0))))) (as_one (xb_v (e_mkX (xb_v (e_var (x := x_0))))) (as_one (xb_v (e_mkX (xb_v (e_var (x := x_0))))) as_nil)))))))) ?_
    intro a923
    refine sq_set (F' := fun a950 => [.sh false x_0, .sh false a950]) (v_p2 (xv_a (xb_v (e_var (x := a923)))) (xv_a (xn_v (e_lst (as_one (xb_v (e_mkX (xb_v (e_var (x := x_0))))) (as_one (xb_v (e_mkX (xb_v (e_var (x := x_0))))) (as_one (xb_v (e_mkX (xb_v (e_var (x := x_0))))) (as_one (xb_v (e_mkX (xb_v (e_var (x := x_0))))) as_nil)))))))) ?_
    intro a950
    exact sq_retP (v_p2 (xv_a (xb_v (e_var (x := a950)))) (xv_a (xn_v (e_lst (as_one (xb_v e_mkX0) (as_one (xb_v (e_mkX (xb_v (e_var (x := x_0))))) as_nil)))))) (fun _ => pf_ret (hB := trivial))
  exact fv_of (d := d__law_placed) rfl rfl h.r
theorem r__law_named {n : Nat} (hn : 1 ≤ n) (x_0 : D) : FP (calls tab n) 1008 [x_0] (m__law_named x_0) := by
  obtain ⟨n, rfl⟩ : ∃ k, n = k + 1 := ⟨n - 1, by omega⟩
  have hn : 0 ≤ n := Nat.le_of_succ_le_succ hn
  have h : SQ (calls tab n) t__law_named [] [.sh false x_0, .no] (m__law_named x_0) (PF 1 I1 (fun _ _ => True)) := by
    unfold m__law_named
    refine sq_set (F' := fun a987 => [.sh false x_0, .sh false a987]) (xn_v (e_lst (as_one (xb_v (e_mkX (xb_v (e_var (x := x_0))))) (as_one (xb_v (e_mkX (xb_v (e_var (x := x_0))))) (as_one (xb_v (e_mkX (xb_v (e_var (x := x_0))))) (as_one (xb_v (e_mkX (xb_v (e_var (x := x_0))))) as_nil)))))) ?_
    intro a987
    refine sq_set (F' := fun a1009 => [.sh false x_0, .sh false a1009]) (v_p2 (xv_a (xb_v (e_var (x := a987)))) (xv_a (xn_v (e_lst (as_one (xb_v (e_mkX (xb_v (e_var (x := x_0))))) (as_one (xb_v (e_mkX (xb_v (e_var (x := x_0))))) (as_one (xb_v (e_mkX (xb_v (e_var (x := x_0))))) as_nil))))))) ?_
    intro a1009
    refine sq_set (F' := fun a1031 => [.sh false x_0, .sh false a1031]) (v_p2 (xv_a (xb_v (e_var (x := a1009)))) (xv_a (xn_v (e_lst (as_one (xb_v (e_mkX (xb_v (e_var (x := x_0))))) (as_one (xb_v (e_mkX (xb_v (e_var (x := x_0))))) (as_one (xb_v (e_mkX (xb_v (e_var (x := x_0))))) as_nil))))))) ?_
    intro a1031
    refine sq_set (F' := fun a1053 => [.sh false x_0, .sh false a1053]) (v_p2 (xv_a (xb_v (e_var (x := a1031)))) (xv_a (xn_v (e_lst (as_one (xb_v (e_mkX (xb_v (e_var (x := x_0))))) (as_one (xb_v (e_mkX (xb_v (e_var (x := x_0))))) (as_one (xb_v (e_mkX (xb_v (e_var (x := x_0))))) as_nil))))))) ?_
    intro a1053
    refine sq_set (F' := fun a1080 => [.sh false x_0, .sh false a1080]) (v_p2 (xv_a (xb_v (e_var (x := a1053)))) (xv_a (xn_v (e_lst (as_one (xb_v (e_mkX (xb_v (e_var (x := x_0))))) (as_one (xb_v (e_mkX (xb_v (e_var (x := x_0))))) (as_one (xb_v (e_mkX (xb_v (e_var (x := x_0))))) (as_one (xb_v (e_mkX (xb_v (e_var (x := x_0))))) as_nil)))))))) ?_
    intro a1080
    exact sq_retP (v_p2 (xv_a (xb_v (e_var (x := a1080)))) (xv_a (xn_v (e_lst (as_one (xb_v (e_mkX (xb_v (e_var (x := x_0))))) (as_one (xb_v e_mkX0) (as_one (xb_v (e_mkX (xb_v (e_var (x := x_0))))) as_nil))))))) (fun _ => pf_ret (hB := trivial))
  exact fv_of (d := d__law_named) rfl rfl h.r
theorem r__law_right {n : Nat} (hn : 4 ≤ n) (bo : Bool) (x_0 : D) : FLb (calls tab n) 1009 bo x_0 [] (m__law_right x_0) := by
  obtain ⟨n, rfl⟩ : ∃ k, n = k + 1 := ⟨n - 1, by omega⟩
  have hn : 3 ≤ n := Nat.le_of_succ_le_succ hn
  have h : SQ (calls tab n) t__law_right [] [.ow bo x_0, .no, .no, .no, .no] (m__law_right x_0) (PF 1 (fun y => y.1) (fun (y : D × D) q' => bo = true → q' = .ow true y.2 :: List.replicate 0 .no)) := by
    unfold m__law_right
    refine sq_for (ρ := D × D) (R := (PF 1 (fun y => y.1) (fun (y : D × D) q' => bo = true → q' = .ow true y.2 :: List.replicate 0 .no))) (F := (fun s1105 => [.ow bo s1105, .no, .no, .no, .no])) (Ft := (fun s1105 b1108 => [.ow bo s1105, .sh false b1108, .no, .no, .no])) (fun a1104 => x_0) (fun x1208 =>  x1208) (i_rng1 (xb_v e_con)) (fun s1105 d1106 => (xl_nm (F := fun z1107 => [.ow bo s1105, .sh false z1107, .no, .no, .no]))) ?_ ?_ (fun _ _ h _ => h)
    · intro s1105 b1108
      refine sq_set (F' := fun a1110 => [.ow bo a1110.2, .sh false b1108, .no, .sh false a1110.1, .no]) (xb_v (cL0 (x := s1105) (F := (fun z1109 => [.ow bo z1109, .sh false b1108, .no, .no, .no]))  (r__law_thing (lv rfl hn) true s1105))) ?_
      intro a1110
      refine sq_if (t_any (t_not (t_val (xv_a (xb_v (c2_b (xb_v (c1_b (xb_v (e_var (x := a1110.1))) (fun x0 => r__law_placed (lv rfl hn) x0))) (xb_v (e_var (x := a1110.1))) (fun x0 x1 => r__law_some_right (lv rfl hn) x0 x1)))))) (t_not (t_val (xv_a (xb_v (c2_b (xb_v (c1_b (xb_v (e_var (x := a1110.1))) (fun x0 => r__law_named (lv rfl hn) x0))) (xb_v (e_var (x := a1110.1))) (fun x0 x1 => r__law_some_right (lv rfl hn) x0 x1))))))) ?_ ?_
      · intro c1124
        exact sq_retS (fun a1125 => Fl.ret (a1125, a1110.2)) (xb_v e_con) (fun _ => pbr (pf_ret (hB := (fun h => by subst h; rfl))))
      intro c1124
      refine sq_nil ?_
      refine sq_kil (q1 := [.ow bo a1110.2, .no, .no, .no, .no]) ?_ rfl
      exact sq_end (.inl rfl)
    intro s1126
    refine sq_set (F' := fun a1151 => [.ow bo s1126, .no, .sh false a1151, .no, .no]) (xn_v (e_lcM (Q0 := [.ow bo s1126, .no, .no, .no, .no]) (i_seq (xn_v (e_lst (as_one (xb_v e_mkX0) (as_one (xb_v e_mkX0) (as_one (xb_v e_mkX0) as_nil)))))) (fun d1140 => tn1_of (Fp := fun b1142 => [.ow bo s1126, .no, .no, .no, .sh false b1142]) (Fe := fun b1142 _ => [.ow bo s1126, .no, .no, .no, .sh false b1142]) (xl_nm (F := fun z1141 => [.ow bo s1126, .no, .no, .no, .sh false z1141])) (fun b1142 => (v_p2 (xv_a (xb_v (c1_b (xb_v (e_var (x := b1142))) (fun x0 => r__law_bases (lv rfl hn) x0)))) (xv_a (xb_v e_con))))))) ?_
    intro a1151
    exact sq_retS (fun a1206 => (a1206, s1126)) (v_p2 (xv_a (xb_v (e_var (x := a1151)))) (xv_a (xn_v (e_lst (as_one (xn_v (e_lst (as_one (xb_v e_con) (as_one (xb_v e_con) (as_one (xb_v e_con) as_nil))))) (as_one (xn_v (e_lst (as_one (xb_v e_con) (as_one (xb_v e_con) (as_one (xb_v e_con) as_nil))))) (as_one (xn_v (e_lst (as_one (xb_v e_con) (as_one (xb_v e_con) (as_one (xb_v e_con) as_nil))))) as_nil))))))) (fun _ => pf_ret (hB := (fun h => by subst h; rfl)))
  exact fv_of (d := d__law_right) rfl rfl h.r
theorem r__law_begun {n : Nat} (hn : 1 ≤ n) (x_0 x_1 : D) : FPN (calls tab n) 1010 [x_0, x_1] (m__law_begun x_0 x_1) := by
  obtain ⟨n, rfl⟩ : ∃ k, n = k + 1 := ⟨n - 1, by omega⟩
  have hn : 0 ≤ n := Nat.le_of_succ_le_succ hn
  have h : SQ (calls tab n) t__law_begun [] [.sh false x_0, .sh false x_1, .no, .no, .no] (m__law_begun x_0 x_1) (PFN 2 I1 (fun _ _ => True)) := by
    unfold m__law_begun
    refine sq_set (F' := fun a1227 => [.sh false x_0, .sh false x_1, .sh false a1227, .no, .no]) (v_ife (t_val (xv_a (v_p2 (xv_a (xb_v (e_var (x := x_1)))) (xv_a (v_p1 (xv_a (xb_v (e_var (x := x_0))))))))) (v_p2 (xv_a (xb_v (e_var (x := x_0)))) (xv_a (xb_v (e_var (x := x_1))))) (xb_v e_con)) ?_
    intro a1227
    refine sq_set (F' := fun a1240 => [.sh false x_0, .sh false x_1, .sh false a1227, .sh false a1240, .no]) (v_p2 (xv_a (xb_v e_con)) (xv_a (v_p2 (xv_a (xb_v e_con)) (xv_a (xb_v (e_var (x := x_1))))))) ?_
    intro a1240
    refine sq_forN (F := (fun s1249 => [.sh false x_0, .sh false x_1, .sh false a1227, .sh false s1249, .no])) (Ft := (fun s1249 b1252 => [.sh false x_0, .sh false x_1, .sh false a1227, .sh false s1249, .sh false b1252])) (fun a1248 => a1240) (i_seq (v_p2 (xv_a (xb_v (e_var (x := x_0)))) (xv_a (xb_v e_con)))) (fun s1249 d1250 => (xl_nm (F := fun z1251 => [.sh false x_0, .sh false x_1, .sh false a1227, .sh false s1249, .sh false z1251]))) ?_ ?_
    · intro s1249 b1252
      refine sq_set (F' := fun a1286 => [.sh false x_0, .sh false x_1, .sh false a1227, .sh false a1286, .sh false b1252]) (v_p2 (xv_a (v_p1 (xv_a (v_p2 (xv_a (v_p2 (xv_a (v_p2 (xv_a (xb_v (e_var (x := s1249)))) (xv_a (xb_v e_con)))) (xv_a (v_p2 (xv_a (xb_v (e_var (x := b1252)))) (xv_a (xb_v e_con)))))) (xv_a (xb_v e_con)))))) (xv_a (xb_v e_con))) ?_
      intro a1286
      refine sq_kil (q1 := [.sh false x_0, .sh false x_1, .sh false a1227, .sh false a1286, .no]) ?_ rfl
      exact sq_end (.inl rfl)
    intro s1287
    exact sq_retWP (e_lst (as_one (v_ife (t_any (t_val (xv_a (v_p2 (xv_a (xb_v (e_var (x := a1227)))) (xv_a (xb_v e_con))))) (t_val (xv_a (v_p2 (xv_a (xb_v (e_var (x := a1227)))) (xv_a (v_p2 (xv_a (xb_v e_con)) (xv_a (xb_v e_con)))))))) (v_p1 (xv_a (xb_v (e_var (x := a1227))))) (xb_v e_con)) (as_one (v_p2 (xv_a (v_p1 (xv_a (v_p2 (xv_a (v_p2 (xv_a (v_p2 (xv_a (xb_v (e_var (x := s1287)))) (xv_a (xb_v e_con)))) (xv_a (v_p2 (xv_a (xb_v (e_var (x := a1227)))) (xv_a (xb_v (e_var (x := a1227)))))))) (xv_a (v_p2 (xv_a (xb_v e_con)) (xv_a (xb_v (e_var (x := x_1)))))))))) (xv_a (xb_v e_con))) (as_one (xb_v e_con) as_nil)))) (fun _ => pfn_ret (hB := trivial))
  exact fn_of (d := d__law_begun) rfl rfl h.r
theorem r_law {n : Nat} (hn : 5 ≤ n) (x_0 : D) : FP (calls tab n) 1011 [x_0] (m_law x_0) := by
  obtain ⟨n, rfl⟩ : ∃ k, n = k + 1 := ⟨n - 1, by omega⟩
  have hn : 4 ≤ n := Nat.le_of_succ_le_succ hn
  have h : SQ (calls tab n) t_law [] [.sh false x_0, .no, .no] (m_law x_0) (PF 1 I1 (fun _ _ => True)) := by
    unfold m_law
    refine sq_set (F' := fun a1392 => [.sh false x_0, .sh false a1392, .no]) (xn_v (e_lst (as_one (xb_v e_glo) (as_one (xb_v e_glo) (as_one (xb_v e_glo) (as_one (xb_v e_glo) (as_one (xb_v e_glo) (as_one (xb_v e_glo) as_nil)))))))) ?_
    intro a1392
    refine sq_if (t_val (xv_a (v_p2 (xv_a (v_p1 (xv_a (xb_v (e_var (x := a1392)))))) (xv_a (v_p1 (xv_a (xn_v (e_lst (as_one (xb_v e_con) (as_one (xb_v e_con) (as_one (v_p2 (xv_a (xb_v e_con)) (xv_a (xb_v e_con))) (as_one (xb_v e_con) (as_one (xb_v e_con) (as_one (xb_v e_con) as_nil)))))))))))))) ?_ ?_
    · intro c1436
      exact sq_retP (xb_v e_con) (fun _ => pf_ret (hB := trivial))
    intro c1436
    refine sq_nil ?_
    exact sq_retP (v_p1 (xv_a (xn_v (e_lcM (Q0 := [.sh false x_0, .sh false a1392, .no]) (i_rng1 (v_p2 (xv_a (xb_v e_con)) (xv_a (v_p2 (xv_a (v_p1 (xv_a (xb_v (e_var (x := x_0)))))) (xv_a (xb_v e_con)))))) (fun d1455 => tn1_of (Fp := fun b1457 => [.sh false x_0, .sh false a1392, .sh false b1457]) (Fe := fun b1457 _ => [.sh false x_0, .sh false a1392, .sh false b1457]) (xl_nm (F := fun z1456 => [.sh false x_0, .sh false a1392, .sh false z1456])) (fun b1457 => (xb_v (c_O (c2_n (xb_v (e_var (x := x_0))) (xb_v (e_var (x := b1457))) (fun x0 x1 => r__law_begun (lv rfl hn) x0 x1)) (fun x => r__law_right (lv rfl hn) false x))))))))) (fun _ => pf_ret (hB := trivial))
  exact fv_of (d := d_law) rfl rfl h.r
end M

set_option Elab.async false
set_option linter.all false
set_option maxRecDepth 100000
set_option maxHeartbeats 8000000
namespace M
open PySem L2 PyProof.Rows SlX
/-- the plain law -/
def Plain : Prop := ∀ ns : List Int, ns.length ≤ 63 → (∀ z ∈ ns, Builtin.Int.intBits z ≤ 1048576) → m_law (scr ns) = .ok (.bl true)
theorem all_mk (plain : Plain) {w : World} {K : PySem.W.Frag} {h : Heap} {mg : Str → Option Value} {fa a__law_cast0 a__law_any_of0 a__law_thing0 a__law_bases0 a__law_flags0 a__law_held0 a__law_some_right0 a__law_placed0 a__law_named0 a__law_right0 a__law_begun0 a_law0 C_InvalidText ix_InvalidText C_InvalidName ix_InvalidName C_InvalidIndex ix_InvalidIndex C_InvalidSize ix_InvalidSize C_InvalidTable ix_InvalidTable C_InvalidView ix_InvalidView C_InvalidWish ix_InvalidWish C_NotLot ix_NotLot C_InvalidTables ix_InvalidTables C_InvalidWord ix_InvalidWord C_InvalidColumns ix_InvalidColumns C_InvalidChanges ix_InvalidChanges C_InvalidWishes ix_InvalidWishes C_UnknownName ix_UnknownName C_InUse ix_InUse C_NotTriangular ix_NotTriangular C_OtherSize ix_OtherSize C_TooMany ix_TooMany C_Broken ix_Broken C_NothingToUndo C_WrongValue C_WrongName C_NotPossible : Addr} (X : K.In h) (G : h.Ns mainGlobals mg) (hfa : mg "law" = some (.ref fa))
    {oc_InvalidText kV_InvalidText dc_InvalidText pm_InvalidText cd_InvalidText ct_InvalidText : Value} {od_InvalidText an_InvalidText : Option Addr} {sl_InvalidText : Array (Option Value)}
    {oc_InvalidName kV_InvalidName dc_InvalidName pm_InvalidName cd_InvalidName ct_InvalidName : Value} {od_InvalidName an_InvalidName : Option Addr} {sl_InvalidName : Array (Option Value)}
    {oc_InvalidIndex kV_InvalidIndex dc_InvalidIndex pm_InvalidIndex cd_InvalidIndex ct_InvalidIndex : Value} {od_InvalidIndex an_InvalidIndex : Option Addr} {sl_InvalidIndex : Array (Option Value)}
    {oc_InvalidSize kV_InvalidSize dc_InvalidSize pm_InvalidSize cd_InvalidSize ct_InvalidSize : Value} {od_InvalidSize an_InvalidSize : Option Addr} {sl_InvalidSize : Array (Option Value)}
    {oc_InvalidTable kV_InvalidTable dc_InvalidTable pm_InvalidTable cd_InvalidTable ct_InvalidTable : Value} {od_InvalidTable an_InvalidTable : Option Addr} {sl_InvalidTable : Array (Option Value)}
    {oc_InvalidView kV_InvalidView dc_InvalidView pm_InvalidView cd_InvalidView ct_InvalidView : Value} {od_InvalidView an_InvalidView : Option Addr} {sl_InvalidView : Array (Option Value)}
    {oc_InvalidWish kV_InvalidWish dc_InvalidWish pm_InvalidWish cd_InvalidWish ct_InvalidWish : Value} {od_InvalidWish an_InvalidWish : Option Addr} {sl_InvalidWish : Array (Option Value)}
    {oc_NotLot kV_NotLot dc_NotLot pm_NotLot cd_NotLot ct_NotLot : Value} {od_NotLot an_NotLot : Option Addr} {sl_NotLot : Array (Option Value)}
    {oc_InvalidTables kV_InvalidTables dc_InvalidTables pm_InvalidTables cd_InvalidTables ct_InvalidTables : Value} {od_InvalidTables an_InvalidTables : Option Addr} {sl_InvalidTables : Array (Option Value)}
    {oc_InvalidWord kV_InvalidWord dc_InvalidWord pm_InvalidWord cd_InvalidWord ct_InvalidWord : Value} {od_InvalidWord an_InvalidWord : Option Addr} {sl_InvalidWord : Array (Option Value)}
    {oc_InvalidColumns kV_InvalidColumns dc_InvalidColumns pm_InvalidColumns cd_InvalidColumns ct_InvalidColumns : Value} {od_InvalidColumns an_InvalidColumns : Option Addr} {sl_InvalidColumns : Array (Option Value)}
    {oc_InvalidChanges kV_InvalidChanges dc_InvalidChanges pm_InvalidChanges cd_InvalidChanges ct_InvalidChanges : Value} {od_InvalidChanges an_InvalidChanges : Option Addr} {sl_InvalidChanges : Array (Option Value)}
    {oc_InvalidWishes kV_InvalidWishes dc_InvalidWishes pm_InvalidWishes cd_InvalidWishes ct_InvalidWishes : Value} {od_InvalidWishes an_InvalidWishes : Option Addr} {sl_InvalidWishes : Array (Option Value)}
    {oc_UnknownName kV_UnknownName dc_UnknownName pm_UnknownName cd_UnknownName ct_UnknownName : Value} {od_UnknownName an_UnknownName : Option Addr} {sl_UnknownName : Array (Option Value)}
    {oc_InUse kV_InUse dc_InUse pm_InUse cd_InUse ct_InUse : Value} {od_InUse an_InUse : Option Addr} {sl_InUse : Array (Option Value)}
    {oc_NotTriangular kV_NotTriangular dc_NotTriangular pm_NotTriangular cd_NotTriangular ct_NotTriangular : Value} {od_NotTriangular an_NotTriangular : Option Addr} {sl_NotTriangular : Array (Option Value)}
    {oc_OtherSize kV_OtherSize dc_OtherSize pm_OtherSize cd_OtherSize ct_OtherSize : Value} {od_OtherSize an_OtherSize : Option Addr} {sl_OtherSize : Array (Option Value)}
    {oc_TooMany kV_TooMany dc_TooMany pm_TooMany cd_TooMany ct_TooMany : Value} {od_TooMany an_TooMany : Option Addr} {sl_TooMany : Array (Option Value)}
    {oc_Broken kV_Broken dc_Broken pm_Broken cd_Broken ct_Broken : Value} {od_Broken an_Broken : Option Addr} {sl_Broken : Array (Option Value)}
    {oc__law_cast kV__law_cast dc__law_cast pm__law_cast cd__law_cast ct__law_cast : Value} {od__law_cast an__law_cast : Option Addr} {sl__law_cast : Array (Option Value)}
    {oc__law_any_of kV__law_any_of dc__law_any_of pm__law_any_of cd__law_any_of ct__law_any_of : Value} {od__law_any_of an__law_any_of : Option Addr} {sl__law_any_of : Array (Option Value)}
    {oc__law_thing kV__law_thing dc__law_thing pm__law_thing cd__law_thing ct__law_thing : Value} {od__law_thing an__law_thing : Option Addr} {sl__law_thing : Array (Option Value)}
    {oc__law_bases kV__law_bases dc__law_bases pm__law_bases cd__law_bases ct__law_bases : Value} {od__law_bases an__law_bases : Option Addr} {sl__law_bases : Array (Option Value)}
    {oc__law_flags kV__law_flags dc__law_flags pm__law_flags cd__law_flags ct__law_flags : Value} {od__law_flags an__law_flags : Option Addr} {sl__law_flags : Array (Option Value)}
    {oc__law_held kV__law_held dc__law_held pm__law_held cd__law_held ct__law_held : Value} {od__law_held an__law_held : Option Addr} {sl__law_held : Array (Option Value)}
    {oc__law_some_right kV__law_some_right dc__law_some_right pm__law_some_right cd__law_some_right ct__law_some_right : Value} {od__law_some_right an__law_some_right : Option Addr} {sl__law_some_right : Array (Option Value)}
    {oc__law_placed kV__law_placed dc__law_placed pm__law_placed cd__law_placed ct__law_placed : Value} {od__law_placed an__law_placed : Option Addr} {sl__law_placed : Array (Option Value)}
    {oc__law_named kV__law_named dc__law_named pm__law_named cd__law_named ct__law_named : Value} {od__law_named an__law_named : Option Addr} {sl__law_named : Array (Option Value)}
    {oc__law_right kV__law_right dc__law_right pm__law_right cd__law_right ct__law_right : Value} {od__law_right an__law_right : Option Addr} {sl__law_right : Array (Option Value)}
    {oc__law_begun kV__law_begun dc__law_begun pm__law_begun cd__law_begun ct__law_begun : Value} {od__law_begun an__law_begun : Option Addr} {sl__law_begun : Array (Option Value)}
    {oc_law kV_law dc_law pm_law cd_law ct_law : Value} {od_law an_law : Option Addr} {sl_law : Array (Option Value)}
    {t_MOST_CHANGES t_MOST_COLUMNS t_MOST_LETTERS t_MOST_NUMBER t_MOST_SIZE t_MOST_TABLES : Tok}
    (a__law_cast : PySem.W.nsIn K mainGlobals "_law_cast" = some (some (.ref a__law_cast0)))
    (l__law_cast : K.lookup a__law_cast0 = some ⟨oc__law_cast, od__law_cast, .func (PySem.W.fnOf "_law_cast" "_law_cast" (defArgs s__law_cast) (defBody s__law_cast) (defScope s__law_cast) .none kV__law_cast dc__law_cast pm__law_cast an__law_cast cd__law_cast ct__law_cast), sl__law_cast⟩)
    (c__law_cast : PySem.W.codeIn K cd__law_cast "_law_cast" = true)
    (k__law_cast : PySem.W.keepIn K (.ref a__law_cast0) = true)
    (a__law_any_of : PySem.W.nsIn K mainGlobals "_law_any_of" = some (some (.ref a__law_any_of0)))
    (l__law_any_of : K.lookup a__law_any_of0 = some ⟨oc__law_any_of, od__law_any_of, .func (PySem.W.fnOf "_law_any_of" "_law_any_of" (defArgs s__law_any_of) (defBody s__law_any_of) (defScope s__law_any_of) .none kV__law_any_of dc__law_any_of pm__law_any_of an__law_any_of cd__law_any_of ct__law_any_of), sl__law_any_of⟩)
    (c__law_any_of : PySem.W.codeIn K cd__law_any_of "_law_any_of" = true)
    (k__law_any_of : PySem.W.keepIn K (.ref a__law_any_of0) = true)
    (a__law_thing : PySem.W.nsIn K mainGlobals "_law_thing" = some (some (.ref a__law_thing0)))
    (l__law_thing : K.lookup a__law_thing0 = some ⟨oc__law_thing, od__law_thing, .func (PySem.W.fnOf "_law_thing" "_law_thing" (defArgs s__law_thing) (defBody s__law_thing) (defScope s__law_thing) .none kV__law_thing dc__law_thing pm__law_thing an__law_thing cd__law_thing ct__law_thing), sl__law_thing⟩)
    (c__law_thing : PySem.W.codeIn K cd__law_thing "_law_thing" = true)
    (k__law_thing : PySem.W.keepIn K (.ref a__law_thing0) = true)
    (a__law_bases : PySem.W.nsIn K mainGlobals "_law_bases" = some (some (.ref a__law_bases0)))
    (l__law_bases : K.lookup a__law_bases0 = some ⟨oc__law_bases, od__law_bases, .func (PySem.W.fnOf "_law_bases" "_law_bases" (defArgs s__law_bases) (defBody s__law_bases) (defScope s__law_bases) .none kV__law_bases dc__law_bases pm__law_bases an__law_bases cd__law_bases ct__law_bases), sl__law_bases⟩)
    (c__law_bases : PySem.W.codeIn K cd__law_bases "_law_bases" = true)
    (k__law_bases : PySem.W.keepIn K (.ref a__law_bases0) = true)
    (a__law_flags : PySem.W.nsIn K mainGlobals "_law_flags" = some (some (.ref a__law_flags0)))
    (l__law_flags : K.lookup a__law_flags0 = some ⟨oc__law_flags, od__law_flags, .func (PySem.W.fnOf "_law_flags" "_law_flags" (defArgs s__law_flags) (defBody s__law_flags) (defScope s__law_flags) .none kV__law_flags dc__law_flags pm__law_flags an__law_flags cd__law_flags ct__law_flags), sl__law_flags⟩)
    (c__law_flags : PySem.W.codeIn K cd__law_flags "_law_flags" = true)
    (k__law_flags : PySem.W.keepIn K (.ref a__law_flags0) = true)
    (a__law_held : PySem.W.nsIn K mainGlobals "_law_held" = some (some (.ref a__law_held0)))
    (l__law_held : K.lookup a__law_held0 = some ⟨oc__law_held, od__law_held, .func (PySem.W.fnOf "_law_held" "_law_held" (defArgs s__law_held) (defBody s__law_held) (defScope s__law_held) .none kV__law_held dc__law_held pm__law_held an__law_held cd__law_held ct__law_held), sl__law_held⟩)
    (c__law_held : PySem.W.codeIn K cd__law_held "_law_held" = true)
    (k__law_held : PySem.W.keepIn K (.ref a__law_held0) = true)
    (a__law_some_right : PySem.W.nsIn K mainGlobals "_law_some_right" = some (some (.ref a__law_some_right0)))
    (l__law_some_right : K.lookup a__law_some_right0 = some ⟨oc__law_some_right, od__law_some_right, .func (PySem.W.fnOf "_law_some_right" "_law_some_right" (defArgs s__law_some_right) (defBody s__law_some_right) (defScope s__law_some_right) .none kV__law_some_right dc__law_some_right pm__law_some_right an__law_some_right cd__law_some_right ct__law_some_right), sl__law_some_right⟩)
    (c__law_some_right : PySem.W.codeIn K cd__law_some_right "_law_some_right" = true)
    (k__law_some_right : PySem.W.keepIn K (.ref a__law_some_right0) = true)
    (a__law_placed : PySem.W.nsIn K mainGlobals "_law_placed" = some (some (.ref a__law_placed0)))
    (l__law_placed : K.lookup a__law_placed0 = some ⟨oc__law_placed, od__law_placed, .func (PySem.W.fnOf "_law_placed" "_law_placed" (defArgs s__law_placed) (defBody s__law_placed) (defScope s__law_placed) .none kV__law_placed dc__law_placed pm__law_placed an__law_placed cd__law_placed ct__law_placed), sl__law_placed⟩)
    (c__law_placed : PySem.W.codeIn K cd__law_placed "_law_placed" = true)
    (k__law_placed : PySem.W.keepIn K (.ref a__law_placed0) = true)
    (a__law_named : PySem.W.nsIn K mainGlobals "_law_named" = some (some (.ref a__law_named0)))
    (l__law_named : K.lookup a__law_named0 = some ⟨oc__law_named, od__law_named, .func (PySem.W.fnOf "_law_named" "_law_named" (defArgs s__law_named) (defBody s__law_named) (defScope s__law_named) .none kV__law_named dc__law_named pm__law_named an__law_named cd__law_named ct__law_named), sl__law_named⟩)
    (c__law_named : PySem.W.codeIn K cd__law_named "_law_named" = true)
    (k__law_named : PySem.W.keepIn K (.ref a__law_named0) = true)
    (a__law_right : PySem.W.nsIn K mainGlobals "_law_right" = some (some (.ref a__law_right0)))
    (l__law_right : K.lookup a__law_right0 = some ⟨oc__law_right, od__law_right, .func (PySem.W.fnOf "_law_right" "_law_right" (defArgs s__law_right) (defBody s__law_right) (defScope s__law_right) .none kV__law_right dc__law_right pm__law_right an__law_right cd__law_right ct__law_right), sl__law_right⟩)
    (c__law_right : PySem.W.codeIn K cd__law_right "_law_right" = true)
    (k__law_right : PySem.W.keepIn K (.ref a__law_right0) = true)
    (a__law_begun : PySem.W.nsIn K mainGlobals "_law_begun" = some (some (.ref a__law_begun0)))
    (l__law_begun : K.lookup a__law_begun0 = some ⟨oc__law_begun, od__law_begun, .func (PySem.W.fnOf "_law_begun" "_law_begun" (defArgs s__law_begun) (defBody s__law_begun) (defScope s__law_begun) .none kV__law_begun dc__law_begun pm__law_begun an__law_begun cd__law_begun ct__law_begun), sl__law_begun⟩)
    (c__law_begun : PySem.W.codeIn K cd__law_begun "_law_begun" = true)
    (k__law_begun : PySem.W.keepIn K (.ref a__law_begun0) = true)
    (a_law : PySem.W.nsIn K mainGlobals "law" = some (some (.ref a_law0)))
    (l_law : K.lookup a_law0 = some ⟨oc_law, od_law, .func (PySem.W.fnOf "law" "law" (defArgs s_law) (defBody s_law) (defScope s_law) .none kV_law dc_law pm_law an_law cd_law ct_law), sl_law⟩)
    (c_law : PySem.W.codeIn K cd_law "law" = true)
    (k_law : PySem.W.keepIn K (.ref a_law0) = true)
    (aC_InvalidText : PySem.W.nsIn K mainGlobals "InvalidText" = some (some (.ref C_InvalidText)))
    (aC_InvalidName : PySem.W.nsIn K mainGlobals "InvalidName" = some (some (.ref C_InvalidName)))
    (aC_InvalidIndex : PySem.W.nsIn K mainGlobals "InvalidIndex" = some (some (.ref C_InvalidIndex)))
    (aC_InvalidSize : PySem.W.nsIn K mainGlobals "InvalidSize" = some (some (.ref C_InvalidSize)))
    (aC_InvalidTable : PySem.W.nsIn K mainGlobals "InvalidTable" = some (some (.ref C_InvalidTable)))
    (aC_InvalidView : PySem.W.nsIn K mainGlobals "InvalidView" = some (some (.ref C_InvalidView)))
    (aC_InvalidWish : PySem.W.nsIn K mainGlobals "InvalidWish" = some (some (.ref C_InvalidWish)))
    (aC_NotLot : PySem.W.nsIn K mainGlobals "NotLot" = some (some (.ref C_NotLot)))
    (aC_InvalidTables : PySem.W.nsIn K mainGlobals "InvalidTables" = some (some (.ref C_InvalidTables)))
    (aC_InvalidWord : PySem.W.nsIn K mainGlobals "InvalidWord" = some (some (.ref C_InvalidWord)))
    (aC_InvalidColumns : PySem.W.nsIn K mainGlobals "InvalidColumns" = some (some (.ref C_InvalidColumns)))
    (aC_InvalidChanges : PySem.W.nsIn K mainGlobals "InvalidChanges" = some (some (.ref C_InvalidChanges)))
    (aC_InvalidWishes : PySem.W.nsIn K mainGlobals "InvalidWishes" = some (some (.ref C_InvalidWishes)))
    (aC_UnknownName : PySem.W.nsIn K mainGlobals "UnknownName" = some (some (.ref C_UnknownName)))
    (aC_InUse : PySem.W.nsIn K mainGlobals "InUse" = some (some (.ref C_InUse)))
    (aC_NotTriangular : PySem.W.nsIn K mainGlobals "NotTriangular" = some (some (.ref C_NotTriangular)))
    (aC_OtherSize : PySem.W.nsIn K mainGlobals "OtherSize" = some (some (.ref C_OtherSize)))
    (aC_TooMany : PySem.W.nsIn K mainGlobals "TooMany" = some (some (.ref C_TooMany)))
    (aC_NothingToUndo : PySem.W.nsIn K mainGlobals "NothingToUndo" = some (some (.ref C_NothingToUndo)))
    (aC_Broken : PySem.W.nsIn K mainGlobals "Broken" = some (some (.ref C_Broken)))
    (aC_WrongValue : PySem.W.nsIn K mainGlobals "WrongValue" = some (some (.ref C_WrongValue)))
    (aC_WrongName : PySem.W.nsIn K mainGlobals "WrongName" = some (some (.ref C_WrongName)))
    (aC_NotPossible : PySem.W.nsIn K mainGlobals "NotPossible" = some (some (.ref C_NotPossible)))
    (ox_InvalidText : ∃ nm q N bs bm sn sub ab col dd k0 k1 k2 k3 k5, K.lookup C_InvalidText = some (excClassObj nm q C_InvalidText N bs bm true sn sub ab col dd k0 k1 k2 k3 k5 "ValueError.__new__") ∧ M.refsT (M.Fam.tail .ve) bm = true)
    (sa_InvalidText : PySem.W.findIn K (.ref C_InvalidText) "__setattr__" = some (some (.builtin "object.__setattr__")))
    (xb_InvalidText : PySem.W.subIn K (.ref C_InvalidText) (.type "BaseException") = some true)
    (ty_InvalidText : PySem.W.typeIn K (.ref C_InvalidText) = some (.type "type"))
    (kC_InvalidText : PySem.W.keepIn K (.ref C_InvalidText) = true)
    (no_InvalidText : PySem.W.findIn K (.ref C_InvalidText) "given" = some none)
    (in_InvalidText : PySem.W.findIn K (.ref C_InvalidText) "__init__" = some (some (.ref ix_InvalidText)))
    (it_InvalidText : PySem.W.typeIn K (.ref ix_InvalidText) = some (.type "function"))
    (lx_InvalidText : K.lookup ix_InvalidText = some ⟨oc_InvalidText, od_InvalidText, .func (PySem.W.fnOf "__init__" "InvalidText.__init__" (defArgs sx_InvalidText) (defBody sx_InvalidText) (defScope sx_InvalidText) .none kV_InvalidText dc_InvalidText pm_InvalidText an_InvalidText cd_InvalidText ct_InvalidText), sl_InvalidText⟩)
    (cx_InvalidText : PySem.W.codeIn K cd_InvalidText "InvalidText.__init__" = true)
    (ki_InvalidText : PySem.W.keepIn K (.ref ix_InvalidText) = true)
    (xg_InvalidText : PySem.W.findIn K (.ref C_InvalidText) "__getattribute__" = some (some (.builtin "BaseException.__getattribute__")))
    (xh_InvalidText : PySem.W.findIn K (.ref C_InvalidText) "__getattr__" = some none)
    (xd_InvalidText : PySem.W.hasDictIn K C_InvalidText = true)
    (xa_InvalidText : PySem.W.findIn K (.ref C_InvalidText) "__class__" = some (some (.builtin "object.__class__")))
    (xm_InvalidText : PySem.W.mroIn K C_InvalidText (.type "object") = some true)
    (kx_InvalidText_ArithmeticError : PySem.W.kitOne K (.ref C_InvalidText) (.type "ArithmeticError") = some false)
    (kx_InvalidText_Broken : PySem.W.kitOne K (.ref C_InvalidText) (.ref C_Broken) = some false)
    (kx_InvalidText_InUse : PySem.W.kitOne K (.ref C_InvalidText) (.ref C_InUse) = some false)
    (kx_InvalidText_InvalidChanges : PySem.W.kitOne K (.ref C_InvalidText) (.ref C_InvalidChanges) = some false)
    (kx_InvalidText_InvalidColumns : PySem.W.kitOne K (.ref C_InvalidText) (.ref C_InvalidColumns) = some false)
    (kx_InvalidText_InvalidIndex : PySem.W.kitOne K (.ref C_InvalidText) (.ref C_InvalidIndex) = some false)
    (kx_InvalidText_InvalidName : PySem.W.kitOne K (.ref C_InvalidText) (.ref C_InvalidName) = some false)
    (kx_InvalidText_InvalidSize : PySem.W.kitOne K (.ref C_InvalidText) (.ref C_InvalidSize) = some false)
    (kx_InvalidText_InvalidTable : PySem.W.kitOne K (.ref C_InvalidText) (.ref C_InvalidTable) = some false)
    (kx_InvalidText_InvalidTables : PySem.W.kitOne K (.ref C_InvalidText) (.ref C_InvalidTables) = some false)
    (kx_InvalidText_InvalidText : PySem.W.kitOne K (.ref C_InvalidText) (.ref C_InvalidText) = some true)
    (kx_InvalidText_InvalidView : PySem.W.kitOne K (.ref C_InvalidText) (.ref C_InvalidView) = some false)
    (kx_InvalidText_InvalidWish : PySem.W.kitOne K (.ref C_InvalidText) (.ref C_InvalidWish) = some false)
    (kx_InvalidText_InvalidWishes : PySem.W.kitOne K (.ref C_InvalidText) (.ref C_InvalidWishes) = some false)
    (kx_InvalidText_InvalidWord : PySem.W.kitOne K (.ref C_InvalidText) (.ref C_InvalidWord) = some false)
    (kx_InvalidText_LookupError : PySem.W.kitOne K (.ref C_InvalidText) (.type "LookupError") = some false)
    (kx_InvalidText_NotLot : PySem.W.kitOne K (.ref C_InvalidText) (.ref C_NotLot) = some false)
    (kx_InvalidText_NotPossible : PySem.W.kitOne K (.ref C_InvalidText) (.ref C_NotPossible) = some false)
    (kx_InvalidText_NotTriangular : PySem.W.kitOne K (.ref C_InvalidText) (.ref C_NotTriangular) = some false)
    (kx_InvalidText_NothingToUndo : PySem.W.kitOne K (.ref C_InvalidText) (.ref C_NothingToUndo) = some false)
    (kx_InvalidText_OtherSize : PySem.W.kitOne K (.ref C_InvalidText) (.ref C_OtherSize) = some false)
    (kx_InvalidText_TooMany : PySem.W.kitOne K (.ref C_InvalidText) (.ref C_TooMany) = some false)
    (kx_InvalidText_UnknownName : PySem.W.kitOne K (.ref C_InvalidText) (.ref C_UnknownName) = some false)
    (kx_InvalidText_ValueError : PySem.W.kitOne K (.ref C_InvalidText) (.type "ValueError") = some true)
    (kx_InvalidText_WrongName : PySem.W.kitOne K (.ref C_InvalidText) (.ref C_WrongName) = some false)
    (kx_InvalidText_WrongValue : PySem.W.kitOne K (.ref C_InvalidText) (.ref C_WrongValue) = some true)
    (ox_InvalidName : ∃ nm q N bs bm sn sub ab col dd k0 k1 k2 k3 k5, K.lookup C_InvalidName = some (excClassObj nm q C_InvalidName N bs bm true sn sub ab col dd k0 k1 k2 k3 k5 "ValueError.__new__") ∧ M.refsT (M.Fam.tail .ve) bm = true)
    (sa_InvalidName : PySem.W.findIn K (.ref C_InvalidName) "__setattr__" = some (some (.builtin "object.__setattr__")))
    (xb_InvalidName : PySem.W.subIn K (.ref C_InvalidName) (.type "BaseException") = some true)
    (ty_InvalidName : PySem.W.typeIn K (.ref C_InvalidName) = some (.type "type"))
    (kC_InvalidName : PySem.W.keepIn K (.ref C_InvalidName) = true)
    (no_InvalidName : PySem.W.findIn K (.ref C_InvalidName) "given" = some none)
    (in_InvalidName : PySem.W.findIn K (.ref C_InvalidName) "__init__" = some (some (.ref ix_InvalidName)))
    (it_InvalidName : PySem.W.typeIn K (.ref ix_InvalidName) = some (.type "function"))
    (lx_InvalidName : K.lookup ix_InvalidName = some ⟨oc_InvalidName, od_InvalidName, .func (PySem.W.fnOf "__init__" "InvalidName.__init__" (defArgs sx_InvalidName) (defBody sx_InvalidName) (defScope sx_InvalidName) .none kV_InvalidName dc_InvalidName pm_InvalidName an_InvalidName cd_InvalidName ct_InvalidName), sl_InvalidName⟩)
    (cx_InvalidName : PySem.W.codeIn K cd_InvalidName "InvalidName.__init__" = true)
    (ki_InvalidName : PySem.W.keepIn K (.ref ix_InvalidName) = true)
    (xg_InvalidName : PySem.W.findIn K (.ref C_InvalidName) "__getattribute__" = some (some (.builtin "BaseException.__getattribute__")))
    (xh_InvalidName : PySem.W.findIn K (.ref C_InvalidName) "__getattr__" = some none)
    (xd_InvalidName : PySem.W.hasDictIn K C_InvalidName = true)
    (xa_InvalidName : PySem.W.findIn K (.ref C_InvalidName) "__class__" = some (some (.builtin "object.__class__")))
    (xm_InvalidName : PySem.W.mroIn K C_InvalidName (.type "object") = some true)
    (kx_InvalidName_ArithmeticError : PySem.W.kitOne K (.ref C_InvalidName) (.type "ArithmeticError") = some false)
    (kx_InvalidName_Broken : PySem.W.kitOne K (.ref C_InvalidName) (.ref C_Broken) = some false)
    (kx_InvalidName_InUse : PySem.W.kitOne K (.ref C_InvalidName) (.ref C_InUse) = some false)
    (kx_InvalidName_InvalidChanges : PySem.W.kitOne K (.ref C_InvalidName) (.ref C_InvalidChanges) = some false)
    (kx_InvalidName_InvalidColumns : PySem.W.kitOne K (.ref C_InvalidName) (.ref C_InvalidColumns) = some false)
    (kx_InvalidName_InvalidIndex : PySem.W.kitOne K (.ref C_InvalidName) (.ref C_InvalidIndex) = some false)
    (kx_InvalidName_InvalidName : PySem.W.kitOne K (.ref C_InvalidName) (.ref C_InvalidName) = some true)
    (kx_InvalidName_InvalidSize : PySem.W.kitOne K (.ref C_InvalidName) (.ref C_InvalidSize) = some false)
    (kx_InvalidName_InvalidTable : PySem.W.kitOne K (.ref C_InvalidName) (.ref C_InvalidTable) = some false)
    (kx_InvalidName_InvalidTables : PySem.W.kitOne K (.ref C_InvalidName) (.ref C_InvalidTables) = some false)
    (kx_InvalidName_InvalidText : PySem.W.kitOne K (.ref C_InvalidName) (.ref C_InvalidText) = some false)
    (kx_InvalidName_InvalidView : PySem.W.kitOne K (.ref C_InvalidName) (.ref C_InvalidView) = some false)
    (kx_InvalidName_InvalidWish : PySem.W.kitOne K (.ref C_InvalidName) (.ref C_InvalidWish) = some false)
    (kx_InvalidName_InvalidWishes : PySem.W.kitOne K (.ref C_InvalidName) (.ref C_InvalidWishes) = some false)
    (kx_InvalidName_InvalidWord : PySem.W.kitOne K (.ref C_InvalidName) (.ref C_InvalidWord) = some false)
    (kx_InvalidName_LookupError : PySem.W.kitOne K (.ref C_InvalidName) (.type "LookupError") = some false)
    (kx_InvalidName_NotLot : PySem.W.kitOne K (.ref C_InvalidName) (.ref C_NotLot) = some false)
    (kx_InvalidName_NotPossible : PySem.W.kitOne K (.ref C_InvalidName) (.ref C_NotPossible) = some false)
    (kx_InvalidName_NotTriangular : PySem.W.kitOne K (.ref C_InvalidName) (.ref C_NotTriangular) = some false)
    (kx_InvalidName_NothingToUndo : PySem.W.kitOne K (.ref C_InvalidName) (.ref C_NothingToUndo) = some false)
    (kx_InvalidName_OtherSize : PySem.W.kitOne K (.ref C_InvalidName) (.ref C_OtherSize) = some false)
    (kx_InvalidName_TooMany : PySem.W.kitOne K (.ref C_InvalidName) (.ref C_TooMany) = some false)
    (kx_InvalidName_UnknownName : PySem.W.kitOne K (.ref C_InvalidName) (.ref C_UnknownName) = some false)
    (kx_InvalidName_ValueError : PySem.W.kitOne K (.ref C_InvalidName) (.type "ValueError") = some true)
    (kx_InvalidName_WrongName : PySem.W.kitOne K (.ref C_InvalidName) (.ref C_WrongName) = some false)
    (kx_InvalidName_WrongValue : PySem.W.kitOne K (.ref C_InvalidName) (.ref C_WrongValue) = some true)
    (ox_InvalidIndex : ∃ nm q N bs bm sn sub ab col dd k0 k1 k2 k3 k5, K.lookup C_InvalidIndex = some (excClassObj nm q C_InvalidIndex N bs bm true sn sub ab col dd k0 k1 k2 k3 k5 "ValueError.__new__") ∧ M.refsT (M.Fam.tail .ve) bm = true)
    (sa_InvalidIndex : PySem.W.findIn K (.ref C_InvalidIndex) "__setattr__" = some (some (.builtin "object.__setattr__")))
    (xb_InvalidIndex : PySem.W.subIn K (.ref C_InvalidIndex) (.type "BaseException") = some true)
    (ty_InvalidIndex : PySem.W.typeIn K (.ref C_InvalidIndex) = some (.type "type"))
    (kC_InvalidIndex : PySem.W.keepIn K (.ref C_InvalidIndex) = true)
    (no_InvalidIndex : PySem.W.findIn K (.ref C_InvalidIndex) "given" = some none)
    (in_InvalidIndex : PySem.W.findIn K (.ref C_InvalidIndex) "__init__" = some (some (.ref ix_InvalidIndex)))
    (it_InvalidIndex : PySem.W.typeIn K (.ref ix_InvalidIndex) = some (.type "function"))
    (lx_InvalidIndex : K.lookup ix_InvalidIndex = some ⟨oc_InvalidIndex, od_InvalidIndex, .func (PySem.W.fnOf "__init__" "InvalidIndex.__init__" (defArgs sx_InvalidIndex) (defBody sx_InvalidIndex) (defScope sx_InvalidIndex) .none kV_InvalidIndex dc_InvalidIndex pm_InvalidIndex an_InvalidIndex cd_InvalidIndex ct_InvalidIndex), sl_InvalidIndex⟩)
    (cx_InvalidIndex : PySem.W.codeIn K cd_InvalidIndex "InvalidIndex.__init__" = true)
    (ki_InvalidIndex : PySem.W.keepIn K (.ref ix_InvalidIndex) = true)
    (xg_InvalidIndex : PySem.W.findIn K (.ref C_InvalidIndex) "__getattribute__" = some (some (.builtin "BaseException.__getattribute__")))
    (xh_InvalidIndex : PySem.W.findIn K (.ref C_InvalidIndex) "__getattr__" = some none)
    (xd_InvalidIndex : PySem.W.hasDictIn K C_InvalidIndex = true)
    (xa_InvalidIndex : PySem.W.findIn K (.ref C_InvalidIndex) "__class__" = some (some (.builtin "object.__class__")))
    (xm_InvalidIndex : PySem.W.mroIn K C_InvalidIndex (.type "object") = some true)
    (kx_InvalidIndex_ArithmeticError : PySem.W.kitOne K (.ref C_InvalidIndex) (.type "ArithmeticError") = some false)
    (kx_InvalidIndex_Broken : PySem.W.kitOne K (.ref C_InvalidIndex) (.ref C_Broken) = some false)
    (kx_InvalidIndex_InUse : PySem.W.kitOne K (.ref C_InvalidIndex) (.ref C_InUse) = some false)
    (kx_InvalidIndex_InvalidChanges : PySem.W.kitOne K (.ref C_InvalidIndex) (.ref C_InvalidChanges) = some false)
    (kx_InvalidIndex_InvalidColumns : PySem.W.kitOne K (.ref C_InvalidIndex) (.ref C_InvalidColumns) = some false)
    (kx_InvalidIndex_InvalidIndex : PySem.W.kitOne K (.ref C_InvalidIndex) (.ref C_InvalidIndex) = some true)
    (kx_InvalidIndex_InvalidName : PySem.W.kitOne K (.ref C_InvalidIndex) (.ref C_InvalidName) = some false)
    (kx_InvalidIndex_InvalidSize : PySem.W.kitOne K (.ref C_InvalidIndex) (.ref C_InvalidSize) = some false)
    (kx_InvalidIndex_InvalidTable : PySem.W.kitOne K (.ref C_InvalidIndex) (.ref C_InvalidTable) = some false)
    (kx_InvalidIndex_InvalidTables : PySem.W.kitOne K (.ref C_InvalidIndex) (.ref C_InvalidTables) = some false)
    (kx_InvalidIndex_InvalidText : PySem.W.kitOne K (.ref C_InvalidIndex) (.ref C_InvalidText) = some false)
    (kx_InvalidIndex_InvalidView : PySem.W.kitOne K (.ref C_InvalidIndex) (.ref C_InvalidView) = some false)
    (kx_InvalidIndex_InvalidWish : PySem.W.kitOne K (.ref C_InvalidIndex) (.ref C_InvalidWish) = some false)
    (kx_InvalidIndex_InvalidWishes : PySem.W.kitOne K (.ref C_InvalidIndex) (.ref C_InvalidWishes) = some false)
    (kx_InvalidIndex_InvalidWord : PySem.W.kitOne K (.ref C_InvalidIndex) (.ref C_InvalidWord) = some false)
    (kx_InvalidIndex_LookupError : PySem.W.kitOne K (.ref C_InvalidIndex) (.type "LookupError") = some false)
    (kx_InvalidIndex_NotLot : PySem.W.kitOne K (.ref C_InvalidIndex) (.ref C_NotLot) = some false)
    (kx_InvalidIndex_NotPossible : PySem.W.kitOne K (.ref C_InvalidIndex) (.ref C_NotPossible) = some false)
    (kx_InvalidIndex_NotTriangular : PySem.W.kitOne K (.ref C_InvalidIndex) (.ref C_NotTriangular) = some false)
    (kx_InvalidIndex_NothingToUndo : PySem.W.kitOne K (.ref C_InvalidIndex) (.ref C_NothingToUndo) = some false)
    (kx_InvalidIndex_OtherSize : PySem.W.kitOne K (.ref C_InvalidIndex) (.ref C_OtherSize) = some false)
    (kx_InvalidIndex_TooMany : PySem.W.kitOne K (.ref C_InvalidIndex) (.ref C_TooMany) = some false)
    (kx_InvalidIndex_UnknownName : PySem.W.kitOne K (.ref C_InvalidIndex) (.ref C_UnknownName) = some false)
    (kx_InvalidIndex_ValueError : PySem.W.kitOne K (.ref C_InvalidIndex) (.type "ValueError") = some true)
    (kx_InvalidIndex_WrongName : PySem.W.kitOne K (.ref C_InvalidIndex) (.ref C_WrongName) = some false)
    (kx_InvalidIndex_WrongValue : PySem.W.kitOne K (.ref C_InvalidIndex) (.ref C_WrongValue) = some true)
    (ox_InvalidSize : ∃ nm q N bs bm sn sub ab col dd k0 k1 k2 k3 k5, K.lookup C_InvalidSize = some (excClassObj nm q C_InvalidSize N bs bm true sn sub ab col dd k0 k1 k2 k3 k5 "ValueError.__new__") ∧ M.refsT (M.Fam.tail .ve) bm = true)
    (sa_InvalidSize : PySem.W.findIn K (.ref C_InvalidSize) "__setattr__" = some (some (.builtin "object.__setattr__")))
    (xb_InvalidSize : PySem.W.subIn K (.ref C_InvalidSize) (.type "BaseException") = some true)
    (ty_InvalidSize : PySem.W.typeIn K (.ref C_InvalidSize) = some (.type "type"))
    (kC_InvalidSize : PySem.W.keepIn K (.ref C_InvalidSize) = true)
    (no_InvalidSize : PySem.W.findIn K (.ref C_InvalidSize) "given" = some none)
    (in_InvalidSize : PySem.W.findIn K (.ref C_InvalidSize) "__init__" = some (some (.ref ix_InvalidSize)))
    (it_InvalidSize : PySem.W.typeIn K (.ref ix_InvalidSize) = some (.type "function"))
    (lx_InvalidSize : K.lookup ix_InvalidSize = some ⟨oc_InvalidSize, od_InvalidSize, .func (PySem.W.fnOf "__init__" "InvalidSize.__init__" (defArgs sx_InvalidSize) (defBody sx_InvalidSize) (defScope sx_InvalidSize) .none kV_InvalidSize dc_InvalidSize pm_InvalidSize an_InvalidSize cd_InvalidSize ct_InvalidSize), sl_InvalidSize⟩)
    (cx_InvalidSize : PySem.W.codeIn K cd_InvalidSize "InvalidSize.__init__" = true)
    (ki_InvalidSize : PySem.W.keepIn K (.ref ix_InvalidSize) = true)
    (xg_InvalidSize : PySem.W.findIn K (.ref C_InvalidSize) "__getattribute__" = some (some (.builtin "BaseException.__getattribute__")))
    (xh_InvalidSize : PySem.W.findIn K (.ref C_InvalidSize) "__getattr__" = some none)
    (xd_InvalidSize : PySem.W.hasDictIn K C_InvalidSize = true)
    (xa_InvalidSize : PySem.W.findIn K (.ref C_InvalidSize) "__class__" = some (some (.builtin "object.__class__")))
    (xm_InvalidSize : PySem.W.mroIn K C_InvalidSize (.type "object") = some true)
    (kx_InvalidSize_ArithmeticError : PySem.W.kitOne K (.ref C_InvalidSize) (.type "ArithmeticError") = some false)
    (kx_InvalidSize_Broken : PySem.W.kitOne K (.ref C_InvalidSize) (.ref C_Broken) = some false)
    (kx_InvalidSize_InUse : PySem.W.kitOne K (.ref C_InvalidSize) (.ref C_InUse) = some false)
    (kx_InvalidSize_InvalidChanges : PySem.W.kitOne K (.ref C_InvalidSize) (.ref C_InvalidChanges) = some false)
    (kx_InvalidSize_InvalidColumns : PySem.W.kitOne K (.ref C_InvalidSize) (.ref C_InvalidColumns) = some false)
    (kx_InvalidSize_InvalidIndex : PySem.W.kitOne K (.ref C_InvalidSize) (.ref C_InvalidIndex) = some false)
    (kx_InvalidSize_InvalidName : PySem.W.kitOne K (.ref C_InvalidSize) (.ref C_InvalidName) = some false)
    (kx_InvalidSize_InvalidSize : PySem.W.kitOne K (.ref C_InvalidSize) (.ref C_InvalidSize) = some true)
    (kx_InvalidSize_InvalidTable : PySem.W.kitOne K (.ref C_InvalidSize) (.ref C_InvalidTable) = some false)
    (kx_InvalidSize_InvalidTables : PySem.W.kitOne K (.ref C_InvalidSize) (.ref C_InvalidTables) = some false)
    (kx_InvalidSize_InvalidText : PySem.W.kitOne K (.ref C_InvalidSize) (.ref C_InvalidText) = some false)
    (kx_InvalidSize_InvalidView : PySem.W.kitOne K (.ref C_InvalidSize) (.ref C_InvalidView) = some false)
    (kx_InvalidSize_InvalidWish : PySem.W.kitOne K (.ref C_InvalidSize) (.ref C_InvalidWish) = some false)
    (kx_InvalidSize_InvalidWishes : PySem.W.kitOne K (.ref C_InvalidSize) (.ref C_InvalidWishes) = some false)
    (kx_InvalidSize_InvalidWord : PySem.W.kitOne K (.ref C_InvalidSize) (.ref C_InvalidWord) = some false)
    (kx_InvalidSize_LookupError : PySem.W.kitOne K (.ref C_InvalidSize) (.type "LookupError") = some false)
    (kx_InvalidSize_NotLot : PySem.W.kitOne K (.ref C_InvalidSize) (.ref C_NotLot) = some false)
    (kx_InvalidSize_NotPossible : PySem.W.kitOne K (.ref C_InvalidSize) (.ref C_NotPossible) = some false)
    (kx_InvalidSize_NotTriangular : PySem.W.kitOne K (.ref C_InvalidSize) (.ref C_NotTriangular) = some false)
    (kx_InvalidSize_NothingToUndo : PySem.W.kitOne K (.ref C_InvalidSize) (.ref C_NothingToUndo) = some false)
    (kx_InvalidSize_OtherSize : PySem.W.kitOne K (.ref C_InvalidSize) (.ref C_OtherSize) = some false)
    (kx_InvalidSize_TooMany : PySem.W.kitOne K (.ref C_InvalidSize) (.ref C_TooMany) = some false)
    (kx_InvalidSize_UnknownName : PySem.W.kitOne K (.ref C_InvalidSize) (.ref C_UnknownName) = some false)
    (kx_InvalidSize_ValueError : PySem.W.kitOne K (.ref C_InvalidSize) (.type "ValueError") = some true)
    (kx_InvalidSize_WrongName : PySem.W.kitOne K (.ref C_InvalidSize) (.ref C_WrongName) = some false)
    (kx_InvalidSize_WrongValue : PySem.W.kitOne K (.ref C_InvalidSize) (.ref C_WrongValue) = some true)
    (ox_InvalidTable : ∃ nm q N bs bm sn sub ab col dd k0 k1 k2 k3 k5, K.lookup C_InvalidTable = some (excClassObj nm q C_InvalidTable N bs bm true sn sub ab col dd k0 k1 k2 k3 k5 "ValueError.__new__") ∧ M.refsT (M.Fam.tail .ve) bm = true)
    (sa_InvalidTable : PySem.W.findIn K (.ref C_InvalidTable) "__setattr__" = some (some (.builtin "object.__setattr__")))
    (xb_InvalidTable : PySem.W.subIn K (.ref C_InvalidTable) (.type "BaseException") = some true)
    (ty_InvalidTable : PySem.W.typeIn K (.ref C_InvalidTable) = some (.type "type"))
    (kC_InvalidTable : PySem.W.keepIn K (.ref C_InvalidTable) = true)
    (no_InvalidTable : PySem.W.findIn K (.ref C_InvalidTable) "given" = some none)
    (in_InvalidTable : PySem.W.findIn K (.ref C_InvalidTable) "__init__" = some (some (.ref ix_InvalidTable)))
    (it_InvalidTable : PySem.W.typeIn K (.ref ix_InvalidTable) = some (.type "function"))
    (lx_InvalidTable : K.lookup ix_InvalidTable = some ⟨oc_InvalidTable, od_InvalidTable, .func (PySem.W.fnOf "__init__" "InvalidTable.__init__" (defArgs sx_InvalidTable) (defBody sx_InvalidTable) (defScope sx_InvalidTable) .none kV_InvalidTable dc_InvalidTable pm_InvalidTable an_InvalidTable cd_InvalidTable ct_InvalidTable), sl_InvalidTable⟩)
    (cx_InvalidTable : PySem.W.codeIn K cd_InvalidTable "InvalidTable.__init__" = true)
    (ki_InvalidTable : PySem.W.keepIn K (.ref ix_InvalidTable) = true)
    (xg_InvalidTable : PySem.W.findIn K (.ref C_InvalidTable) "__getattribute__" = some (some (.builtin "BaseException.__getattribute__")))
    (xh_InvalidTable : PySem.W.findIn K (.ref C_InvalidTable) "__getattr__" = some none)
    (xd_InvalidTable : PySem.W.hasDictIn K C_InvalidTable = true)
    (xa_InvalidTable : PySem.W.findIn K (.ref C_InvalidTable) "__class__" = some (some (.builtin "object.__class__")))
    (xm_InvalidTable : PySem.W.mroIn K C_InvalidTable (.type "object") = some true)
    (kx_InvalidTable_ArithmeticError : PySem.W.kitOne K (.ref C_InvalidTable) (.type "ArithmeticError") = some false)
    (kx_InvalidTable_Broken : PySem.W.kitOne K (.ref C_InvalidTable) (.ref C_Broken) = some false)
    (kx_InvalidTable_InUse : PySem.W.kitOne K (.ref C_InvalidTable) (.ref C_InUse) = some false)
    (kx_InvalidTable_InvalidChanges : PySem.W.kitOne K (.ref C_InvalidTable) (.ref C_InvalidChanges) = some false)
    (kx_InvalidTable_InvalidColumns : PySem.W.kitOne K (.ref C_InvalidTable) (.ref C_InvalidColumns) = some false)
    (kx_InvalidTable_InvalidIndex : PySem.W.kitOne K (.ref C_InvalidTable) (.ref C_InvalidIndex) = some false)
    (kx_InvalidTable_InvalidName : PySem.W.kitOne K (.ref C_InvalidTable) (.ref C_InvalidName) = some false)
    (kx_InvalidTable_InvalidSize : PySem.W.kitOne K (.ref C_InvalidTable) (.ref C_InvalidSize) = some false)
    (kx_InvalidTable_InvalidTable : PySem.W.kitOne K (.ref C_InvalidTable) (.ref C_InvalidTable) = some true)
    (kx_InvalidTable_InvalidTables : PySem.W.kitOne K (.ref C_InvalidTable) (.ref C_InvalidTables) = some false)
    (kx_InvalidTable_InvalidText : PySem.W.kitOne K (.ref C_InvalidTable) (.ref C_InvalidText) = some false)
    (kx_InvalidTable_InvalidView : PySem.W.kitOne K (.ref C_InvalidTable) (.ref C_InvalidView) = some false)
    (kx_InvalidTable_InvalidWish : PySem.W.kitOne K (.ref C_InvalidTable) (.ref C_InvalidWish) = some false)
    (kx_InvalidTable_InvalidWishes : PySem.W.kitOne K (.ref C_InvalidTable) (.ref C_InvalidWishes) = some false)
    (kx_InvalidTable_InvalidWord : PySem.W.kitOne K (.ref C_InvalidTable) (.ref C_InvalidWord) = some false)
    (kx_InvalidTable_LookupError : PySem.W.kitOne K (.ref C_InvalidTable) (.type "LookupError") = some false)
    (kx_InvalidTable_NotLot : PySem.W.kitOne K (.ref C_InvalidTable) (.ref C_NotLot) = some false)
    (kx_InvalidTable_NotPossible : PySem.W.kitOne K (.ref C_InvalidTable) (.ref C_NotPossible) = some false)
    (kx_InvalidTable_NotTriangular : PySem.W.kitOne K (.ref C_InvalidTable) (.ref C_NotTriangular) = some false)
    (kx_InvalidTable_NothingToUndo : PySem.W.kitOne K (.ref C_InvalidTable) (.ref C_NothingToUndo) = some false)
    (kx_InvalidTable_OtherSize : PySem.W.kitOne K (.ref C_InvalidTable) (.ref C_OtherSize) = some false)
    (kx_InvalidTable_TooMany : PySem.W.kitOne K (.ref C_InvalidTable) (.ref C_TooMany) = some false)
    (kx_InvalidTable_UnknownName : PySem.W.kitOne K (.ref C_InvalidTable) (.ref C_UnknownName) = some false)
    (kx_InvalidTable_ValueError : PySem.W.kitOne K (.ref C_InvalidTable) (.type "ValueError") = some true)
    (kx_InvalidTable_WrongName : PySem.W.kitOne K (.ref C_InvalidTable) (.ref C_WrongName) = some false)
    (kx_InvalidTable_WrongValue : PySem.W.kitOne K (.ref C_InvalidTable) (.ref C_WrongValue) = some true)
    (ox_InvalidView : ∃ nm q N bs bm sn sub ab col dd k0 k1 k2 k3 k5, K.lookup C_InvalidView = some (excClassObj nm q C_InvalidView N bs bm true sn sub ab col dd k0 k1 k2 k3 k5 "ValueError.__new__") ∧ M.refsT (M.Fam.tail .ve) bm = true)
    (sa_InvalidView : PySem.W.findIn K (.ref C_InvalidView) "__setattr__" = some (some (.builtin "object.__setattr__")))
    (xb_InvalidView : PySem.W.subIn K (.ref C_InvalidView) (.type "BaseException") = some true)
    (ty_InvalidView : PySem.W.typeIn K (.ref C_InvalidView) = some (.type "type"))
    (kC_InvalidView : PySem.W.keepIn K (.ref C_InvalidView) = true)
    (no_InvalidView : PySem.W.findIn K (.ref C_InvalidView) "given" = some none)
    (in_InvalidView : PySem.W.findIn K (.ref C_InvalidView) "__init__" = some (some (.ref ix_InvalidView)))
    (it_InvalidView : PySem.W.typeIn K (.ref ix_InvalidView) = some (.type "function"))
    (lx_InvalidView : K.lookup ix_InvalidView = some ⟨oc_InvalidView, od_InvalidView, .func (PySem.W.fnOf "__init__" "InvalidView.__init__" (defArgs sx_InvalidView) (defBody sx_InvalidView) (defScope sx_InvalidView) .none kV_InvalidView dc_InvalidView pm_InvalidView an_InvalidView cd_InvalidView ct_InvalidView), sl_InvalidView⟩)
    (cx_InvalidView : PySem.W.codeIn K cd_InvalidView "InvalidView.__init__" = true)
    (ki_InvalidView : PySem.W.keepIn K (.ref ix_InvalidView) = true)
    (xg_InvalidView : PySem.W.findIn K (.ref C_InvalidView) "__getattribute__" = some (some (.builtin "BaseException.__getattribute__")))
    (xh_InvalidView : PySem.W.findIn K (.ref C_InvalidView) "__getattr__" = some none)
    (xd_InvalidView : PySem.W.hasDictIn K C_InvalidView = true)
    (xa_InvalidView : PySem.W.findIn K (.ref C_InvalidView) "__class__" = some (some (.builtin "object.__class__")))
    (xm_InvalidView : PySem.W.mroIn K C_InvalidView (.type "object") = some true)
    (kx_InvalidView_ArithmeticError : PySem.W.kitOne K (.ref C_InvalidView) (.type "ArithmeticError") = some false)
    (kx_InvalidView_Broken : PySem.W.kitOne K (.ref C_InvalidView) (.ref C_Broken) = some false)
    (kx_InvalidView_InUse : PySem.W.kitOne K (.ref C_InvalidView) (.ref C_InUse) = some false)
    (kx_InvalidView_InvalidChanges : PySem.W.kitOne K (.ref C_InvalidView) (.ref C_InvalidChanges) = some false)
    (kx_InvalidView_InvalidColumns : PySem.W.kitOne K (.ref C_InvalidView) (.ref C_InvalidColumns) = some false)
    (kx_InvalidView_InvalidIndex : PySem.W.kitOne K (.ref C_InvalidView) (.ref C_InvalidIndex) = some false)
    (kx_InvalidView_InvalidName : PySem.W.kitOne K (.ref C_InvalidView) (.ref C_InvalidName) = some false)
    (kx_InvalidView_InvalidSize : PySem.W.kitOne K (.ref C_InvalidView) (.ref C_InvalidSize) = some false)
    (kx_InvalidView_InvalidTable : PySem.W.kitOne K (.ref C_InvalidView) (.ref C_InvalidTable) = some false)
    (kx_InvalidView_InvalidTables : PySem.W.kitOne K (.ref C_InvalidView) (.ref C_InvalidTables) = some false)
    (kx_InvalidView_InvalidText : PySem.W.kitOne K (.ref C_InvalidView) (.ref C_InvalidText) = some false)
    (kx_InvalidView_InvalidView : PySem.W.kitOne K (.ref C_InvalidView) (.ref C_InvalidView) = some true)
    (kx_InvalidView_InvalidWish : PySem.W.kitOne K (.ref C_InvalidView) (.ref C_InvalidWish) = some false)
    (kx_InvalidView_InvalidWishes : PySem.W.kitOne K (.ref C_InvalidView) (.ref C_InvalidWishes) = some false)
    (kx_InvalidView_InvalidWord : PySem.W.kitOne K (.ref C_InvalidView) (.ref C_InvalidWord) = some false)
    (kx_InvalidView_LookupError : PySem.W.kitOne K (.ref C_InvalidView) (.type "LookupError") = some false)
    (kx_InvalidView_NotLot : PySem.W.kitOne K (.ref C_InvalidView) (.ref C_NotLot) = some false)
    (kx_InvalidView_NotPossible : PySem.W.kitOne K (.ref C_InvalidView) (.ref C_NotPossible) = some false)
    (kx_InvalidView_NotTriangular : PySem.W.kitOne K (.ref C_InvalidView) (.ref C_NotTriangular) = some false)
    (kx_InvalidView_NothingToUndo : PySem.W.kitOne K (.ref C_InvalidView) (.ref C_NothingToUndo) = some false)
    (kx_InvalidView_OtherSize : PySem.W.kitOne K (.ref C_InvalidView) (.ref C_OtherSize) = some false)
    (kx_InvalidView_TooMany : PySem.W.kitOne K (.ref C_InvalidView) (.ref C_TooMany) = some false)
    (kx_InvalidView_UnknownName : PySem.W.kitOne K (.ref C_InvalidView) (.ref C_UnknownName) = some false)
    (kx_InvalidView_ValueError : PySem.W.kitOne K (.ref C_InvalidView) (.type "ValueError") = some true)
    (kx_InvalidView_WrongName : PySem.W.kitOne K (.ref C_InvalidView) (.ref C_WrongName) = some false)
    (kx_InvalidView_WrongValue : PySem.W.kitOne K (.ref C_InvalidView) (.ref C_WrongValue) = some true)
    (ox_InvalidWish : ∃ nm q N bs bm sn sub ab col dd k0 k1 k2 k3 k5, K.lookup C_InvalidWish = some (excClassObj nm q C_InvalidWish N bs bm true sn sub ab col dd k0 k1 k2 k3 k5 "ValueError.__new__") ∧ M.refsT (M.Fam.tail .ve) bm = true)
    (sa_InvalidWish : PySem.W.findIn K (.ref C_InvalidWish) "__setattr__" = some (some (.builtin "object.__setattr__")))
    (xb_InvalidWish : PySem.W.subIn K (.ref C_InvalidWish) (.type "BaseException") = some true)
    (ty_InvalidWish : PySem.W.typeIn K (.ref C_InvalidWish) = some (.type "type"))
    (kC_InvalidWish : PySem.W.keepIn K (.ref C_InvalidWish) = true)
    (no_InvalidWish : PySem.W.findIn K (.ref C_InvalidWish) "given" = some none)
    (in_InvalidWish : PySem.W.findIn K (.ref C_InvalidWish) "__init__" = some (some (.ref ix_InvalidWish)))
    (it_InvalidWish : PySem.W.typeIn K (.ref ix_InvalidWish) = some (.type "function"))
    (lx_InvalidWish : K.lookup ix_InvalidWish = some ⟨oc_InvalidWish, od_InvalidWish, .func (PySem.W.fnOf "__init__" "InvalidWish.__init__" (defArgs sx_InvalidWish) (defBody sx_InvalidWish) (defScope sx_InvalidWish) .none kV_InvalidWish dc_InvalidWish pm_InvalidWish an_InvalidWish cd_InvalidWish ct_InvalidWish), sl_InvalidWish⟩)
    (cx_InvalidWish : PySem.W.codeIn K cd_InvalidWish "InvalidWish.__init__" = true)
    (ki_InvalidWish : PySem.W.keepIn K (.ref ix_InvalidWish) = true)
    (xg_InvalidWish : PySem.W.findIn K (.ref C_InvalidWish) "__getattribute__" = some (some (.builtin "BaseException.__getattribute__")))
    (xh_InvalidWish : PySem.W.findIn K (.ref C_InvalidWish) "__getattr__" = some none)
    (xd_InvalidWish : PySem.W.hasDictIn K C_InvalidWish = true)
    (xa_InvalidWish : PySem.W.findIn K (.ref C_InvalidWish) "__class__" = some (some (.builtin "object.__class__")))
    (xm_InvalidWish : PySem.W.mroIn K C_InvalidWish (.type "object") = some true)
    (kx_InvalidWish_ArithmeticError : PySem.W.kitOne K (.ref C_InvalidWish) (.type "ArithmeticError") = some false)
    (kx_InvalidWish_Broken : PySem.W.kitOne K (.ref C_InvalidWish) (.ref C_Broken) = some false)
    (kx_InvalidWish_InUse : PySem.W.kitOne K (.ref C_InvalidWish) (.ref C_InUse) = some false)
    (kx_InvalidWish_InvalidChanges : PySem.W.kitOne K (.ref C_InvalidWish) (.ref C_InvalidChanges) = some false)
    (kx_InvalidWish_InvalidColumns : PySem.W.kitOne K (.ref C_InvalidWish) (.ref C_InvalidColumns) = some false)
    (kx_InvalidWish_InvalidIndex : PySem.W.kitOne K (.ref C_InvalidWish) (.ref C_InvalidIndex) = some false)
    (kx_InvalidWish_InvalidName : PySem.W.kitOne K (.ref C_InvalidWish) (.ref C_InvalidName) = some false)
    (kx_InvalidWish_InvalidSize : PySem.W.kitOne K (.ref C_InvalidWish) (.ref C_InvalidSize) = some false)
    (kx_InvalidWish_InvalidTable : PySem.W.kitOne K (.ref C_InvalidWish) (.ref C_InvalidTable) = some false)
    (kx_InvalidWish_InvalidTables : PySem.W.kitOne K (.ref C_InvalidWish) (.ref C_InvalidTables) = some false)
    (kx_InvalidWish_InvalidText : PySem.W.kitOne K (.ref C_InvalidWish) (.ref C_InvalidText) = some false)
    (kx_InvalidWish_InvalidView : PySem.W.kitOne K (.ref C_InvalidWish) (.ref C_InvalidView) = some false)
    (kx_InvalidWish_InvalidWish : PySem.W.kitOne K (.ref C_InvalidWish) (.ref C_InvalidWish) = some true)
    (kx_InvalidWish_InvalidWishes : PySem.W.kitOne K (.ref C_InvalidWish) (.ref C_InvalidWishes) = some false)
    (kx_InvalidWish_InvalidWord : PySem.W.kitOne K (.ref C_InvalidWish) (.ref C_InvalidWord) = some false)
    (kx_InvalidWish_LookupError : PySem.W.kitOne K (.ref C_InvalidWish) (.type "LookupError") = some false)
    (kx_InvalidWish_NotLot : PySem.W.kitOne K (.ref C_InvalidWish) (.ref C_NotLot) = some false)
    (kx_InvalidWish_NotPossible : PySem.W.kitOne K (.ref C_InvalidWish) (.ref C_NotPossible) = some false)
    (kx_InvalidWish_NotTriangular : PySem.W.kitOne K (.ref C_InvalidWish) (.ref C_NotTriangular) = some false)
    (kx_InvalidWish_NothingToUndo : PySem.W.kitOne K (.ref C_InvalidWish) (.ref C_NothingToUndo) = some false)
    (kx_InvalidWish_OtherSize : PySem.W.kitOne K (.ref C_InvalidWish) (.ref C_OtherSize) = some false)
    (kx_InvalidWish_TooMany : PySem.W.kitOne K (.ref C_InvalidWish) (.ref C_TooMany) = some false)
    (kx_InvalidWish_UnknownName : PySem.W.kitOne K (.ref C_InvalidWish) (.ref C_UnknownName) = some false)
    (kx_InvalidWish_ValueError : PySem.W.kitOne K (.ref C_InvalidWish) (.type "ValueError") = some true)
    (kx_InvalidWish_WrongName : PySem.W.kitOne K (.ref C_InvalidWish) (.ref C_WrongName) = some false)
    (kx_InvalidWish_WrongValue : PySem.W.kitOne K (.ref C_InvalidWish) (.ref C_WrongValue) = some true)
    (ox_NotLot : ∃ nm q N bs bm sn sub ab col dd k0 k1 k2 k3 k5, K.lookup C_NotLot = some (excClassObj nm q C_NotLot N bs bm true sn sub ab col dd k0 k1 k2 k3 k5 "ValueError.__new__") ∧ M.refsT (M.Fam.tail .ve) bm = true)
    (sa_NotLot : PySem.W.findIn K (.ref C_NotLot) "__setattr__" = some (some (.builtin "object.__setattr__")))
    (xb_NotLot : PySem.W.subIn K (.ref C_NotLot) (.type "BaseException") = some true)
    (ty_NotLot : PySem.W.typeIn K (.ref C_NotLot) = some (.type "type"))
    (kC_NotLot : PySem.W.keepIn K (.ref C_NotLot) = true)
    (no_NotLot : PySem.W.findIn K (.ref C_NotLot) "given" = some none)
    (in_NotLot : PySem.W.findIn K (.ref C_NotLot) "__init__" = some (some (.ref ix_NotLot)))
    (it_NotLot : PySem.W.typeIn K (.ref ix_NotLot) = some (.type "function"))
    (lx_NotLot : K.lookup ix_NotLot = some ⟨oc_NotLot, od_NotLot, .func (PySem.W.fnOf "__init__" "NotLot.__init__" (defArgs sx_NotLot) (defBody sx_NotLot) (defScope sx_NotLot) .none kV_NotLot dc_NotLot pm_NotLot an_NotLot cd_NotLot ct_NotLot), sl_NotLot⟩)
    (cx_NotLot : PySem.W.codeIn K cd_NotLot "NotLot.__init__" = true)
    (ki_NotLot : PySem.W.keepIn K (.ref ix_NotLot) = true)
    (xg_NotLot : PySem.W.findIn K (.ref C_NotLot) "__getattribute__" = some (some (.builtin "BaseException.__getattribute__")))
    (xh_NotLot : PySem.W.findIn K (.ref C_NotLot) "__getattr__" = some none)
    (xd_NotLot : PySem.W.hasDictIn K C_NotLot = true)
    (xa_NotLot : PySem.W.findIn K (.ref C_NotLot) "__class__" = some (some (.builtin "object.__class__")))
    (xm_NotLot : PySem.W.mroIn K C_NotLot (.type "object") = some true)
    (kx_NotLot_ArithmeticError : PySem.W.kitOne K (.ref C_NotLot) (.type "ArithmeticError") = some false)
    (kx_NotLot_Broken : PySem.W.kitOne K (.ref C_NotLot) (.ref C_Broken) = some false)
    (kx_NotLot_InUse : PySem.W.kitOne K (.ref C_NotLot) (.ref C_InUse) = some false)
    (kx_NotLot_InvalidChanges : PySem.W.kitOne K (.ref C_NotLot) (.ref C_InvalidChanges) = some false)
    (kx_NotLot_InvalidColumns : PySem.W.kitOne K (.ref C_NotLot) (.ref C_InvalidColumns) = some false)
    (kx_NotLot_InvalidIndex : PySem.W.kitOne K (.ref C_NotLot) (.ref C_InvalidIndex) = some false)
    (kx_NotLot_InvalidName : PySem.W.kitOne K (.ref C_NotLot) (.ref C_InvalidName) = some false)
    (kx_NotLot_InvalidSize : PySem.W.kitOne K (.ref C_NotLot) (.ref C_InvalidSize) = some false)
    (kx_NotLot_InvalidTable : PySem.W.kitOne K (.ref C_NotLot) (.ref C_InvalidTable) = some false)
    (kx_NotLot_InvalidTables : PySem.W.kitOne K (.ref C_NotLot) (.ref C_InvalidTables) = some false)
    (kx_NotLot_InvalidText : PySem.W.kitOne K (.ref C_NotLot) (.ref C_InvalidText) = some false)
    (kx_NotLot_InvalidView : PySem.W.kitOne K (.ref C_NotLot) (.ref C_InvalidView) = some false)
    (kx_NotLot_InvalidWish : PySem.W.kitOne K (.ref C_NotLot) (.ref C_InvalidWish) = some false)
    (kx_NotLot_InvalidWishes : PySem.W.kitOne K (.ref C_NotLot) (.ref C_InvalidWishes) = some false)
    (kx_NotLot_InvalidWord : PySem.W.kitOne K (.ref C_NotLot) (.ref C_InvalidWord) = some false)
    (kx_NotLot_LookupError : PySem.W.kitOne K (.ref C_NotLot) (.type "LookupError") = some false)
    (kx_NotLot_NotLot : PySem.W.kitOne K (.ref C_NotLot) (.ref C_NotLot) = some true)
    (kx_NotLot_NotPossible : PySem.W.kitOne K (.ref C_NotLot) (.ref C_NotPossible) = some false)
    (kx_NotLot_NotTriangular : PySem.W.kitOne K (.ref C_NotLot) (.ref C_NotTriangular) = some false)
    (kx_NotLot_NothingToUndo : PySem.W.kitOne K (.ref C_NotLot) (.ref C_NothingToUndo) = some false)
    (kx_NotLot_OtherSize : PySem.W.kitOne K (.ref C_NotLot) (.ref C_OtherSize) = some false)
    (kx_NotLot_TooMany : PySem.W.kitOne K (.ref C_NotLot) (.ref C_TooMany) = some false)
    (kx_NotLot_UnknownName : PySem.W.kitOne K (.ref C_NotLot) (.ref C_UnknownName) = some false)
    (kx_NotLot_ValueError : PySem.W.kitOne K (.ref C_NotLot) (.type "ValueError") = some true)
    (kx_NotLot_WrongName : PySem.W.kitOne K (.ref C_NotLot) (.ref C_WrongName) = some false)
    (kx_NotLot_WrongValue : PySem.W.kitOne K (.ref C_NotLot) (.ref C_WrongValue) = some true)
    (ox_InvalidTables : ∃ nm q N bs bm sn sub ab col dd k0 k1 k2 k3 k5, K.lookup C_InvalidTables = some (excClassObj nm q C_InvalidTables N bs bm true sn sub ab col dd k0 k1 k2 k3 k5 "ValueError.__new__") ∧ M.refsT (M.Fam.tail .ve) bm = true)
    (sa_InvalidTables : PySem.W.findIn K (.ref C_InvalidTables) "__setattr__" = some (some (.builtin "object.__setattr__")))
    (xb_InvalidTables : PySem.W.subIn K (.ref C_InvalidTables) (.type "BaseException") = some true)
    (ty_InvalidTables : PySem.W.typeIn K (.ref C_InvalidTables) = some (.type "type"))
    (kC_InvalidTables : PySem.W.keepIn K (.ref C_InvalidTables) = true)
    (no_InvalidTables : PySem.W.findIn K (.ref C_InvalidTables) "index" = some none)
    (in_InvalidTables : PySem.W.findIn K (.ref C_InvalidTables) "__init__" = some (some (.ref ix_InvalidTables)))
    (it_InvalidTables : PySem.W.typeIn K (.ref ix_InvalidTables) = some (.type "function"))
    (lx_InvalidTables : K.lookup ix_InvalidTables = some ⟨oc_InvalidTables, od_InvalidTables, .func (PySem.W.fnOf "__init__" "InvalidTables.__init__" (defArgs sx_InvalidTables) (defBody sx_InvalidTables) (defScope sx_InvalidTables) .none kV_InvalidTables dc_InvalidTables pm_InvalidTables an_InvalidTables cd_InvalidTables ct_InvalidTables), sl_InvalidTables⟩)
    (cx_InvalidTables : PySem.W.codeIn K cd_InvalidTables "InvalidTables.__init__" = true)
    (ki_InvalidTables : PySem.W.keepIn K (.ref ix_InvalidTables) = true)
    (xg_InvalidTables : PySem.W.findIn K (.ref C_InvalidTables) "__getattribute__" = some (some (.builtin "BaseException.__getattribute__")))
    (xh_InvalidTables : PySem.W.findIn K (.ref C_InvalidTables) "__getattr__" = some none)
    (xd_InvalidTables : PySem.W.hasDictIn K C_InvalidTables = true)
    (xa_InvalidTables : PySem.W.findIn K (.ref C_InvalidTables) "__class__" = some (some (.builtin "object.__class__")))
    (xm_InvalidTables : PySem.W.mroIn K C_InvalidTables (.type "object") = some true)
    (kx_InvalidTables_ArithmeticError : PySem.W.kitOne K (.ref C_InvalidTables) (.type "ArithmeticError") = some false)
    (kx_InvalidTables_Broken : PySem.W.kitOne K (.ref C_InvalidTables) (.ref C_Broken) = some false)
    (kx_InvalidTables_InUse : PySem.W.kitOne K (.ref C_InvalidTables) (.ref C_InUse) = some false)
    (kx_InvalidTables_InvalidChanges : PySem.W.kitOne K (.ref C_InvalidTables) (.ref C_InvalidChanges) = some false)
    (kx_InvalidTables_InvalidColumns : PySem.W.kitOne K (.ref C_InvalidTables) (.ref C_InvalidColumns) = some false)
    (kx_InvalidTables_InvalidIndex : PySem.W.kitOne K (.ref C_InvalidTables) (.ref C_InvalidIndex) = some false)
    (kx_InvalidTables_InvalidName : PySem.W.kitOne K (.ref C_InvalidTables) (.ref C_InvalidName) = some false)
    (kx_InvalidTables_InvalidSize : PySem.W.kitOne K (.ref C_InvalidTables) (.ref C_InvalidSize) = some false)
    (kx_InvalidTables_InvalidTable : PySem.W.kitOne K (.ref C_InvalidTables) (.ref C_InvalidTable) = some false)
    (kx_InvalidTables_InvalidTables : PySem.W.kitOne K (.ref C_InvalidTables) (.ref C_InvalidTables) = some true)
    (kx_InvalidTables_InvalidText : PySem.W.kitOne K (.ref C_InvalidTables) (.ref C_InvalidText) = some false)
    (kx_InvalidTables_InvalidView : PySem.W.kitOne K (.ref C_InvalidTables) (.ref C_InvalidView) = some false)
    (kx_InvalidTables_InvalidWish : PySem.W.kitOne K (.ref C_InvalidTables) (.ref C_InvalidWish) = some false)
    (kx_InvalidTables_InvalidWishes : PySem.W.kitOne K (.ref C_InvalidTables) (.ref C_InvalidWishes) = some false)
    (kx_InvalidTables_InvalidWord : PySem.W.kitOne K (.ref C_InvalidTables) (.ref C_InvalidWord) = some false)
    (kx_InvalidTables_LookupError : PySem.W.kitOne K (.ref C_InvalidTables) (.type "LookupError") = some false)
    (kx_InvalidTables_NotLot : PySem.W.kitOne K (.ref C_InvalidTables) (.ref C_NotLot) = some false)
    (kx_InvalidTables_NotPossible : PySem.W.kitOne K (.ref C_InvalidTables) (.ref C_NotPossible) = some false)
    (kx_InvalidTables_NotTriangular : PySem.W.kitOne K (.ref C_InvalidTables) (.ref C_NotTriangular) = some false)
    (kx_InvalidTables_NothingToUndo : PySem.W.kitOne K (.ref C_InvalidTables) (.ref C_NothingToUndo) = some false)
    (kx_InvalidTables_OtherSize : PySem.W.kitOne K (.ref C_InvalidTables) (.ref C_OtherSize) = some false)
    (kx_InvalidTables_TooMany : PySem.W.kitOne K (.ref C_InvalidTables) (.ref C_TooMany) = some false)
    (kx_InvalidTables_UnknownName : PySem.W.kitOne K (.ref C_InvalidTables) (.ref C_UnknownName) = some false)
    (kx_InvalidTables_ValueError : PySem.W.kitOne K (.ref C_InvalidTables) (.type "ValueError") = some true)
    (kx_InvalidTables_WrongName : PySem.W.kitOne K (.ref C_InvalidTables) (.ref C_WrongName) = some false)
    (kx_InvalidTables_WrongValue : PySem.W.kitOne K (.ref C_InvalidTables) (.ref C_WrongValue) = some true)
    (ox_InvalidWord : ∃ nm q N bs bm sn sub ab col dd k0 k1 k2 k3 k5, K.lookup C_InvalidWord = some (excClassObj nm q C_InvalidWord N bs bm true sn sub ab col dd k0 k1 k2 k3 k5 "ValueError.__new__") ∧ M.refsT (M.Fam.tail .ve) bm = true)
    (sa_InvalidWord : PySem.W.findIn K (.ref C_InvalidWord) "__setattr__" = some (some (.builtin "object.__setattr__")))
    (xb_InvalidWord : PySem.W.subIn K (.ref C_InvalidWord) (.type "BaseException") = some true)
    (ty_InvalidWord : PySem.W.typeIn K (.ref C_InvalidWord) = some (.type "type"))
    (kC_InvalidWord : PySem.W.keepIn K (.ref C_InvalidWord) = true)
    (no_InvalidWord : PySem.W.findIn K (.ref C_InvalidWord) "index" = some none)
    (in_InvalidWord : PySem.W.findIn K (.ref C_InvalidWord) "__init__" = some (some (.ref ix_InvalidWord)))
    (it_InvalidWord : PySem.W.typeIn K (.ref ix_InvalidWord) = some (.type "function"))
    (lx_InvalidWord : K.lookup ix_InvalidWord = some ⟨oc_InvalidWord, od_InvalidWord, .func (PySem.W.fnOf "__init__" "InvalidWord.__init__" (defArgs sx_InvalidWord) (defBody sx_InvalidWord) (defScope sx_InvalidWord) .none kV_InvalidWord dc_InvalidWord pm_InvalidWord an_InvalidWord cd_InvalidWord ct_InvalidWord), sl_InvalidWord⟩)
    (cx_InvalidWord : PySem.W.codeIn K cd_InvalidWord "InvalidWord.__init__" = true)
    (ki_InvalidWord : PySem.W.keepIn K (.ref ix_InvalidWord) = true)
    (xg_InvalidWord : PySem.W.findIn K (.ref C_InvalidWord) "__getattribute__" = some (some (.builtin "BaseException.__getattribute__")))
    (xh_InvalidWord : PySem.W.findIn K (.ref C_InvalidWord) "__getattr__" = some none)
    (xd_InvalidWord : PySem.W.hasDictIn K C_InvalidWord = true)
    (xa_InvalidWord : PySem.W.findIn K (.ref C_InvalidWord) "__class__" = some (some (.builtin "object.__class__")))
    (xm_InvalidWord : PySem.W.mroIn K C_InvalidWord (.type "object") = some true)
    (kx_InvalidWord_ArithmeticError : PySem.W.kitOne K (.ref C_InvalidWord) (.type "ArithmeticError") = some false)
    (kx_InvalidWord_Broken : PySem.W.kitOne K (.ref C_InvalidWord) (.ref C_Broken) = some false)
    (kx_InvalidWord_InUse : PySem.W.kitOne K (.ref C_InvalidWord) (.ref C_InUse) = some false)
    (kx_InvalidWord_InvalidChanges : PySem.W.kitOne K (.ref C_InvalidWord) (.ref C_InvalidChanges) = some false)
    (kx_InvalidWord_InvalidColumns : PySem.W.kitOne K (.ref C_InvalidWord) (.ref C_InvalidColumns) = some false)
    (kx_InvalidWord_InvalidIndex : PySem.W.kitOne K (.ref C_InvalidWord) (.ref C_InvalidIndex) = some false)
    (kx_InvalidWord_InvalidName : PySem.W.kitOne K (.ref C_InvalidWord) (.ref C_InvalidName) = some false)
    (kx_InvalidWord_InvalidSize : PySem.W.kitOne K (.ref C_InvalidWord) (.ref C_InvalidSize) = some false)
    (kx_InvalidWord_InvalidTable : PySem.W.kitOne K (.ref C_InvalidWord) (.ref C_InvalidTable) = some false)
    (kx_InvalidWord_InvalidTables : PySem.W.kitOne K (.ref C_InvalidWord) (.ref C_InvalidTables) = some false)
    (kx_InvalidWord_InvalidText : PySem.W.kitOne K (.ref C_InvalidWord) (.ref C_InvalidText) = some false)
    (kx_InvalidWord_InvalidView : PySem.W.kitOne K (.ref C_InvalidWord) (.ref C_InvalidView) = some false)
    (kx_InvalidWord_InvalidWish : PySem.W.kitOne K (.ref C_InvalidWord) (.ref C_InvalidWish) = some false)
    (kx_InvalidWord_InvalidWishes : PySem.W.kitOne K (.ref C_InvalidWord) (.ref C_InvalidWishes) = some false)
    (kx_InvalidWord_InvalidWord : PySem.W.kitOne K (.ref C_InvalidWord) (.ref C_InvalidWord) = some true)
    (kx_InvalidWord_LookupError : PySem.W.kitOne K (.ref C_InvalidWord) (.type "LookupError") = some false)
    (kx_InvalidWord_NotLot : PySem.W.kitOne K (.ref C_InvalidWord) (.ref C_NotLot) = some false)
    (kx_InvalidWord_NotPossible : PySem.W.kitOne K (.ref C_InvalidWord) (.ref C_NotPossible) = some false)
    (kx_InvalidWord_NotTriangular : PySem.W.kitOne K (.ref C_InvalidWord) (.ref C_NotTriangular) = some false)
    (kx_InvalidWord_NothingToUndo : PySem.W.kitOne K (.ref C_InvalidWord) (.ref C_NothingToUndo) = some false)
    (kx_InvalidWord_OtherSize : PySem.W.kitOne K (.ref C_InvalidWord) (.ref C_OtherSize) = some false)
    (kx_InvalidWord_TooMany : PySem.W.kitOne K (.ref C_InvalidWord) (.ref C_TooMany) = some false)
    (kx_InvalidWord_UnknownName : PySem.W.kitOne K (.ref C_InvalidWord) (.ref C_UnknownName) = some false)
    (kx_InvalidWord_ValueError : PySem.W.kitOne K (.ref C_InvalidWord) (.type "ValueError") = some true)
    (kx_InvalidWord_WrongName : PySem.W.kitOne K (.ref C_InvalidWord) (.ref C_WrongName) = some false)
    (kx_InvalidWord_WrongValue : PySem.W.kitOne K (.ref C_InvalidWord) (.ref C_WrongValue) = some true)
    (ox_InvalidColumns : ∃ nm q N bs bm sn sub ab col dd k0 k1 k2 k3 k5, K.lookup C_InvalidColumns = some (excClassObj nm q C_InvalidColumns N bs bm true sn sub ab col dd k0 k1 k2 k3 k5 "ValueError.__new__") ∧ M.refsT (M.Fam.tail .ve) bm = true)
    (sa_InvalidColumns : PySem.W.findIn K (.ref C_InvalidColumns) "__setattr__" = some (some (.builtin "object.__setattr__")))
    (xb_InvalidColumns : PySem.W.subIn K (.ref C_InvalidColumns) (.type "BaseException") = some true)
    (ty_InvalidColumns : PySem.W.typeIn K (.ref C_InvalidColumns) = some (.type "type"))
    (kC_InvalidColumns : PySem.W.keepIn K (.ref C_InvalidColumns) = true)
    (no_InvalidColumns : PySem.W.findIn K (.ref C_InvalidColumns) "index" = some none)
    (in_InvalidColumns : PySem.W.findIn K (.ref C_InvalidColumns) "__init__" = some (some (.ref ix_InvalidColumns)))
    (it_InvalidColumns : PySem.W.typeIn K (.ref ix_InvalidColumns) = some (.type "function"))
    (lx_InvalidColumns : K.lookup ix_InvalidColumns = some ⟨oc_InvalidColumns, od_InvalidColumns, .func (PySem.W.fnOf "__init__" "InvalidColumns.__init__" (defArgs sx_InvalidColumns) (defBody sx_InvalidColumns) (defScope sx_InvalidColumns) .none kV_InvalidColumns dc_InvalidColumns pm_InvalidColumns an_InvalidColumns cd_InvalidColumns ct_InvalidColumns), sl_InvalidColumns⟩)
    (cx_InvalidColumns : PySem.W.codeIn K cd_InvalidColumns "InvalidColumns.__init__" = true)
    (ki_InvalidColumns : PySem.W.keepIn K (.ref ix_InvalidColumns) = true)
    (xg_InvalidColumns : PySem.W.findIn K (.ref C_InvalidColumns) "__getattribute__" = some (some (.builtin "BaseException.__getattribute__")))
    (xh_InvalidColumns : PySem.W.findIn K (.ref C_InvalidColumns) "__getattr__" = some none)
    (xd_InvalidColumns : PySem.W.hasDictIn K C_InvalidColumns = true)
    (xa_InvalidColumns : PySem.W.findIn K (.ref C_InvalidColumns) "__class__" = some (some (.builtin "object.__class__")))
    (xm_InvalidColumns : PySem.W.mroIn K C_InvalidColumns (.type "object") = some true)
    (kx_InvalidColumns_ArithmeticError : PySem.W.kitOne K (.ref C_InvalidColumns) (.type "ArithmeticError") = some false)
    (kx_InvalidColumns_Broken : PySem.W.kitOne K (.ref C_InvalidColumns) (.ref C_Broken) = some false)
    (kx_InvalidColumns_InUse : PySem.W.kitOne K (.ref C_InvalidColumns) (.ref C_InUse) = some false)
    (kx_InvalidColumns_InvalidChanges : PySem.W.kitOne K (.ref C_InvalidColumns) (.ref C_InvalidChanges) = some false)
    (kx_InvalidColumns_InvalidColumns : PySem.W.kitOne K (.ref C_InvalidColumns) (.ref C_InvalidColumns) = some true)
    (kx_InvalidColumns_InvalidIndex : PySem.W.kitOne K (.ref C_InvalidColumns) (.ref C_InvalidIndex) = some false)
    (kx_InvalidColumns_InvalidName : PySem.W.kitOne K (.ref C_InvalidColumns) (.ref C_InvalidName) = some false)
    (kx_InvalidColumns_InvalidSize : PySem.W.kitOne K (.ref C_InvalidColumns) (.ref C_InvalidSize) = some false)
    (kx_InvalidColumns_InvalidTable : PySem.W.kitOne K (.ref C_InvalidColumns) (.ref C_InvalidTable) = some false)
    (kx_InvalidColumns_InvalidTables : PySem.W.kitOne K (.ref C_InvalidColumns) (.ref C_InvalidTables) = some false)
    (kx_InvalidColumns_InvalidText : PySem.W.kitOne K (.ref C_InvalidColumns) (.ref C_InvalidText) = some false)
    (kx_InvalidColumns_InvalidView : PySem.W.kitOne K (.ref C_InvalidColumns) (.ref C_InvalidView) = some false)
    (kx_InvalidColumns_InvalidWish : PySem.W.kitOne K (.ref C_InvalidColumns) (.ref C_InvalidWish) = some false)
    (kx_InvalidColumns_InvalidWishes : PySem.W.kitOne K (.ref C_InvalidColumns) (.ref C_InvalidWishes) = some false)
    (kx_InvalidColumns_InvalidWord : PySem.W.kitOne K (.ref C_InvalidColumns) (.ref C_InvalidWord) = some false)
    (kx_InvalidColumns_LookupError : PySem.W.kitOne K (.ref C_InvalidColumns) (.type "LookupError") = some false)
    (kx_InvalidColumns_NotLot : PySem.W.kitOne K (.ref C_InvalidColumns) (.ref C_NotLot) = some false)
    (kx_InvalidColumns_NotPossible : PySem.W.kitOne K (.ref C_InvalidColumns) (.ref C_NotPossible) = some false)
    (kx_InvalidColumns_NotTriangular : PySem.W.kitOne K (.ref C_InvalidColumns) (.ref C_NotTriangular) = some false)
    (kx_InvalidColumns_NothingToUndo : PySem.W.kitOne K (.ref C_InvalidColumns) (.ref C_NothingToUndo) = some false)
    (kx_InvalidColumns_OtherSize : PySem.W.kitOne K (.ref C_InvalidColumns) (.ref C_OtherSize) = some false)
    (kx_InvalidColumns_TooMany : PySem.W.kitOne K (.ref C_InvalidColumns) (.ref C_TooMany) = some false)
    (kx_InvalidColumns_UnknownName : PySem.W.kitOne K (.ref C_InvalidColumns) (.ref C_UnknownName) = some false)
    (kx_InvalidColumns_ValueError : PySem.W.kitOne K (.ref C_InvalidColumns) (.type "ValueError") = some true)
    (kx_InvalidColumns_WrongName : PySem.W.kitOne K (.ref C_InvalidColumns) (.ref C_WrongName) = some false)
    (kx_InvalidColumns_WrongValue : PySem.W.kitOne K (.ref C_InvalidColumns) (.ref C_WrongValue) = some true)
    (ox_InvalidChanges : ∃ nm q N bs bm sn sub ab col dd k0 k1 k2 k3 k5, K.lookup C_InvalidChanges = some (excClassObj nm q C_InvalidChanges N bs bm true sn sub ab col dd k0 k1 k2 k3 k5 "ValueError.__new__") ∧ M.refsT (M.Fam.tail .ve) bm = true)
    (sa_InvalidChanges : PySem.W.findIn K (.ref C_InvalidChanges) "__setattr__" = some (some (.builtin "object.__setattr__")))
    (xb_InvalidChanges : PySem.W.subIn K (.ref C_InvalidChanges) (.type "BaseException") = some true)
    (ty_InvalidChanges : PySem.W.typeIn K (.ref C_InvalidChanges) = some (.type "type"))
    (kC_InvalidChanges : PySem.W.keepIn K (.ref C_InvalidChanges) = true)
    (no_InvalidChanges : PySem.W.findIn K (.ref C_InvalidChanges) "index" = some none)
    (in_InvalidChanges : PySem.W.findIn K (.ref C_InvalidChanges) "__init__" = some (some (.ref ix_InvalidChanges)))
    (it_InvalidChanges : PySem.W.typeIn K (.ref ix_InvalidChanges) = some (.type "function"))
    (lx_InvalidChanges : K.lookup ix_InvalidChanges = some ⟨oc_InvalidChanges, od_InvalidChanges, .func (PySem.W.fnOf "__init__" "InvalidChanges.__init__" (defArgs sx_InvalidChanges) (defBody sx_InvalidChanges) (defScope sx_InvalidChanges) .none kV_InvalidChanges dc_InvalidChanges pm_InvalidChanges an_InvalidChanges cd_InvalidChanges ct_InvalidChanges), sl_InvalidChanges⟩)
    (cx_InvalidChanges : PySem.W.codeIn K cd_InvalidChanges "InvalidChanges.__init__" = true)
    (ki_InvalidChanges : PySem.W.keepIn K (.ref ix_InvalidChanges) = true)
    (xg_InvalidChanges : PySem.W.findIn K (.ref C_InvalidChanges) "__getattribute__" = some (some (.builtin "BaseException.__getattribute__")))
    (xh_InvalidChanges : PySem.W.findIn K (.ref C_InvalidChanges) "__getattr__" = some none)
    (xd_InvalidChanges : PySem.W.hasDictIn K C_InvalidChanges = true)
    (xa_InvalidChanges : PySem.W.findIn K (.ref C_InvalidChanges) "__class__" = some (some (.builtin "object.__class__")))
    (xm_InvalidChanges : PySem.W.mroIn K C_InvalidChanges (.type "object") = some true)
    (kx_InvalidChanges_ArithmeticError : PySem.W.kitOne K (.ref C_InvalidChanges) (.type "ArithmeticError") = some false)
    (kx_InvalidChanges_Broken : PySem.W.kitOne K (.ref C_InvalidChanges) (.ref C_Broken) = some false)
    (kx_InvalidChanges_InUse : PySem.W.kitOne K (.ref C_InvalidChanges) (.ref C_InUse) = some false)
    (kx_InvalidChanges_InvalidChanges : PySem.W.kitOne K (.ref C_InvalidChanges) (.ref C_InvalidChanges) = some true)
    (kx_InvalidChanges_InvalidColumns : PySem.W.kitOne K (.ref C_InvalidChanges) (.ref C_InvalidColumns) = some false)
    (kx_InvalidChanges_InvalidIndex : PySem.W.kitOne K (.ref C_InvalidChanges) (.ref C_InvalidIndex) = some false)
    (kx_InvalidChanges_InvalidName : PySem.W.kitOne K (.ref C_InvalidChanges) (.ref C_InvalidName) = some false)
    (kx_InvalidChanges_InvalidSize : PySem.W.kitOne K (.ref C_InvalidChanges) (.ref C_InvalidSize) = some false)
    (kx_InvalidChanges_InvalidTable : PySem.W.kitOne K (.ref C_InvalidChanges) (.ref C_InvalidTable) = some false)
    (kx_InvalidChanges_InvalidTables : PySem.W.kitOne K (.ref C_InvalidChanges) (.ref C_InvalidTables) = some false)
    (kx_InvalidChanges_InvalidText : PySem.W.kitOne K (.ref C_InvalidChanges) (.ref C_InvalidText) = some false)
    (kx_InvalidChanges_InvalidView : PySem.W.kitOne K (.ref C_InvalidChanges) (.ref C_InvalidView) = some false)
    (kx_InvalidChanges_InvalidWish : PySem.W.kitOne K (.ref C_InvalidChanges) (.ref C_InvalidWish) = some false)
    (kx_InvalidChanges_InvalidWishes : PySem.W.kitOne K (.ref C_InvalidChanges) (.ref C_InvalidWishes) = some false)
    (kx_InvalidChanges_InvalidWord : PySem.W.kitOne K (.ref C_InvalidChanges) (.ref C_InvalidWord) = some false)
    (kx_InvalidChanges_LookupError : PySem.W.kitOne K (.ref C_InvalidChanges) (.type "LookupError") = some false)
    (kx_InvalidChanges_NotLot : PySem.W.kitOne K (.ref C_InvalidChanges) (.ref C_NotLot) = some false)
    (kx_InvalidChanges_NotPossible : PySem.W.kitOne K (.ref C_InvalidChanges) (.ref C_NotPossible) = some false)
    (kx_InvalidChanges_NotTriangular : PySem.W.kitOne K (.ref C_InvalidChanges) (.ref C_NotTriangular) = some false)
    (kx_InvalidChanges_NothingToUndo : PySem.W.kitOne K (.ref C_InvalidChanges) (.ref C_NothingToUndo) = some false)
    (kx_InvalidChanges_OtherSize : PySem.W.kitOne K (.ref C_InvalidChanges) (.ref C_OtherSize) = some false)
    (kx_InvalidChanges_TooMany : PySem.W.kitOne K (.ref C_InvalidChanges) (.ref C_TooMany) = some false)
    (kx_InvalidChanges_UnknownName : PySem.W.kitOne K (.ref C_InvalidChanges) (.ref C_UnknownName) = some false)
    (kx_InvalidChanges_ValueError : PySem.W.kitOne K (.ref C_InvalidChanges) (.type "ValueError") = some true)
    (kx_InvalidChanges_WrongName : PySem.W.kitOne K (.ref C_InvalidChanges) (.ref C_WrongName) = some false)
    (kx_InvalidChanges_WrongValue : PySem.W.kitOne K (.ref C_InvalidChanges) (.ref C_WrongValue) = some true)
    (ox_InvalidWishes : ∃ nm q N bs bm sn sub ab col dd k0 k1 k2 k3 k5, K.lookup C_InvalidWishes = some (excClassObj nm q C_InvalidWishes N bs bm true sn sub ab col dd k0 k1 k2 k3 k5 "ValueError.__new__") ∧ M.refsT (M.Fam.tail .ve) bm = true)
    (sa_InvalidWishes : PySem.W.findIn K (.ref C_InvalidWishes) "__setattr__" = some (some (.builtin "object.__setattr__")))
    (xb_InvalidWishes : PySem.W.subIn K (.ref C_InvalidWishes) (.type "BaseException") = some true)
    (ty_InvalidWishes : PySem.W.typeIn K (.ref C_InvalidWishes) = some (.type "type"))
    (kC_InvalidWishes : PySem.W.keepIn K (.ref C_InvalidWishes) = true)
    (no_InvalidWishes : PySem.W.findIn K (.ref C_InvalidWishes) "index" = some none)
    (in_InvalidWishes : PySem.W.findIn K (.ref C_InvalidWishes) "__init__" = some (some (.ref ix_InvalidWishes)))
    (it_InvalidWishes : PySem.W.typeIn K (.ref ix_InvalidWishes) = some (.type "function"))
    (lx_InvalidWishes : K.lookup ix_InvalidWishes = some ⟨oc_InvalidWishes, od_InvalidWishes, .func (PySem.W.fnOf "__init__" "InvalidWishes.__init__" (defArgs sx_InvalidWishes) (defBody sx_InvalidWishes) (defScope sx_InvalidWishes) .none kV_InvalidWishes dc_InvalidWishes pm_InvalidWishes an_InvalidWishes cd_InvalidWishes ct_InvalidWishes), sl_InvalidWishes⟩)
    (cx_InvalidWishes : PySem.W.codeIn K cd_InvalidWishes "InvalidWishes.__init__" = true)
    (ki_InvalidWishes : PySem.W.keepIn K (.ref ix_InvalidWishes) = true)
    (xg_InvalidWishes : PySem.W.findIn K (.ref C_InvalidWishes) "__getattribute__" = some (some (.builtin "BaseException.__getattribute__")))
    (xh_InvalidWishes : PySem.W.findIn K (.ref C_InvalidWishes) "__getattr__" = some none)
    (xd_InvalidWishes : PySem.W.hasDictIn K C_InvalidWishes = true)
    (xa_InvalidWishes : PySem.W.findIn K (.ref C_InvalidWishes) "__class__" = some (some (.builtin "object.__class__")))
    (xm_InvalidWishes : PySem.W.mroIn K C_InvalidWishes (.type "object") = some true)
    (kx_InvalidWishes_ArithmeticError : PySem.W.kitOne K (.ref C_InvalidWishes) (.type "ArithmeticError") = some false)
    (kx_InvalidWishes_Broken : PySem.W.kitOne K (.ref C_InvalidWishes) (.ref C_Broken) = some false)
    (kx_InvalidWishes_InUse : PySem.W.kitOne K (.ref C_InvalidWishes) (.ref C_InUse) = some false)
    (kx_InvalidWishes_InvalidChanges : PySem.W.kitOne K (.ref C_InvalidWishes) (.ref C_InvalidChanges) = some false)
    (kx_InvalidWishes_InvalidColumns : PySem.W.kitOne K (.ref C_InvalidWishes) (.ref C_InvalidColumns) = some false)
    (kx_InvalidWishes_InvalidIndex : PySem.W.kitOne K (.ref C_InvalidWishes) (.ref C_InvalidIndex) = some false)
    (kx_InvalidWishes_InvalidName : PySem.W.kitOne K (.ref C_InvalidWishes) (.ref C_InvalidName) = some false)
    (kx_InvalidWishes_InvalidSize : PySem.W.kitOne K (.ref C_InvalidWishes) (.ref C_InvalidSize) = some false)
    (kx_InvalidWishes_InvalidTable : PySem.W.kitOne K (.ref C_InvalidWishes) (.ref C_InvalidTable) = some false)
    (kx_InvalidWishes_InvalidTables : PySem.W.kitOne K (.ref C_InvalidWishes) (.ref C_InvalidTables) = some false)
    (kx_InvalidWishes_InvalidText : PySem.W.kitOne K (.ref C_InvalidWishes) (.ref C_InvalidText) = some false)
    (kx_InvalidWishes_InvalidView : PySem.W.kitOne K (.ref C_InvalidWishes) (.ref C_InvalidView) = some false)
    (kx_InvalidWishes_InvalidWish : PySem.W.kitOne K (.ref C_InvalidWishes) (.ref C_InvalidWish) = some false)
    (kx_InvalidWishes_InvalidWishes : PySem.W.kitOne K (.ref C_InvalidWishes) (.ref C_InvalidWishes) = some true)
    (kx_InvalidWishes_InvalidWord : PySem.W.kitOne K (.ref C_InvalidWishes) (.ref C_InvalidWord) = some false)
    (kx_InvalidWishes_LookupError : PySem.W.kitOne K (.ref C_InvalidWishes) (.type "LookupError") = some false)
    (kx_InvalidWishes_NotLot : PySem.W.kitOne K (.ref C_InvalidWishes) (.ref C_NotLot) = some false)
    (kx_InvalidWishes_NotPossible : PySem.W.kitOne K (.ref C_InvalidWishes) (.ref C_NotPossible) = some false)
    (kx_InvalidWishes_NotTriangular : PySem.W.kitOne K (.ref C_InvalidWishes) (.ref C_NotTriangular) = some false)
    (kx_InvalidWishes_NothingToUndo : PySem.W.kitOne K (.ref C_InvalidWishes) (.ref C_NothingToUndo) = some false)
    (kx_InvalidWishes_OtherSize : PySem.W.kitOne K (.ref C_InvalidWishes) (.ref C_OtherSize) = some false)
    (kx_InvalidWishes_TooMany : PySem.W.kitOne K (.ref C_InvalidWishes) (.ref C_TooMany) = some false)
    (kx_InvalidWishes_UnknownName : PySem.W.kitOne K (.ref C_InvalidWishes) (.ref C_UnknownName) = some false)
    (kx_InvalidWishes_ValueError : PySem.W.kitOne K (.ref C_InvalidWishes) (.type "ValueError") = some true)
    (kx_InvalidWishes_WrongName : PySem.W.kitOne K (.ref C_InvalidWishes) (.ref C_WrongName) = some false)
    (kx_InvalidWishes_WrongValue : PySem.W.kitOne K (.ref C_InvalidWishes) (.ref C_WrongValue) = some true)
    (ox_UnknownName : ∃ nm q N bs bm sn sub ab col dd k0 k1 k2 k3 k5, K.lookup C_UnknownName = some (excClassObj nm q C_UnknownName N bs bm true sn sub ab col dd k0 k1 k2 k3 k5 "LookupError.__new__") ∧ M.refsT (M.Fam.tail .le) bm = true)
    (sa_UnknownName : PySem.W.findIn K (.ref C_UnknownName) "__setattr__" = some (some (.builtin "object.__setattr__")))
    (xb_UnknownName : PySem.W.subIn K (.ref C_UnknownName) (.type "BaseException") = some true)
    (ty_UnknownName : PySem.W.typeIn K (.ref C_UnknownName) = some (.type "type"))
    (kC_UnknownName : PySem.W.keepIn K (.ref C_UnknownName) = true)
    (no_UnknownName : PySem.W.findIn K (.ref C_UnknownName) "given" = some none)
    (in_UnknownName : PySem.W.findIn K (.ref C_UnknownName) "__init__" = some (some (.ref ix_UnknownName)))
    (it_UnknownName : PySem.W.typeIn K (.ref ix_UnknownName) = some (.type "function"))
    (lx_UnknownName : K.lookup ix_UnknownName = some ⟨oc_UnknownName, od_UnknownName, .func (PySem.W.fnOf "__init__" "UnknownName.__init__" (defArgs sx_UnknownName) (defBody sx_UnknownName) (defScope sx_UnknownName) .none kV_UnknownName dc_UnknownName pm_UnknownName an_UnknownName cd_UnknownName ct_UnknownName), sl_UnknownName⟩)
    (cx_UnknownName : PySem.W.codeIn K cd_UnknownName "UnknownName.__init__" = true)
    (ki_UnknownName : PySem.W.keepIn K (.ref ix_UnknownName) = true)
    (xg_UnknownName : PySem.W.findIn K (.ref C_UnknownName) "__getattribute__" = some (some (.builtin "BaseException.__getattribute__")))
    (xh_UnknownName : PySem.W.findIn K (.ref C_UnknownName) "__getattr__" = some none)
    (xd_UnknownName : PySem.W.hasDictIn K C_UnknownName = true)
    (xa_UnknownName : PySem.W.findIn K (.ref C_UnknownName) "__class__" = some (some (.builtin "object.__class__")))
    (xm_UnknownName : PySem.W.mroIn K C_UnknownName (.type "object") = some true)
    (kx_UnknownName_ArithmeticError : PySem.W.kitOne K (.ref C_UnknownName) (.type "ArithmeticError") = some false)
    (kx_UnknownName_Broken : PySem.W.kitOne K (.ref C_UnknownName) (.ref C_Broken) = some false)
    (kx_UnknownName_InUse : PySem.W.kitOne K (.ref C_UnknownName) (.ref C_InUse) = some false)
    (kx_UnknownName_InvalidChanges : PySem.W.kitOne K (.ref C_UnknownName) (.ref C_InvalidChanges) = some false)
    (kx_UnknownName_InvalidColumns : PySem.W.kitOne K (.ref C_UnknownName) (.ref C_InvalidColumns) = some false)
    (kx_UnknownName_InvalidIndex : PySem.W.kitOne K (.ref C_UnknownName) (.ref C_InvalidIndex) = some false)
    (kx_UnknownName_InvalidName : PySem.W.kitOne K (.ref C_UnknownName) (.ref C_InvalidName) = some false)
    (kx_UnknownName_InvalidSize : PySem.W.kitOne K (.ref C_UnknownName) (.ref C_InvalidSize) = some false)
    (kx_UnknownName_InvalidTable : PySem.W.kitOne K (.ref C_UnknownName) (.ref C_InvalidTable) = some false)
    (kx_UnknownName_InvalidTables : PySem.W.kitOne K (.ref C_UnknownName) (.ref C_InvalidTables) = some false)
    (kx_UnknownName_InvalidText : PySem.W.kitOne K (.ref C_UnknownName) (.ref C_InvalidText) = some false)
    (kx_UnknownName_InvalidView : PySem.W.kitOne K (.ref C_UnknownName) (.ref C_InvalidView) = some false)
    (kx_UnknownName_InvalidWish : PySem.W.kitOne K (.ref C_UnknownName) (.ref C_InvalidWish) = some false)
    (kx_UnknownName_InvalidWishes : PySem.W.kitOne K (.ref C_UnknownName) (.ref C_InvalidWishes) = some false)
    (kx_UnknownName_InvalidWord : PySem.W.kitOne K (.ref C_UnknownName) (.ref C_InvalidWord) = some false)
    (kx_UnknownName_LookupError : PySem.W.kitOne K (.ref C_UnknownName) (.type "LookupError") = some true)
    (kx_UnknownName_NotLot : PySem.W.kitOne K (.ref C_UnknownName) (.ref C_NotLot) = some false)
    (kx_UnknownName_NotPossible : PySem.W.kitOne K (.ref C_UnknownName) (.ref C_NotPossible) = some false)
    (kx_UnknownName_NotTriangular : PySem.W.kitOne K (.ref C_UnknownName) (.ref C_NotTriangular) = some false)
    (kx_UnknownName_NothingToUndo : PySem.W.kitOne K (.ref C_UnknownName) (.ref C_NothingToUndo) = some false)
    (kx_UnknownName_OtherSize : PySem.W.kitOne K (.ref C_UnknownName) (.ref C_OtherSize) = some false)
    (kx_UnknownName_TooMany : PySem.W.kitOne K (.ref C_UnknownName) (.ref C_TooMany) = some false)
    (kx_UnknownName_UnknownName : PySem.W.kitOne K (.ref C_UnknownName) (.ref C_UnknownName) = some true)
    (kx_UnknownName_ValueError : PySem.W.kitOne K (.ref C_UnknownName) (.type "ValueError") = some false)
    (kx_UnknownName_WrongName : PySem.W.kitOne K (.ref C_UnknownName) (.ref C_WrongName) = some true)
    (kx_UnknownName_WrongValue : PySem.W.kitOne K (.ref C_UnknownName) (.ref C_WrongValue) = some false)
    (ox_InUse : ∃ nm q N bs bm sn sub ab col dd k0 k1 k2 k3 k5, K.lookup C_InUse = some (excClassObj nm q C_InUse N bs bm true sn sub ab col dd k0 k1 k2 k3 k5 "LookupError.__new__") ∧ M.refsT (M.Fam.tail .le) bm = true)
    (sa_InUse : PySem.W.findIn K (.ref C_InUse) "__setattr__" = some (some (.builtin "object.__setattr__")))
    (xb_InUse : PySem.W.subIn K (.ref C_InUse) (.type "BaseException") = some true)
    (ty_InUse : PySem.W.typeIn K (.ref C_InUse) = some (.type "type"))
    (kC_InUse : PySem.W.keepIn K (.ref C_InUse) = true)
    (no_InUse : PySem.W.findIn K (.ref C_InUse) "index" = some none)
    (in_InUse : PySem.W.findIn K (.ref C_InUse) "__init__" = some (some (.ref ix_InUse)))
    (it_InUse : PySem.W.typeIn K (.ref ix_InUse) = some (.type "function"))
    (lx_InUse : K.lookup ix_InUse = some ⟨oc_InUse, od_InUse, .func (PySem.W.fnOf "__init__" "InUse.__init__" (defArgs sx_InUse) (defBody sx_InUse) (defScope sx_InUse) .none kV_InUse dc_InUse pm_InUse an_InUse cd_InUse ct_InUse), sl_InUse⟩)
    (cx_InUse : PySem.W.codeIn K cd_InUse "InUse.__init__" = true)
    (ki_InUse : PySem.W.keepIn K (.ref ix_InUse) = true)
    (xg_InUse : PySem.W.findIn K (.ref C_InUse) "__getattribute__" = some (some (.builtin "BaseException.__getattribute__")))
    (xh_InUse : PySem.W.findIn K (.ref C_InUse) "__getattr__" = some none)
    (xd_InUse : PySem.W.hasDictIn K C_InUse = true)
    (xa_InUse : PySem.W.findIn K (.ref C_InUse) "__class__" = some (some (.builtin "object.__class__")))
    (xm_InUse : PySem.W.mroIn K C_InUse (.type "object") = some true)
    (kx_InUse_ArithmeticError : PySem.W.kitOne K (.ref C_InUse) (.type "ArithmeticError") = some false)
    (kx_InUse_Broken : PySem.W.kitOne K (.ref C_InUse) (.ref C_Broken) = some false)
    (kx_InUse_InUse : PySem.W.kitOne K (.ref C_InUse) (.ref C_InUse) = some true)
    (kx_InUse_InvalidChanges : PySem.W.kitOne K (.ref C_InUse) (.ref C_InvalidChanges) = some false)
    (kx_InUse_InvalidColumns : PySem.W.kitOne K (.ref C_InUse) (.ref C_InvalidColumns) = some false)
    (kx_InUse_InvalidIndex : PySem.W.kitOne K (.ref C_InUse) (.ref C_InvalidIndex) = some false)
    (kx_InUse_InvalidName : PySem.W.kitOne K (.ref C_InUse) (.ref C_InvalidName) = some false)
    (kx_InUse_InvalidSize : PySem.W.kitOne K (.ref C_InUse) (.ref C_InvalidSize) = some false)
    (kx_InUse_InvalidTable : PySem.W.kitOne K (.ref C_InUse) (.ref C_InvalidTable) = some false)
    (kx_InUse_InvalidTables : PySem.W.kitOne K (.ref C_InUse) (.ref C_InvalidTables) = some false)
    (kx_InUse_InvalidText : PySem.W.kitOne K (.ref C_InUse) (.ref C_InvalidText) = some false)
    (kx_InUse_InvalidView : PySem.W.kitOne K (.ref C_InUse) (.ref C_InvalidView) = some false)
    (kx_InUse_InvalidWish : PySem.W.kitOne K (.ref C_InUse) (.ref C_InvalidWish) = some false)
    (kx_InUse_InvalidWishes : PySem.W.kitOne K (.ref C_InUse) (.ref C_InvalidWishes) = some false)
    (kx_InUse_InvalidWord : PySem.W.kitOne K (.ref C_InUse) (.ref C_InvalidWord) = some false)
    (kx_InUse_LookupError : PySem.W.kitOne K (.ref C_InUse) (.type "LookupError") = some true)
    (kx_InUse_NotLot : PySem.W.kitOne K (.ref C_InUse) (.ref C_NotLot) = some false)
    (kx_InUse_NotPossible : PySem.W.kitOne K (.ref C_InUse) (.ref C_NotPossible) = some false)
    (kx_InUse_NotTriangular : PySem.W.kitOne K (.ref C_InUse) (.ref C_NotTriangular) = some false)
    (kx_InUse_NothingToUndo : PySem.W.kitOne K (.ref C_InUse) (.ref C_NothingToUndo) = some false)
    (kx_InUse_OtherSize : PySem.W.kitOne K (.ref C_InUse) (.ref C_OtherSize) = some false)
    (kx_InUse_TooMany : PySem.W.kitOne K (.ref C_InUse) (.ref C_TooMany) = some false)
    (kx_InUse_UnknownName : PySem.W.kitOne K (.ref C_InUse) (.ref C_UnknownName) = some false)
    (kx_InUse_ValueError : PySem.W.kitOne K (.ref C_InUse) (.type "ValueError") = some false)
    (kx_InUse_WrongName : PySem.W.kitOne K (.ref C_InUse) (.ref C_WrongName) = some true)
    (kx_InUse_WrongValue : PySem.W.kitOne K (.ref C_InUse) (.ref C_WrongValue) = some false)
    (ox_NotTriangular : ∃ nm q N bs bm sn sub ab col dd k0 k1 k2 k3 k5, K.lookup C_NotTriangular = some (excClassObj nm q C_NotTriangular N bs bm true sn sub ab col dd k0 k1 k2 k3 k5 "ArithmeticError.__new__") ∧ M.refsT (M.Fam.tail .ae) bm = true)
    (sa_NotTriangular : PySem.W.findIn K (.ref C_NotTriangular) "__setattr__" = some (some (.builtin "object.__setattr__")))
    (xb_NotTriangular : PySem.W.subIn K (.ref C_NotTriangular) (.type "BaseException") = some true)
    (ty_NotTriangular : PySem.W.typeIn K (.ref C_NotTriangular) = some (.type "type"))
    (kC_NotTriangular : PySem.W.keepIn K (.ref C_NotTriangular) = true)
    (no_NotTriangular : PySem.W.findIn K (.ref C_NotTriangular) "given" = some none)
    (in_NotTriangular : PySem.W.findIn K (.ref C_NotTriangular) "__init__" = some (some (.ref ix_NotTriangular)))
    (it_NotTriangular : PySem.W.typeIn K (.ref ix_NotTriangular) = some (.type "function"))
    (lx_NotTriangular : K.lookup ix_NotTriangular = some ⟨oc_NotTriangular, od_NotTriangular, .func (PySem.W.fnOf "__init__" "NotTriangular.__init__" (defArgs sx_NotTriangular) (defBody sx_NotTriangular) (defScope sx_NotTriangular) .none kV_NotTriangular dc_NotTriangular pm_NotTriangular an_NotTriangular cd_NotTriangular ct_NotTriangular), sl_NotTriangular⟩)
    (cx_NotTriangular : PySem.W.codeIn K cd_NotTriangular "NotTriangular.__init__" = true)
    (ki_NotTriangular : PySem.W.keepIn K (.ref ix_NotTriangular) = true)
    (xg_NotTriangular : PySem.W.findIn K (.ref C_NotTriangular) "__getattribute__" = some (some (.builtin "BaseException.__getattribute__")))
    (xh_NotTriangular : PySem.W.findIn K (.ref C_NotTriangular) "__getattr__" = some none)
    (xd_NotTriangular : PySem.W.hasDictIn K C_NotTriangular = true)
    (xa_NotTriangular : PySem.W.findIn K (.ref C_NotTriangular) "__class__" = some (some (.builtin "object.__class__")))
    (xm_NotTriangular : PySem.W.mroIn K C_NotTriangular (.type "object") = some true)
    (kx_NotTriangular_ArithmeticError : PySem.W.kitOne K (.ref C_NotTriangular) (.type "ArithmeticError") = some true)
    (kx_NotTriangular_Broken : PySem.W.kitOne K (.ref C_NotTriangular) (.ref C_Broken) = some false)
    (kx_NotTriangular_InUse : PySem.W.kitOne K (.ref C_NotTriangular) (.ref C_InUse) = some false)
    (kx_NotTriangular_InvalidChanges : PySem.W.kitOne K (.ref C_NotTriangular) (.ref C_InvalidChanges) = some false)
    (kx_NotTriangular_InvalidColumns : PySem.W.kitOne K (.ref C_NotTriangular) (.ref C_InvalidColumns) = some false)
    (kx_NotTriangular_InvalidIndex : PySem.W.kitOne K (.ref C_NotTriangular) (.ref C_InvalidIndex) = some false)
    (kx_NotTriangular_InvalidName : PySem.W.kitOne K (.ref C_NotTriangular) (.ref C_InvalidName) = some false)
    (kx_NotTriangular_InvalidSize : PySem.W.kitOne K (.ref C_NotTriangular) (.ref C_InvalidSize) = some false)
    (kx_NotTriangular_InvalidTable : PySem.W.kitOne K (.ref C_NotTriangular) (.ref C_InvalidTable) = some false)
    (kx_NotTriangular_InvalidTables : PySem.W.kitOne K (.ref C_NotTriangular) (.ref C_InvalidTables) = some false)
    (kx_NotTriangular_InvalidText : PySem.W.kitOne K (.ref C_NotTriangular) (.ref C_InvalidText) = some false)
    (kx_NotTriangular_InvalidView : PySem.W.kitOne K (.ref C_NotTriangular) (.ref C_InvalidView) = some false)
    (kx_NotTriangular_InvalidWish : PySem.W.kitOne K (.ref C_NotTriangular) (.ref C_InvalidWish) = some false)
    (kx_NotTriangular_InvalidWishes : PySem.W.kitOne K (.ref C_NotTriangular) (.ref C_InvalidWishes) = some false)
    (kx_NotTriangular_InvalidWord : PySem.W.kitOne K (.ref C_NotTriangular) (.ref C_InvalidWord) = some false)
    (kx_NotTriangular_LookupError : PySem.W.kitOne K (.ref C_NotTriangular) (.type "LookupError") = some false)
    (kx_NotTriangular_NotLot : PySem.W.kitOne K (.ref C_NotTriangular) (.ref C_NotLot) = some false)
    (kx_NotTriangular_NotPossible : PySem.W.kitOne K (.ref C_NotTriangular) (.ref C_NotPossible) = some true)
    (kx_NotTriangular_NotTriangular : PySem.W.kitOne K (.ref C_NotTriangular) (.ref C_NotTriangular) = some true)
    (kx_NotTriangular_NothingToUndo : PySem.W.kitOne K (.ref C_NotTriangular) (.ref C_NothingToUndo) = some false)
    (kx_NotTriangular_OtherSize : PySem.W.kitOne K (.ref C_NotTriangular) (.ref C_OtherSize) = some false)
    (kx_NotTriangular_TooMany : PySem.W.kitOne K (.ref C_NotTriangular) (.ref C_TooMany) = some false)
    (kx_NotTriangular_UnknownName : PySem.W.kitOne K (.ref C_NotTriangular) (.ref C_UnknownName) = some false)
    (kx_NotTriangular_ValueError : PySem.W.kitOne K (.ref C_NotTriangular) (.type "ValueError") = some false)
    (kx_NotTriangular_WrongName : PySem.W.kitOne K (.ref C_NotTriangular) (.ref C_WrongName) = some false)
    (kx_NotTriangular_WrongValue : PySem.W.kitOne K (.ref C_NotTriangular) (.ref C_WrongValue) = some false)
    (ox_OtherSize : ∃ nm q N bs bm sn sub ab col dd k0 k1 k2 k3 k5, K.lookup C_OtherSize = some (excClassObj nm q C_OtherSize N bs bm true sn sub ab col dd k0 k1 k2 k3 k5 "ArithmeticError.__new__") ∧ M.refsT (M.Fam.tail .ae) bm = true)
    (sa_OtherSize : PySem.W.findIn K (.ref C_OtherSize) "__setattr__" = some (some (.builtin "object.__setattr__")))
    (xb_OtherSize : PySem.W.subIn K (.ref C_OtherSize) (.type "BaseException") = some true)
    (ty_OtherSize : PySem.W.typeIn K (.ref C_OtherSize) = some (.type "type"))
    (kC_OtherSize : PySem.W.keepIn K (.ref C_OtherSize) = true)
    (no_OtherSize : PySem.W.findIn K (.ref C_OtherSize) "given" = some none)
    (in_OtherSize : PySem.W.findIn K (.ref C_OtherSize) "__init__" = some (some (.ref ix_OtherSize)))
    (it_OtherSize : PySem.W.typeIn K (.ref ix_OtherSize) = some (.type "function"))
    (lx_OtherSize : K.lookup ix_OtherSize = some ⟨oc_OtherSize, od_OtherSize, .func (PySem.W.fnOf "__init__" "OtherSize.__init__" (defArgs sx_OtherSize) (defBody sx_OtherSize) (defScope sx_OtherSize) .none kV_OtherSize dc_OtherSize pm_OtherSize an_OtherSize cd_OtherSize ct_OtherSize), sl_OtherSize⟩)
    (cx_OtherSize : PySem.W.codeIn K cd_OtherSize "OtherSize.__init__" = true)
    (ki_OtherSize : PySem.W.keepIn K (.ref ix_OtherSize) = true)
    (xg_OtherSize : PySem.W.findIn K (.ref C_OtherSize) "__getattribute__" = some (some (.builtin "BaseException.__getattribute__")))
    (xh_OtherSize : PySem.W.findIn K (.ref C_OtherSize) "__getattr__" = some none)
    (xd_OtherSize : PySem.W.hasDictIn K C_OtherSize = true)
    (xa_OtherSize : PySem.W.findIn K (.ref C_OtherSize) "__class__" = some (some (.builtin "object.__class__")))
    (xm_OtherSize : PySem.W.mroIn K C_OtherSize (.type "object") = some true)
    (kx_OtherSize_ArithmeticError : PySem.W.kitOne K (.ref C_OtherSize) (.type "ArithmeticError") = some true)
    (kx_OtherSize_Broken : PySem.W.kitOne K (.ref C_OtherSize) (.ref C_Broken) = some false)
    (kx_OtherSize_InUse : PySem.W.kitOne K (.ref C_OtherSize) (.ref C_InUse) = some false)
    (kx_OtherSize_InvalidChanges : PySem.W.kitOne K (.ref C_OtherSize) (.ref C_InvalidChanges) = some false)
    (kx_OtherSize_InvalidColumns : PySem.W.kitOne K (.ref C_OtherSize) (.ref C_InvalidColumns) = some false)
    (kx_OtherSize_InvalidIndex : PySem.W.kitOne K (.ref C_OtherSize) (.ref C_InvalidIndex) = some false)
    (kx_OtherSize_InvalidName : PySem.W.kitOne K (.ref C_OtherSize) (.ref C_InvalidName) = some false)
    (kx_OtherSize_InvalidSize : PySem.W.kitOne K (.ref C_OtherSize) (.ref C_InvalidSize) = some false)
    (kx_OtherSize_InvalidTable : PySem.W.kitOne K (.ref C_OtherSize) (.ref C_InvalidTable) = some false)
    (kx_OtherSize_InvalidTables : PySem.W.kitOne K (.ref C_OtherSize) (.ref C_InvalidTables) = some false)
    (kx_OtherSize_InvalidText : PySem.W.kitOne K (.ref C_OtherSize) (.ref C_InvalidText) = some false)
    (kx_OtherSize_InvalidView : PySem.W.kitOne K (.ref C_OtherSize) (.ref C_InvalidView) = some false)
    (kx_OtherSize_InvalidWish : PySem.W.kitOne K (.ref C_OtherSize) (.ref C_InvalidWish) = some false)
    (kx_OtherSize_InvalidWishes : PySem.W.kitOne K (.ref C_OtherSize) (.ref C_InvalidWishes) = some false)
    (kx_OtherSize_InvalidWord : PySem.W.kitOne K (.ref C_OtherSize) (.ref C_InvalidWord) = some false)
    (kx_OtherSize_LookupError : PySem.W.kitOne K (.ref C_OtherSize) (.type "LookupError") = some false)
    (kx_OtherSize_NotLot : PySem.W.kitOne K (.ref C_OtherSize) (.ref C_NotLot) = some false)
    (kx_OtherSize_NotPossible : PySem.W.kitOne K (.ref C_OtherSize) (.ref C_NotPossible) = some true)
    (kx_OtherSize_NotTriangular : PySem.W.kitOne K (.ref C_OtherSize) (.ref C_NotTriangular) = some false)
    (kx_OtherSize_NothingToUndo : PySem.W.kitOne K (.ref C_OtherSize) (.ref C_NothingToUndo) = some false)
    (kx_OtherSize_OtherSize : PySem.W.kitOne K (.ref C_OtherSize) (.ref C_OtherSize) = some true)
    (kx_OtherSize_TooMany : PySem.W.kitOne K (.ref C_OtherSize) (.ref C_TooMany) = some false)
    (kx_OtherSize_UnknownName : PySem.W.kitOne K (.ref C_OtherSize) (.ref C_UnknownName) = some false)
    (kx_OtherSize_ValueError : PySem.W.kitOne K (.ref C_OtherSize) (.type "ValueError") = some false)
    (kx_OtherSize_WrongName : PySem.W.kitOne K (.ref C_OtherSize) (.ref C_WrongName) = some false)
    (kx_OtherSize_WrongValue : PySem.W.kitOne K (.ref C_OtherSize) (.ref C_WrongValue) = some false)
    (ox_TooMany : ∃ nm q N bs bm sn sub ab col dd k0 k1 k2 k3 k5, K.lookup C_TooMany = some (excClassObj nm q C_TooMany N bs bm true sn sub ab col dd k0 k1 k2 k3 k5 "ArithmeticError.__new__") ∧ M.refsT (M.Fam.tail .ae) bm = true)
    (sa_TooMany : PySem.W.findIn K (.ref C_TooMany) "__setattr__" = some (some (.builtin "object.__setattr__")))
    (xb_TooMany : PySem.W.subIn K (.ref C_TooMany) (.type "BaseException") = some true)
    (ty_TooMany : PySem.W.typeIn K (.ref C_TooMany) = some (.type "type"))
    (kC_TooMany : PySem.W.keepIn K (.ref C_TooMany) = true)
    (no_TooMany : PySem.W.findIn K (.ref C_TooMany) "given" = some none)
    (in_TooMany : PySem.W.findIn K (.ref C_TooMany) "__init__" = some (some (.ref ix_TooMany)))
    (it_TooMany : PySem.W.typeIn K (.ref ix_TooMany) = some (.type "function"))
    (lx_TooMany : K.lookup ix_TooMany = some ⟨oc_TooMany, od_TooMany, .func (PySem.W.fnOf "__init__" "TooMany.__init__" (defArgs sx_TooMany) (defBody sx_TooMany) (defScope sx_TooMany) .none kV_TooMany dc_TooMany pm_TooMany an_TooMany cd_TooMany ct_TooMany), sl_TooMany⟩)
    (cx_TooMany : PySem.W.codeIn K cd_TooMany "TooMany.__init__" = true)
    (ki_TooMany : PySem.W.keepIn K (.ref ix_TooMany) = true)
    (xg_TooMany : PySem.W.findIn K (.ref C_TooMany) "__getattribute__" = some (some (.builtin "BaseException.__getattribute__")))
    (xh_TooMany : PySem.W.findIn K (.ref C_TooMany) "__getattr__" = some none)
    (xd_TooMany : PySem.W.hasDictIn K C_TooMany = true)
    (xa_TooMany : PySem.W.findIn K (.ref C_TooMany) "__class__" = some (some (.builtin "object.__class__")))
    (xm_TooMany : PySem.W.mroIn K C_TooMany (.type "object") = some true)
    (kx_TooMany_ArithmeticError : PySem.W.kitOne K (.ref C_TooMany) (.type "ArithmeticError") = some true)
    (kx_TooMany_Broken : PySem.W.kitOne K (.ref C_TooMany) (.ref C_Broken) = some false)
    (kx_TooMany_InUse : PySem.W.kitOne K (.ref C_TooMany) (.ref C_InUse) = some false)
    (kx_TooMany_InvalidChanges : PySem.W.kitOne K (.ref C_TooMany) (.ref C_InvalidChanges) = some false)
    (kx_TooMany_InvalidColumns : PySem.W.kitOne K (.ref C_TooMany) (.ref C_InvalidColumns) = some false)
    (kx_TooMany_InvalidIndex : PySem.W.kitOne K (.ref C_TooMany) (.ref C_InvalidIndex) = some false)
    (kx_TooMany_InvalidName : PySem.W.kitOne K (.ref C_TooMany) (.ref C_InvalidName) = some false)
    (kx_TooMany_InvalidSize : PySem.W.kitOne K (.ref C_TooMany) (.ref C_InvalidSize) = some false)
    (kx_TooMany_InvalidTable : PySem.W.kitOne K (.ref C_TooMany) (.ref C_InvalidTable) = some false)
    (kx_TooMany_InvalidTables : PySem.W.kitOne K (.ref C_TooMany) (.ref C_InvalidTables) = some false)
    (kx_TooMany_InvalidText : PySem.W.kitOne K (.ref C_TooMany) (.ref C_InvalidText) = some false)
    (kx_TooMany_InvalidView : PySem.W.kitOne K (.ref C_TooMany) (.ref C_InvalidView) = some false)
    (kx_TooMany_InvalidWish : PySem.W.kitOne K (.ref C_TooMany) (.ref C_InvalidWish) = some false)
    (kx_TooMany_InvalidWishes : PySem.W.kitOne K (.ref C_TooMany) (.ref C_InvalidWishes) = some false)
    (kx_TooMany_InvalidWord : PySem.W.kitOne K (.ref C_TooMany) (.ref C_InvalidWord) = some false)
    (kx_TooMany_LookupError : PySem.W.kitOne K (.ref C_TooMany) (.type "LookupError") = some false)
    (kx_TooMany_NotLot : PySem.W.kitOne K (.ref C_TooMany) (.ref C_NotLot) = some false)
    (kx_TooMany_NotPossible : PySem.W.kitOne K (.ref C_TooMany) (.ref C_NotPossible) = some true)
    (kx_TooMany_NotTriangular : PySem.W.kitOne K (.ref C_TooMany) (.ref C_NotTriangular) = some false)
    (kx_TooMany_NothingToUndo : PySem.W.kitOne K (.ref C_TooMany) (.ref C_NothingToUndo) = some false)
    (kx_TooMany_OtherSize : PySem.W.kitOne K (.ref C_TooMany) (.ref C_OtherSize) = some false)
    (kx_TooMany_TooMany : PySem.W.kitOne K (.ref C_TooMany) (.ref C_TooMany) = some true)
    (kx_TooMany_UnknownName : PySem.W.kitOne K (.ref C_TooMany) (.ref C_UnknownName) = some false)
    (kx_TooMany_ValueError : PySem.W.kitOne K (.ref C_TooMany) (.type "ValueError") = some false)
    (kx_TooMany_WrongName : PySem.W.kitOne K (.ref C_TooMany) (.ref C_WrongName) = some false)
    (kx_TooMany_WrongValue : PySem.W.kitOne K (.ref C_TooMany) (.ref C_WrongValue) = some false)
    (xe_NothingToUndo : PySem.W.excIn K C_NothingToUndo (M.Fam.tail .ae) (M.Fam.new .ae) = true)
    (xb_NothingToUndo : PySem.W.subIn K (.ref C_NothingToUndo) (.type "BaseException") = some true)
    (ty_NothingToUndo : PySem.W.typeIn K (.ref C_NothingToUndo) = some (.type "type"))
    (kC_NothingToUndo : PySem.W.keepIn K (.ref C_NothingToUndo) = true)
    (xg_NothingToUndo : PySem.W.findIn K (.ref C_NothingToUndo) "__getattribute__" = some (some (.builtin "BaseException.__getattribute__")))
    (xh_NothingToUndo : PySem.W.findIn K (.ref C_NothingToUndo) "__getattr__" = some none)
    (xd_NothingToUndo : PySem.W.hasDictIn K C_NothingToUndo = true)
    (xa_NothingToUndo : PySem.W.findIn K (.ref C_NothingToUndo) "__class__" = some (some (.builtin "object.__class__")))
    (xm_NothingToUndo : PySem.W.mroIn K C_NothingToUndo (.type "object") = some true)
    (kx_NothingToUndo_ArithmeticError : PySem.W.kitOne K (.ref C_NothingToUndo) (.type "ArithmeticError") = some true)
    (kx_NothingToUndo_Broken : PySem.W.kitOne K (.ref C_NothingToUndo) (.ref C_Broken) = some false)
    (kx_NothingToUndo_InUse : PySem.W.kitOne K (.ref C_NothingToUndo) (.ref C_InUse) = some false)
    (kx_NothingToUndo_InvalidChanges : PySem.W.kitOne K (.ref C_NothingToUndo) (.ref C_InvalidChanges) = some false)
    (kx_NothingToUndo_InvalidColumns : PySem.W.kitOne K (.ref C_NothingToUndo) (.ref C_InvalidColumns) = some false)
    (kx_NothingToUndo_InvalidIndex : PySem.W.kitOne K (.ref C_NothingToUndo) (.ref C_InvalidIndex) = some false)
    (kx_NothingToUndo_InvalidName : PySem.W.kitOne K (.ref C_NothingToUndo) (.ref C_InvalidName) = some false)
    (kx_NothingToUndo_InvalidSize : PySem.W.kitOne K (.ref C_NothingToUndo) (.ref C_InvalidSize) = some false)
    (kx_NothingToUndo_InvalidTable : PySem.W.kitOne K (.ref C_NothingToUndo) (.ref C_InvalidTable) = some false)
    (kx_NothingToUndo_InvalidTables : PySem.W.kitOne K (.ref C_NothingToUndo) (.ref C_InvalidTables) = some false)
    (kx_NothingToUndo_InvalidText : PySem.W.kitOne K (.ref C_NothingToUndo) (.ref C_InvalidText) = some false)
    (kx_NothingToUndo_InvalidView : PySem.W.kitOne K (.ref C_NothingToUndo) (.ref C_InvalidView) = some false)
    (kx_NothingToUndo_InvalidWish : PySem.W.kitOne K (.ref C_NothingToUndo) (.ref C_InvalidWish) = some false)
    (kx_NothingToUndo_InvalidWishes : PySem.W.kitOne K (.ref C_NothingToUndo) (.ref C_InvalidWishes) = some false)
    (kx_NothingToUndo_InvalidWord : PySem.W.kitOne K (.ref C_NothingToUndo) (.ref C_InvalidWord) = some false)
    (kx_NothingToUndo_LookupError : PySem.W.kitOne K (.ref C_NothingToUndo) (.type "LookupError") = some false)
    (kx_NothingToUndo_NotLot : PySem.W.kitOne K (.ref C_NothingToUndo) (.ref C_NotLot) = some false)
    (kx_NothingToUndo_NotPossible : PySem.W.kitOne K (.ref C_NothingToUndo) (.ref C_NotPossible) = some true)
    (kx_NothingToUndo_NotTriangular : PySem.W.kitOne K (.ref C_NothingToUndo) (.ref C_NotTriangular) = some false)
    (kx_NothingToUndo_NothingToUndo : PySem.W.kitOne K (.ref C_NothingToUndo) (.ref C_NothingToUndo) = some true)
    (kx_NothingToUndo_OtherSize : PySem.W.kitOne K (.ref C_NothingToUndo) (.ref C_OtherSize) = some false)
    (kx_NothingToUndo_TooMany : PySem.W.kitOne K (.ref C_NothingToUndo) (.ref C_TooMany) = some false)
    (kx_NothingToUndo_UnknownName : PySem.W.kitOne K (.ref C_NothingToUndo) (.ref C_UnknownName) = some false)
    (kx_NothingToUndo_ValueError : PySem.W.kitOne K (.ref C_NothingToUndo) (.type "ValueError") = some false)
    (kx_NothingToUndo_WrongName : PySem.W.kitOne K (.ref C_NothingToUndo) (.ref C_WrongName) = some false)
    (kx_NothingToUndo_WrongValue : PySem.W.kitOne K (.ref C_NothingToUndo) (.ref C_WrongValue) = some false)
    (ox_Broken : ∃ nm q N bs bm sn sub ab col dd k0 k1 k2 k3 k5, K.lookup C_Broken = some (excClassObj nm q C_Broken N bs bm true sn sub ab col dd k0 k1 k2 k3 k5 "ArithmeticError.__new__") ∧ M.refsT (M.Fam.tail .ae) bm = true)
    (sa_Broken : PySem.W.findIn K (.ref C_Broken) "__setattr__" = some (some (.builtin "object.__setattr__")))
    (xb_Broken : PySem.W.subIn K (.ref C_Broken) (.type "BaseException") = some true)
    (ty_Broken : PySem.W.typeIn K (.ref C_Broken) = some (.type "type"))
    (kC_Broken : PySem.W.keepIn K (.ref C_Broken) = true)
    (no_Broken : PySem.W.findIn K (.ref C_Broken) "index" = some none)
    (in_Broken : PySem.W.findIn K (.ref C_Broken) "__init__" = some (some (.ref ix_Broken)))
    (it_Broken : PySem.W.typeIn K (.ref ix_Broken) = some (.type "function"))
    (lx_Broken : K.lookup ix_Broken = some ⟨oc_Broken, od_Broken, .func (PySem.W.fnOf "__init__" "Broken.__init__" (defArgs sx_Broken) (defBody sx_Broken) (defScope sx_Broken) .none kV_Broken dc_Broken pm_Broken an_Broken cd_Broken ct_Broken), sl_Broken⟩)
    (cx_Broken : PySem.W.codeIn K cd_Broken "Broken.__init__" = true)
    (ki_Broken : PySem.W.keepIn K (.ref ix_Broken) = true)
    (xg_Broken : PySem.W.findIn K (.ref C_Broken) "__getattribute__" = some (some (.builtin "BaseException.__getattribute__")))
    (xh_Broken : PySem.W.findIn K (.ref C_Broken) "__getattr__" = some none)
    (xd_Broken : PySem.W.hasDictIn K C_Broken = true)
    (xa_Broken : PySem.W.findIn K (.ref C_Broken) "__class__" = some (some (.builtin "object.__class__")))
    (xm_Broken : PySem.W.mroIn K C_Broken (.type "object") = some true)
    (kx_Broken_ArithmeticError : PySem.W.kitOne K (.ref C_Broken) (.type "ArithmeticError") = some true)
    (kx_Broken_Broken : PySem.W.kitOne K (.ref C_Broken) (.ref C_Broken) = some true)
    (kx_Broken_InUse : PySem.W.kitOne K (.ref C_Broken) (.ref C_InUse) = some false)
    (kx_Broken_InvalidChanges : PySem.W.kitOne K (.ref C_Broken) (.ref C_InvalidChanges) = some false)
    (kx_Broken_InvalidColumns : PySem.W.kitOne K (.ref C_Broken) (.ref C_InvalidColumns) = some false)
    (kx_Broken_InvalidIndex : PySem.W.kitOne K (.ref C_Broken) (.ref C_InvalidIndex) = some false)
    (kx_Broken_InvalidName : PySem.W.kitOne K (.ref C_Broken) (.ref C_InvalidName) = some false)
    (kx_Broken_InvalidSize : PySem.W.kitOne K (.ref C_Broken) (.ref C_InvalidSize) = some false)
    (kx_Broken_InvalidTable : PySem.W.kitOne K (.ref C_Broken) (.ref C_InvalidTable) = some false)
    (kx_Broken_InvalidTables : PySem.W.kitOne K (.ref C_Broken) (.ref C_InvalidTables) = some false)
    (kx_Broken_InvalidText : PySem.W.kitOne K (.ref C_Broken) (.ref C_InvalidText) = some false)
    (kx_Broken_InvalidView : PySem.W.kitOne K (.ref C_Broken) (.ref C_InvalidView) = some false)
    (kx_Broken_InvalidWish : PySem.W.kitOne K (.ref C_Broken) (.ref C_InvalidWish) = some false)
    (kx_Broken_InvalidWishes : PySem.W.kitOne K (.ref C_Broken) (.ref C_InvalidWishes) = some false)
    (kx_Broken_InvalidWord : PySem.W.kitOne K (.ref C_Broken) (.ref C_InvalidWord) = some false)
    (kx_Broken_LookupError : PySem.W.kitOne K (.ref C_Broken) (.type "LookupError") = some false)
    (kx_Broken_NotLot : PySem.W.kitOne K (.ref C_Broken) (.ref C_NotLot) = some false)
    (kx_Broken_NotPossible : PySem.W.kitOne K (.ref C_Broken) (.ref C_NotPossible) = some true)
    (kx_Broken_NotTriangular : PySem.W.kitOne K (.ref C_Broken) (.ref C_NotTriangular) = some false)
    (kx_Broken_NothingToUndo : PySem.W.kitOne K (.ref C_Broken) (.ref C_NothingToUndo) = some false)
    (kx_Broken_OtherSize : PySem.W.kitOne K (.ref C_Broken) (.ref C_OtherSize) = some false)
    (kx_Broken_TooMany : PySem.W.kitOne K (.ref C_Broken) (.ref C_TooMany) = some false)
    (kx_Broken_UnknownName : PySem.W.kitOne K (.ref C_Broken) (.ref C_UnknownName) = some false)
    (kx_Broken_ValueError : PySem.W.kitOne K (.ref C_Broken) (.type "ValueError") = some false)
    (kx_Broken_WrongName : PySem.W.kitOne K (.ref C_Broken) (.ref C_WrongName) = some false)
    (kx_Broken_WrongValue : PySem.W.kitOne K (.ref C_Broken) (.ref C_WrongValue) = some false)
    (xe_WrongValue : PySem.W.excIn K C_WrongValue (M.Fam.tail .ve) (M.Fam.new .ve) = true)
    (xb_WrongValue : PySem.W.subIn K (.ref C_WrongValue) (.type "BaseException") = some true)
    (ty_WrongValue : PySem.W.typeIn K (.ref C_WrongValue) = some (.type "type"))
    (kC_WrongValue : PySem.W.keepIn K (.ref C_WrongValue) = true)
    (xg_WrongValue : PySem.W.findIn K (.ref C_WrongValue) "__getattribute__" = some (some (.builtin "BaseException.__getattribute__")))
    (xh_WrongValue : PySem.W.findIn K (.ref C_WrongValue) "__getattr__" = some none)
    (xd_WrongValue : PySem.W.hasDictIn K C_WrongValue = true)
    (xa_WrongValue : PySem.W.findIn K (.ref C_WrongValue) "__class__" = some (some (.builtin "object.__class__")))
    (xm_WrongValue : PySem.W.mroIn K C_WrongValue (.type "object") = some true)
    (kx_WrongValue_ArithmeticError : PySem.W.kitOne K (.ref C_WrongValue) (.type "ArithmeticError") = some false)
    (kx_WrongValue_Broken : PySem.W.kitOne K (.ref C_WrongValue) (.ref C_Broken) = some false)
    (kx_WrongValue_InUse : PySem.W.kitOne K (.ref C_WrongValue) (.ref C_InUse) = some false)
    (kx_WrongValue_InvalidChanges : PySem.W.kitOne K (.ref C_WrongValue) (.ref C_InvalidChanges) = some false)
    (kx_WrongValue_InvalidColumns : PySem.W.kitOne K (.ref C_WrongValue) (.ref C_InvalidColumns) = some false)
    (kx_WrongValue_InvalidIndex : PySem.W.kitOne K (.ref C_WrongValue) (.ref C_InvalidIndex) = some false)
    (kx_WrongValue_InvalidName : PySem.W.kitOne K (.ref C_WrongValue) (.ref C_InvalidName) = some false)
    (kx_WrongValue_InvalidSize : PySem.W.kitOne K (.ref C_WrongValue) (.ref C_InvalidSize) = some false)
    (kx_WrongValue_InvalidTable : PySem.W.kitOne K (.ref C_WrongValue) (.ref C_InvalidTable) = some false)
    (kx_WrongValue_InvalidTables : PySem.W.kitOne K (.ref C_WrongValue) (.ref C_InvalidTables) = some false)
    (kx_WrongValue_InvalidText : PySem.W.kitOne K (.ref C_WrongValue) (.ref C_InvalidText) = some false)
    (kx_WrongValue_InvalidView : PySem.W.kitOne K (.ref C_WrongValue) (.ref C_InvalidView) = some false)
    (kx_WrongValue_InvalidWish : PySem.W.kitOne K (.ref C_WrongValue) (.ref C_InvalidWish) = some false)
    (kx_WrongValue_InvalidWishes : PySem.W.kitOne K (.ref C_WrongValue) (.ref C_InvalidWishes) = some false)
    (kx_WrongValue_InvalidWord : PySem.W.kitOne K (.ref C_WrongValue) (.ref C_InvalidWord) = some false)
    (kx_WrongValue_LookupError : PySem.W.kitOne K (.ref C_WrongValue) (.type "LookupError") = some false)
    (kx_WrongValue_NotLot : PySem.W.kitOne K (.ref C_WrongValue) (.ref C_NotLot) = some false)
    (kx_WrongValue_NotPossible : PySem.W.kitOne K (.ref C_WrongValue) (.ref C_NotPossible) = some false)
    (kx_WrongValue_NotTriangular : PySem.W.kitOne K (.ref C_WrongValue) (.ref C_NotTriangular) = some false)
    (kx_WrongValue_NothingToUndo : PySem.W.kitOne K (.ref C_WrongValue) (.ref C_NothingToUndo) = some false)
    (kx_WrongValue_OtherSize : PySem.W.kitOne K (.ref C_WrongValue) (.ref C_OtherSize) = some false)
    (kx_WrongValue_TooMany : PySem.W.kitOne K (.ref C_WrongValue) (.ref C_TooMany) = some false)
    (kx_WrongValue_UnknownName : PySem.W.kitOne K (.ref C_WrongValue) (.ref C_UnknownName) = some false)
    (kx_WrongValue_ValueError : PySem.W.kitOne K (.ref C_WrongValue) (.type "ValueError") = some true)
    (kx_WrongValue_WrongName : PySem.W.kitOne K (.ref C_WrongValue) (.ref C_WrongName) = some false)
    (kx_WrongValue_WrongValue : PySem.W.kitOne K (.ref C_WrongValue) (.ref C_WrongValue) = some true)
    (xe_WrongName : PySem.W.excIn K C_WrongName (M.Fam.tail .le) (M.Fam.new .le) = true)
    (xb_WrongName : PySem.W.subIn K (.ref C_WrongName) (.type "BaseException") = some true)
    (ty_WrongName : PySem.W.typeIn K (.ref C_WrongName) = some (.type "type"))
    (kC_WrongName : PySem.W.keepIn K (.ref C_WrongName) = true)
    (xg_WrongName : PySem.W.findIn K (.ref C_WrongName) "__getattribute__" = some (some (.builtin "BaseException.__getattribute__")))
    (xh_WrongName : PySem.W.findIn K (.ref C_WrongName) "__getattr__" = some none)
    (xd_WrongName : PySem.W.hasDictIn K C_WrongName = true)
    (xa_WrongName : PySem.W.findIn K (.ref C_WrongName) "__class__" = some (some (.builtin "object.__class__")))
    (xm_WrongName : PySem.W.mroIn K C_WrongName (.type "object") = some true)
    (kx_WrongName_ArithmeticError : PySem.W.kitOne K (.ref C_WrongName) (.type "ArithmeticError") = some false)
    (kx_WrongName_Broken : PySem.W.kitOne K (.ref C_WrongName) (.ref C_Broken) = some false)
    (kx_WrongName_InUse : PySem.W.kitOne K (.ref C_WrongName) (.ref C_InUse) = some false)
    (kx_WrongName_InvalidChanges : PySem.W.kitOne K (.ref C_WrongName) (.ref C_InvalidChanges) = some false)
    (kx_WrongName_InvalidColumns : PySem.W.kitOne K (.ref C_WrongName) (.ref C_InvalidColumns) = some false)
    (kx_WrongName_InvalidIndex : PySem.W.kitOne K (.ref C_WrongName) (.ref C_InvalidIndex) = some false)
    (kx_WrongName_InvalidName : PySem.W.kitOne K (.ref C_WrongName) (.ref C_InvalidName) = some false)
    (kx_WrongName_InvalidSize : PySem.W.kitOne K (.ref C_WrongName) (.ref C_InvalidSize) = some false)
    (kx_WrongName_InvalidTable : PySem.W.kitOne K (.ref C_WrongName) (.ref C_InvalidTable) = some false)
    (kx_WrongName_InvalidTables : PySem.W.kitOne K (.ref C_WrongName) (.ref C_InvalidTables) = some false)
    (kx_WrongName_InvalidText : PySem.W.kitOne K (.ref C_WrongName) (.ref C_InvalidText) = some false)
    (kx_WrongName_InvalidView : PySem.W.kitOne K (.ref C_WrongName) (.ref C_InvalidView) = some false)
    (kx_WrongName_InvalidWish : PySem.W.kitOne K (.ref C_WrongName) (.ref C_InvalidWish) = some false)
    (kx_WrongName_InvalidWishes : PySem.W.kitOne K (.ref C_WrongName) (.ref C_InvalidWishes) = some false)
    (kx_WrongName_InvalidWord : PySem.W.kitOne K (.ref C_WrongName) (.ref C_InvalidWord) = some false)
    (kx_WrongName_LookupError : PySem.W.kitOne K (.ref C_WrongName) (.type "LookupError") = some true)
    (kx_WrongName_NotLot : PySem.W.kitOne K (.ref C_WrongName) (.ref C_NotLot) = some false)
    (kx_WrongName_NotPossible : PySem.W.kitOne K (.ref C_WrongName) (.ref C_NotPossible) = some false)
    (kx_WrongName_NotTriangular : PySem.W.kitOne K (.ref C_WrongName) (.ref C_NotTriangular) = some false)
    (kx_WrongName_NothingToUndo : PySem.W.kitOne K (.ref C_WrongName) (.ref C_NothingToUndo) = some false)
    (kx_WrongName_OtherSize : PySem.W.kitOne K (.ref C_WrongName) (.ref C_OtherSize) = some false)
    (kx_WrongName_TooMany : PySem.W.kitOne K (.ref C_WrongName) (.ref C_TooMany) = some false)
    (kx_WrongName_UnknownName : PySem.W.kitOne K (.ref C_WrongName) (.ref C_UnknownName) = some false)
    (kx_WrongName_ValueError : PySem.W.kitOne K (.ref C_WrongName) (.type "ValueError") = some false)
    (kx_WrongName_WrongName : PySem.W.kitOne K (.ref C_WrongName) (.ref C_WrongName) = some true)
    (kx_WrongName_WrongValue : PySem.W.kitOne K (.ref C_WrongName) (.ref C_WrongValue) = some false)
    (xe_NotPossible : PySem.W.excIn K C_NotPossible (M.Fam.tail .ae) (M.Fam.new .ae) = true)
    (xb_NotPossible : PySem.W.subIn K (.ref C_NotPossible) (.type "BaseException") = some true)
    (ty_NotPossible : PySem.W.typeIn K (.ref C_NotPossible) = some (.type "type"))
    (kC_NotPossible : PySem.W.keepIn K (.ref C_NotPossible) = true)
    (xg_NotPossible : PySem.W.findIn K (.ref C_NotPossible) "__getattribute__" = some (some (.builtin "BaseException.__getattribute__")))
    (xh_NotPossible : PySem.W.findIn K (.ref C_NotPossible) "__getattr__" = some none)
    (xd_NotPossible : PySem.W.hasDictIn K C_NotPossible = true)
    (xa_NotPossible : PySem.W.findIn K (.ref C_NotPossible) "__class__" = some (some (.builtin "object.__class__")))
    (xm_NotPossible : PySem.W.mroIn K C_NotPossible (.type "object") = some true)
    (kx_NotPossible_ArithmeticError : PySem.W.kitOne K (.ref C_NotPossible) (.type "ArithmeticError") = some true)
    (kx_NotPossible_Broken : PySem.W.kitOne K (.ref C_NotPossible) (.ref C_Broken) = some false)
    (kx_NotPossible_InUse : PySem.W.kitOne K (.ref C_NotPossible) (.ref C_InUse) = some false)
    (kx_NotPossible_InvalidChanges : PySem.W.kitOne K (.ref C_NotPossible) (.ref C_InvalidChanges) = some false)
    (kx_NotPossible_InvalidColumns : PySem.W.kitOne K (.ref C_NotPossible) (.ref C_InvalidColumns) = some false)
    (kx_NotPossible_InvalidIndex : PySem.W.kitOne K (.ref C_NotPossible) (.ref C_InvalidIndex) = some false)
    (kx_NotPossible_InvalidName : PySem.W.kitOne K (.ref C_NotPossible) (.ref C_InvalidName) = some false)
    (kx_NotPossible_InvalidSize : PySem.W.kitOne K (.ref C_NotPossible) (.ref C_InvalidSize) = some false)
    (kx_NotPossible_InvalidTable : PySem.W.kitOne K (.ref C_NotPossible) (.ref C_InvalidTable) = some false)
    (kx_NotPossible_InvalidTables : PySem.W.kitOne K (.ref C_NotPossible) (.ref C_InvalidTables) = some false)
    (kx_NotPossible_InvalidText : PySem.W.kitOne K (.ref C_NotPossible) (.ref C_InvalidText) = some false)
    (kx_NotPossible_InvalidView : PySem.W.kitOne K (.ref C_NotPossible) (.ref C_InvalidView) = some false)
    (kx_NotPossible_InvalidWish : PySem.W.kitOne K (.ref C_NotPossible) (.ref C_InvalidWish) = some false)
    (kx_NotPossible_InvalidWishes : PySem.W.kitOne K (.ref C_NotPossible) (.ref C_InvalidWishes) = some false)
    (kx_NotPossible_InvalidWord : PySem.W.kitOne K (.ref C_NotPossible) (.ref C_InvalidWord) = some false)
    (kx_NotPossible_LookupError : PySem.W.kitOne K (.ref C_NotPossible) (.type "LookupError") = some false)
    (kx_NotPossible_NotLot : PySem.W.kitOne K (.ref C_NotPossible) (.ref C_NotLot) = some false)
    (kx_NotPossible_NotPossible : PySem.W.kitOne K (.ref C_NotPossible) (.ref C_NotPossible) = some true)
    (kx_NotPossible_NotTriangular : PySem.W.kitOne K (.ref C_NotPossible) (.ref C_NotTriangular) = some false)
    (kx_NotPossible_NothingToUndo : PySem.W.kitOne K (.ref C_NotPossible) (.ref C_NothingToUndo) = some false)
    (kx_NotPossible_OtherSize : PySem.W.kitOne K (.ref C_NotPossible) (.ref C_OtherSize) = some false)
    (kx_NotPossible_TooMany : PySem.W.kitOne K (.ref C_NotPossible) (.ref C_TooMany) = some false)
    (kx_NotPossible_UnknownName : PySem.W.kitOne K (.ref C_NotPossible) (.ref C_UnknownName) = some false)
    (kx_NotPossible_ValueError : PySem.W.kitOne K (.ref C_NotPossible) (.type "ValueError") = some false)
    (kx_NotPossible_WrongName : PySem.W.kitOne K (.ref C_NotPossible) (.ref C_WrongName) = some false)
    (kx_NotPossible_WrongValue : PySem.W.kitOne K (.ref C_NotPossible) (.ref C_WrongValue) = some false)
    (cn : PySem.W.specialIn K (.builtin "object.__class__") "__get__" = some (some (.builtin "getset_descriptor.__get__")))
    (ct : PySem.W.takesIn K (.builtin "object.__class__") = some true)
    (n_ArithmeticError : PySem.W.nsIn K mainGlobals "ArithmeticError" = some none)
    (n_LookupError : PySem.W.nsIn K mainGlobals "LookupError" = some none)
    (n_ValueError : PySem.W.nsIn K mainGlobals "ValueError" = some none)
    (n_abs : PySem.W.nsIn K mainGlobals "abs" = some none)
    (n_all : PySem.W.nsIn K mainGlobals "all" = some none)
    (n_divmod : PySem.W.nsIn K mainGlobals "divmod" = some none)
    (n_int : PySem.W.nsIn K mainGlobals "int" = some none)
    (n_isinstance : PySem.W.nsIn K mainGlobals "isinstance" = some none)
    (n_len : PySem.W.nsIn K mainGlobals "len" = some none)
    (n_max : PySem.W.nsIn K mainGlobals "max" = some none)
    (n_min : PySem.W.nsIn K mainGlobals "min" = some none)
    (n_range : PySem.W.nsIn K mainGlobals "range" = some none)
    (n_repr : PySem.W.nsIn K mainGlobals "repr" = some none)
    (x_MOST_CHANGES : PySem.W.nsIn K mainGlobals "MOST_CHANGES" = some (some (.int 6 t_MOST_CHANGES)))
    (x_MOST_COLUMNS : PySem.W.nsIn K mainGlobals "MOST_COLUMNS" = some (some (.int 8 t_MOST_COLUMNS)))
    (x_MOST_LETTERS : PySem.W.nsIn K mainGlobals "MOST_LETTERS" = some (some (.int 40 t_MOST_LETTERS)))
    (x_MOST_NUMBER : PySem.W.nsIn K mainGlobals "MOST_NUMBER" = some (some (.int 1000000 t_MOST_NUMBER)))
    (x_MOST_SIZE : PySem.W.nsIn K mainGlobals "MOST_SIZE" = some (some (.int 4 t_MOST_SIZE)))
    (x_MOST_TABLES : PySem.W.nsIn K mainGlobals "MOST_TABLES" = some (some (.int 3 t_MOST_TABLES)))
    : ∃ fd : FuncData, (∀ (s : Shared) (v : Value), BindsTo s fd ⟨[v], []⟩ [("_law_script", v)]) ∧ ∀ base : Heap, K.In base → base.Ns mainGlobals mg → (∀ p ∈ ([] : List (Addr × Addr)), LamX.TabB base mg p.1 p.2) → FnA PySem.Challenge.rw_alltriangular_k01_limits_and_errors.prog w K mg base (L2.CX PySem.Challenge.rw_alltriangular_k01_limits_and_errors.prog w) (4 * lvl + 4) fa fd ["_law_script"] (spLaw K ([] : List (Addr × Str))) := by
  have e := hfa.symm.trans (PySem.W.mg_of X G a_law)
  cases e
  let cs0 : List (Addr × Addr) := ([] : List (Addr × Addr))
  let T0 : List (Addr × Str) := ([] : List (Addr × Str))
  let C : Nat → Addr := fun i => if i = 0 then C_InvalidText else if i = 1 then C_InvalidName else if i = 2 then C_InvalidIndex else if i = 3 then C_InvalidSize else if i = 4 then C_InvalidTable else if i = 5 then C_InvalidView else if i = 6 then C_InvalidWish else if i = 7 then C_NotLot else if i = 8 then C_InvalidTables else if i = 9 then C_InvalidWord else if i = 10 then C_InvalidColumns else if i = 11 then C_InvalidChanges else if i = 12 then C_InvalidWishes else if i = 13 then C_UnknownName else if i = 14 then C_InUse else if i = 15 then C_NotTriangular else if i = 16 then C_OtherSize else if i = 17 then C_TooMany else if i = 18 then C_NothingToUndo else if i = 19 then C_Broken else if i = 20 then C_WrongValue else if i = 21 then C_WrongName else if i = 22 then C_NotPossible else 0
  have F__law_cast := fun_mk (st := s__law_cast) l__law_cast c__law_cast k__law_cast
  have B__law_cast := F__law_cast.binds (ps := ["_law_pail", "_law_many"]) fun _ _ _ _ _ _ us hl => match us, hl with | [_, _], _ => rfl
  have F__law_any_of := fun_mk (st := s__law_any_of) l__law_any_of c__law_any_of k__law_any_of
  have B__law_any_of := F__law_any_of.binds (ps := ["_law_pail", "_law_some"]) fun _ _ _ _ _ _ us hl => match us, hl with | [_, _], _ => rfl
  have F__law_thing := fun_mk (st := s__law_thing) l__law_thing c__law_thing k__law_thing
  have B__law_thing := F__law_thing.binds (ps := ["_law_pail"]) fun _ _ _ _ _ _ us hl => match us, hl with | [_], _ => rfl
  have F__law_bases := fun_mk (st := s__law_bases) l__law_bases c__law_bases k__law_bases
  have B__law_bases := F__law_bases.binds (ps := ["_law_e"]) fun _ _ _ _ _ _ us hl => match us, hl with | [_], _ => rfl
  have F__law_flags := fun_mk (st := s__law_flags) l__law_flags c__law_flags k__law_flags
  have B__law_flags := F__law_flags.binds (ps := ["_law_e"]) fun _ _ _ _ _ _ us hl => match us, hl with | [_], _ => rfl
  have F__law_held := fun_mk (st := s__law_held) l__law_held c__law_held k__law_held
  have B__law_held := F__law_held.binds (ps := ["_law_e", "_law_at"]) fun _ _ _ _ _ _ us hl => match us, hl with | [_, _], _ => rfl
  have F__law_some_right := fun_mk (st := s__law_some_right) l__law_some_right c__law_some_right k__law_some_right
  have B__law_some_right := F__law_some_right.binds (ps := ["_law_some", "_law_thing_here"]) fun _ _ _ _ _ _ us hl => match us, hl with | [_, _], _ => rfl
  have F__law_placed := fun_mk (st := s__law_placed) l__law_placed c__law_placed k__law_placed
  have B__law_placed := F__law_placed.binds (ps := ["_law_thing_here"]) fun _ _ _ _ _ _ us hl => match us, hl with | [_], _ => rfl
  have F__law_named := fun_mk (st := s__law_named) l__law_named c__law_named k__law_named
  have B__law_named := F__law_named.binds (ps := ["_law_thing_here"]) fun _ _ _ _ _ _ us hl => match us, hl with | [_], _ => rfl
  have F__law_right := fun_mk (st := s__law_right) l__law_right c__law_right k__law_right
  have B__law_right := F__law_right.binds (ps := ["_law_pail"]) fun _ _ _ _ _ _ us hl => match us, hl with | [_], _ => rfl
  have F__law_begun := fun_mk (st := s__law_begun) l__law_begun c__law_begun k__law_begun
  have B__law_begun := F__law_begun.binds (ps := ["_law_script", "_law_turn"]) fun _ _ _ _ _ _ us hl => match us, hl with | [_, _], _ => rfl
  have F_law := fun_mk (st := s_law) l_law c_law k_law
  have B_law := F_law.binds (ps := ["_law_script"]) fun _ _ _ _ _ _ us hl => match us, hl with | [_], _ => rfl
  have FX_InvalidText := fun_mk (st := sx_InvalidText) lx_InvalidText cx_InvalidText ki_InvalidText
  have BX_InvalidText := FX_InvalidText.binds (ps := ["self", "given"]) fun _ _ _ _ _ _ us hl => match us, hl with | [_, _], _ => rfl
  have FX_InvalidName := fun_mk (st := sx_InvalidName) lx_InvalidName cx_InvalidName ki_InvalidName
  have BX_InvalidName := FX_InvalidName.binds (ps := ["self", "given"]) fun _ _ _ _ _ _ us hl => match us, hl with | [_, _], _ => rfl
  have FX_InvalidIndex := fun_mk (st := sx_InvalidIndex) lx_InvalidIndex cx_InvalidIndex ki_InvalidIndex
  have BX_InvalidIndex := FX_InvalidIndex.binds (ps := ["self", "given"]) fun _ _ _ _ _ _ us hl => match us, hl with | [_, _], _ => rfl
  have FX_InvalidSize := fun_mk (st := sx_InvalidSize) lx_InvalidSize cx_InvalidSize ki_InvalidSize
  have BX_InvalidSize := FX_InvalidSize.binds (ps := ["self", "given"]) fun _ _ _ _ _ _ us hl => match us, hl with | [_, _], _ => rfl
  have FX_InvalidTable := fun_mk (st := sx_InvalidTable) lx_InvalidTable cx_InvalidTable ki_InvalidTable
  have BX_InvalidTable := FX_InvalidTable.binds (ps := ["self", "given"]) fun _ _ _ _ _ _ us hl => match us, hl with | [_, _], _ => rfl
  have FX_InvalidView := fun_mk (st := sx_InvalidView) lx_InvalidView cx_InvalidView ki_InvalidView
  have BX_InvalidView := FX_InvalidView.binds (ps := ["self", "given"]) fun _ _ _ _ _ _ us hl => match us, hl with | [_, _], _ => rfl
  have FX_InvalidWish := fun_mk (st := sx_InvalidWish) lx_InvalidWish cx_InvalidWish ki_InvalidWish
  have BX_InvalidWish := FX_InvalidWish.binds (ps := ["self", "given"]) fun _ _ _ _ _ _ us hl => match us, hl with | [_, _], _ => rfl
  have FX_NotLot := fun_mk (st := sx_NotLot) lx_NotLot cx_NotLot ki_NotLot
  have BX_NotLot := FX_NotLot.binds (ps := ["self", "given"]) fun _ _ _ _ _ _ us hl => match us, hl with | [_, _], _ => rfl
  have FX_InvalidTables := fun_mk (st := sx_InvalidTables) lx_InvalidTables cx_InvalidTables ki_InvalidTables
  have BX_InvalidTables := FX_InvalidTables.binds (ps := ["self", "index"]) fun _ _ _ _ _ _ us hl => match us, hl with | [_, _], _ => rfl
  have FX_InvalidWord := fun_mk (st := sx_InvalidWord) lx_InvalidWord cx_InvalidWord ki_InvalidWord
  have BX_InvalidWord := FX_InvalidWord.binds (ps := ["self", "index"]) fun _ _ _ _ _ _ us hl => match us, hl with | [_, _], _ => rfl
  have FX_InvalidColumns := fun_mk (st := sx_InvalidColumns) lx_InvalidColumns cx_InvalidColumns ki_InvalidColumns
  have BX_InvalidColumns := FX_InvalidColumns.binds (ps := ["self", "index"]) fun _ _ _ _ _ _ us hl => match us, hl with | [_, _], _ => rfl
  have FX_InvalidChanges := fun_mk (st := sx_InvalidChanges) lx_InvalidChanges cx_InvalidChanges ki_InvalidChanges
  have BX_InvalidChanges := FX_InvalidChanges.binds (ps := ["self", "index"]) fun _ _ _ _ _ _ us hl => match us, hl with | [_, _], _ => rfl
  have FX_InvalidWishes := fun_mk (st := sx_InvalidWishes) lx_InvalidWishes cx_InvalidWishes ki_InvalidWishes
  have BX_InvalidWishes := FX_InvalidWishes.binds (ps := ["self", "index"]) fun _ _ _ _ _ _ us hl => match us, hl with | [_, _], _ => rfl
  have FX_UnknownName := fun_mk (st := sx_UnknownName) lx_UnknownName cx_UnknownName ki_UnknownName
  have BX_UnknownName := FX_UnknownName.binds (ps := ["self", "given"]) fun _ _ _ _ _ _ us hl => match us, hl with | [_, _], _ => rfl
  have FX_InUse := fun_mk (st := sx_InUse) lx_InUse cx_InUse ki_InUse
  have BX_InUse := FX_InUse.binds (ps := ["self", "index"]) fun _ _ _ _ _ _ us hl => match us, hl with | [_, _], _ => rfl
  have FX_NotTriangular := fun_mk (st := sx_NotTriangular) lx_NotTriangular cx_NotTriangular ki_NotTriangular
  have BX_NotTriangular := FX_NotTriangular.binds (ps := ["self", "given"]) fun _ _ _ _ _ _ us hl => match us, hl with | [_, _], _ => rfl
  have FX_OtherSize := fun_mk (st := sx_OtherSize) lx_OtherSize cx_OtherSize ki_OtherSize
  have BX_OtherSize := FX_OtherSize.binds (ps := ["self", "given"]) fun _ _ _ _ _ _ us hl => match us, hl with | [_, _], _ => rfl
  have FX_TooMany := fun_mk (st := sx_TooMany) lx_TooMany cx_TooMany ki_TooMany
  have BX_TooMany := FX_TooMany.binds (ps := ["self", "given"]) fun _ _ _ _ _ _ us hl => match us, hl with | [_, _], _ => rfl
  have FX_Broken := fun_mk (st := sx_Broken) lx_Broken cx_Broken ki_Broken
  have BX_Broken := FX_Broken.binds (ps := ["self", "index"]) fun _ _ _ _ _ _ us hl => match us, hl with | [_, _], _ => rfl
  have F : Facts K mg C cs0 T0 a__law_cast0 a__law_any_of0 a__law_thing0 a__law_bases0 a__law_flags0 a__law_held0 a__law_some_right0 a__law_placed0 a__law_named0 a__law_right0 a__law_begun0 fa := {
    d__law_cast := ⟨_, F__law_cast, B__law_cast⟩,
    g__law_cast := PySem.W.mg_of X G a__law_cast,
    k__law_cast := k__law_cast,
    d__law_any_of := ⟨_, F__law_any_of, B__law_any_of⟩,
    g__law_any_of := PySem.W.mg_of X G a__law_any_of,
    k__law_any_of := k__law_any_of,
    d__law_thing := ⟨_, F__law_thing, B__law_thing⟩,
    g__law_thing := PySem.W.mg_of X G a__law_thing,
    k__law_thing := k__law_thing,
    d__law_bases := ⟨_, F__law_bases, B__law_bases⟩,
    g__law_bases := PySem.W.mg_of X G a__law_bases,
    k__law_bases := k__law_bases,
    d__law_flags := ⟨_, F__law_flags, B__law_flags⟩,
    g__law_flags := PySem.W.mg_of X G a__law_flags,
    k__law_flags := k__law_flags,
    d__law_held := ⟨_, F__law_held, B__law_held⟩,
    g__law_held := PySem.W.mg_of X G a__law_held,
    k__law_held := k__law_held,
    d__law_some_right := ⟨_, F__law_some_right, B__law_some_right⟩,
    g__law_some_right := PySem.W.mg_of X G a__law_some_right,
    k__law_some_right := k__law_some_right,
    d__law_placed := ⟨_, F__law_placed, B__law_placed⟩,
    g__law_placed := PySem.W.mg_of X G a__law_placed,
    k__law_placed := k__law_placed,
    d__law_named := ⟨_, F__law_named, B__law_named⟩,
    g__law_named := PySem.W.mg_of X G a__law_named,
    k__law_named := k__law_named,
    d__law_right := ⟨_, F__law_right, B__law_right⟩,
    g__law_right := PySem.W.mg_of X G a__law_right,
    k__law_right := k__law_right,
    d__law_begun := ⟨_, F__law_begun, B__law_begun⟩,
    g__law_begun := PySem.W.mg_of X G a__law_begun,
    k__law_begun := k__law_begun,
    d_law := ⟨_, F_law, B_law⟩,
    g_law := PySem.W.mg_of X G a_law,
    k_law := k_law,
    co := ⟨fun i hi => absurd hi (Nat.not_lt_zero _), fun i hi => absurd hi (Nat.not_lt_zero _), fun i hi t ht => absurd hi (Nat.not_lt_zero _), fun i hi t ht => absurd hi (Nat.not_lt_zero _), fun i j hi hj => absurd hi (Nat.not_lt_zero _)⟩,
    x0_NothingToUndo := ⟨PySem.W.mg_of X G aC_NothingToUndo, kC_NothingToUndo, ⟨.ae, xe_NothingToUndo⟩, xb_NothingToUndo, ty_NothingToUndo⟩,
    x0_WrongValue := ⟨PySem.W.mg_of X G aC_WrongValue, kC_WrongValue, ⟨.ve, xe_WrongValue⟩, xb_WrongValue, ty_WrongValue⟩,
    x0_WrongName := ⟨PySem.W.mg_of X G aC_WrongName, kC_WrongName, ⟨.le, xe_WrongName⟩, xb_WrongName, ty_WrongName⟩,
    x0_NotPossible := ⟨PySem.W.mg_of X G aC_NotPossible, kC_NotPossible, ⟨.ae, xe_NotPossible⟩, xb_NotPossible, ty_NotPossible⟩,
    xk0_Broken := ⟨_, _, in_Broken, it_Broken, FX_Broken, kb_of FX_Broken fun _ _ _ _ _ _ us ws h1 h2 => match us, ws, h1, h2 with | [_], [_], _, _ => rfl⟩,
    xk0_InUse := ⟨_, _, in_InUse, it_InUse, FX_InUse, kb_of FX_InUse fun _ _ _ _ _ _ us ws h1 h2 => match us, ws, h1, h2 with | [_], [_], _, _ => rfl⟩,
    xk0_InvalidChanges := ⟨_, _, in_InvalidChanges, it_InvalidChanges, FX_InvalidChanges, kb_of FX_InvalidChanges fun _ _ _ _ _ _ us ws h1 h2 => match us, ws, h1, h2 with | [_], [_], _, _ => rfl⟩,
    xk0_InvalidColumns := ⟨_, _, in_InvalidColumns, it_InvalidColumns, FX_InvalidColumns, kb_of FX_InvalidColumns fun _ _ _ _ _ _ us ws h1 h2 => match us, ws, h1, h2 with | [_], [_], _, _ => rfl⟩,
    xk0_InvalidIndex := ⟨_, _, in_InvalidIndex, it_InvalidIndex, FX_InvalidIndex, kb_of FX_InvalidIndex fun _ _ _ _ _ _ us ws h1 h2 => match us, ws, h1, h2 with | [_], [_], _, _ => rfl⟩,
    xk0_InvalidName := ⟨_, _, in_InvalidName, it_InvalidName, FX_InvalidName, kb_of FX_InvalidName fun _ _ _ _ _ _ us ws h1 h2 => match us, ws, h1, h2 with | [_], [_], _, _ => rfl⟩,
    xk0_InvalidSize := ⟨_, _, in_InvalidSize, it_InvalidSize, FX_InvalidSize, kb_of FX_InvalidSize fun _ _ _ _ _ _ us ws h1 h2 => match us, ws, h1, h2 with | [_], [_], _, _ => rfl⟩,
    xk0_InvalidTable := ⟨_, _, in_InvalidTable, it_InvalidTable, FX_InvalidTable, kb_of FX_InvalidTable fun _ _ _ _ _ _ us ws h1 h2 => match us, ws, h1, h2 with | [_], [_], _, _ => rfl⟩,
    xk0_InvalidTables := ⟨_, _, in_InvalidTables, it_InvalidTables, FX_InvalidTables, kb_of FX_InvalidTables fun _ _ _ _ _ _ us ws h1 h2 => match us, ws, h1, h2 with | [_], [_], _, _ => rfl⟩,
    xk0_InvalidText := ⟨_, _, in_InvalidText, it_InvalidText, FX_InvalidText, kb_of FX_InvalidText fun _ _ _ _ _ _ us ws h1 h2 => match us, ws, h1, h2 with | [_], [_], _, _ => rfl⟩,
    xk0_InvalidView := ⟨_, _, in_InvalidView, it_InvalidView, FX_InvalidView, kb_of FX_InvalidView fun _ _ _ _ _ _ us ws h1 h2 => match us, ws, h1, h2 with | [_], [_], _, _ => rfl⟩,
    xk0_InvalidWish := ⟨_, _, in_InvalidWish, it_InvalidWish, FX_InvalidWish, kb_of FX_InvalidWish fun _ _ _ _ _ _ us ws h1 h2 => match us, ws, h1, h2 with | [_], [_], _, _ => rfl⟩,
    xk0_InvalidWishes := ⟨_, _, in_InvalidWishes, it_InvalidWishes, FX_InvalidWishes, kb_of FX_InvalidWishes fun _ _ _ _ _ _ us ws h1 h2 => match us, ws, h1, h2 with | [_], [_], _, _ => rfl⟩,
    xk0_InvalidWord := ⟨_, _, in_InvalidWord, it_InvalidWord, FX_InvalidWord, kb_of FX_InvalidWord fun _ _ _ _ _ _ us ws h1 h2 => match us, ws, h1, h2 with | [_], [_], _, _ => rfl⟩,
    xk0_NotLot := ⟨_, _, in_NotLot, it_NotLot, FX_NotLot, kb_of FX_NotLot fun _ _ _ _ _ _ us ws h1 h2 => match us, ws, h1, h2 with | [_], [_], _, _ => rfl⟩,
    xk0_NotTriangular := ⟨_, _, in_NotTriangular, it_NotTriangular, FX_NotTriangular, kb_of FX_NotTriangular fun _ _ _ _ _ _ us ws h1 h2 => match us, ws, h1, h2 with | [_], [_], _, _ => rfl⟩,
    xk0_OtherSize := ⟨_, _, in_OtherSize, it_OtherSize, FX_OtherSize, kb_of FX_OtherSize fun _ _ _ _ _ _ us ws h1 h2 => match us, ws, h1, h2 with | [_], [_], _, _ => rfl⟩,
    xk0_TooMany := ⟨_, _, in_TooMany, it_TooMany, FX_TooMany, kb_of FX_TooMany fun _ _ _ _ _ _ us ws h1 h2 => match us, ws, h1, h2 with | [_], [_], _, _ => rfl⟩,
    xk0_UnknownName := ⟨_, _, in_UnknownName, it_UnknownName, FX_UnknownName, kb_of FX_UnknownName fun _ _ _ _ _ _ us ws h1 h2 => match us, ws, h1, h2 with | [_], [_], _, _ => rfl⟩,
    xi_InvalidText := ⟨PySem.W.mg_of X G aC_InvalidText, ⟨⟨.ve, ox_InvalidText⟩, sa_InvalidText, xb_InvalidText, ty_InvalidText, kC_InvalidText⟩, no_InvalidText, _, _, in_InvalidText, it_InvalidText, FX_InvalidText, BX_InvalidText⟩,
    xi_InvalidName := ⟨PySem.W.mg_of X G aC_InvalidName, ⟨⟨.ve, ox_InvalidName⟩, sa_InvalidName, xb_InvalidName, ty_InvalidName, kC_InvalidName⟩, no_InvalidName, _, _, in_InvalidName, it_InvalidName, FX_InvalidName, BX_InvalidName⟩,
    xi_InvalidIndex := ⟨PySem.W.mg_of X G aC_InvalidIndex, ⟨⟨.ve, ox_InvalidIndex⟩, sa_InvalidIndex, xb_InvalidIndex, ty_InvalidIndex, kC_InvalidIndex⟩, no_InvalidIndex, _, _, in_InvalidIndex, it_InvalidIndex, FX_InvalidIndex, BX_InvalidIndex⟩,
    xi_InvalidSize := ⟨PySem.W.mg_of X G aC_InvalidSize, ⟨⟨.ve, ox_InvalidSize⟩, sa_InvalidSize, xb_InvalidSize, ty_InvalidSize, kC_InvalidSize⟩, no_InvalidSize, _, _, in_InvalidSize, it_InvalidSize, FX_InvalidSize, BX_InvalidSize⟩,
    xi_InvalidTable := ⟨PySem.W.mg_of X G aC_InvalidTable, ⟨⟨.ve, ox_InvalidTable⟩, sa_InvalidTable, xb_InvalidTable, ty_InvalidTable, kC_InvalidTable⟩, no_InvalidTable, _, _, in_InvalidTable, it_InvalidTable, FX_InvalidTable, BX_InvalidTable⟩,
    xi_InvalidView := ⟨PySem.W.mg_of X G aC_InvalidView, ⟨⟨.ve, ox_InvalidView⟩, sa_InvalidView, xb_InvalidView, ty_InvalidView, kC_InvalidView⟩, no_InvalidView, _, _, in_InvalidView, it_InvalidView, FX_InvalidView, BX_InvalidView⟩,
    xi_InvalidWish := ⟨PySem.W.mg_of X G aC_InvalidWish, ⟨⟨.ve, ox_InvalidWish⟩, sa_InvalidWish, xb_InvalidWish, ty_InvalidWish, kC_InvalidWish⟩, no_InvalidWish, _, _, in_InvalidWish, it_InvalidWish, FX_InvalidWish, BX_InvalidWish⟩,
    xi_NotLot := ⟨PySem.W.mg_of X G aC_NotLot, ⟨⟨.ve, ox_NotLot⟩, sa_NotLot, xb_NotLot, ty_NotLot, kC_NotLot⟩, no_NotLot, _, _, in_NotLot, it_NotLot, FX_NotLot, BX_NotLot⟩,
    xi_InvalidTables := ⟨PySem.W.mg_of X G aC_InvalidTables, ⟨⟨.ve, ox_InvalidTables⟩, sa_InvalidTables, xb_InvalidTables, ty_InvalidTables, kC_InvalidTables⟩, no_InvalidTables, _, _, in_InvalidTables, it_InvalidTables, FX_InvalidTables, BX_InvalidTables⟩,
    xi_InvalidWord := ⟨PySem.W.mg_of X G aC_InvalidWord, ⟨⟨.ve, ox_InvalidWord⟩, sa_InvalidWord, xb_InvalidWord, ty_InvalidWord, kC_InvalidWord⟩, no_InvalidWord, _, _, in_InvalidWord, it_InvalidWord, FX_InvalidWord, BX_InvalidWord⟩,
    xi_InvalidColumns := ⟨PySem.W.mg_of X G aC_InvalidColumns, ⟨⟨.ve, ox_InvalidColumns⟩, sa_InvalidColumns, xb_InvalidColumns, ty_InvalidColumns, kC_InvalidColumns⟩, no_InvalidColumns, _, _, in_InvalidColumns, it_InvalidColumns, FX_InvalidColumns, BX_InvalidColumns⟩,
    xi_InvalidChanges := ⟨PySem.W.mg_of X G aC_InvalidChanges, ⟨⟨.ve, ox_InvalidChanges⟩, sa_InvalidChanges, xb_InvalidChanges, ty_InvalidChanges, kC_InvalidChanges⟩, no_InvalidChanges, _, _, in_InvalidChanges, it_InvalidChanges, FX_InvalidChanges, BX_InvalidChanges⟩,
    xi_InvalidWishes := ⟨PySem.W.mg_of X G aC_InvalidWishes, ⟨⟨.ve, ox_InvalidWishes⟩, sa_InvalidWishes, xb_InvalidWishes, ty_InvalidWishes, kC_InvalidWishes⟩, no_InvalidWishes, _, _, in_InvalidWishes, it_InvalidWishes, FX_InvalidWishes, BX_InvalidWishes⟩,
    xi_UnknownName := ⟨PySem.W.mg_of X G aC_UnknownName, ⟨⟨.le, ox_UnknownName⟩, sa_UnknownName, xb_UnknownName, ty_UnknownName, kC_UnknownName⟩, no_UnknownName, _, _, in_UnknownName, it_UnknownName, FX_UnknownName, BX_UnknownName⟩,
    xi_InUse := ⟨PySem.W.mg_of X G aC_InUse, ⟨⟨.le, ox_InUse⟩, sa_InUse, xb_InUse, ty_InUse, kC_InUse⟩, no_InUse, _, _, in_InUse, it_InUse, FX_InUse, BX_InUse⟩,
    xi_NotTriangular := ⟨PySem.W.mg_of X G aC_NotTriangular, ⟨⟨.ae, ox_NotTriangular⟩, sa_NotTriangular, xb_NotTriangular, ty_NotTriangular, kC_NotTriangular⟩, no_NotTriangular, _, _, in_NotTriangular, it_NotTriangular, FX_NotTriangular, BX_NotTriangular⟩,
    xi_OtherSize := ⟨PySem.W.mg_of X G aC_OtherSize, ⟨⟨.ae, ox_OtherSize⟩, sa_OtherSize, xb_OtherSize, ty_OtherSize, kC_OtherSize⟩, no_OtherSize, _, _, in_OtherSize, it_OtherSize, FX_OtherSize, BX_OtherSize⟩,
    xi_TooMany := ⟨PySem.W.mg_of X G aC_TooMany, ⟨⟨.ae, ox_TooMany⟩, sa_TooMany, xb_TooMany, ty_TooMany, kC_TooMany⟩, no_TooMany, _, _, in_TooMany, it_TooMany, FX_TooMany, BX_TooMany⟩,
    xi_Broken := ⟨PySem.W.mg_of X G aC_Broken, ⟨⟨.ae, ox_Broken⟩, sa_Broken, xb_Broken, ty_Broken, kC_Broken⟩, no_Broken, _, _, in_Broken, it_Broken, FX_Broken, BX_Broken⟩,
    xo := (fun i h1 h2 => (by
             have e : i = 0 ∨ i = 1 ∨ i = 2 ∨ i = 3 ∨ i = 4 ∨ i = 5 ∨ i = 6 ∨ i = 7 ∨ i = 8 ∨ i = 9 ∨ i = 10 ∨ i = 11 ∨ i = 12 ∨ i = 13 ∨ i = 14 ∨ i = 15 ∨ i = 16 ∨ i = 17 ∨ i = 18 ∨ i = 19 ∨ i = 20 ∨ i = 21 ∨ i = 22 := by simp only [Zj] at h1 h2; omega
             rcases e with rfl | rfl | rfl | rfl | rfl | rfl | rfl | rfl | rfl | rfl | rfl | rfl | rfl | rfl | rfl | rfl | rfl | rfl | rfl | rfl | rfl | rfl | rfl
             · exact ⟨xg_InvalidText, xh_InvalidText, xb_InvalidText, xd_InvalidText, xa_InvalidText, cn, ct, xm_InvalidText⟩
             · exact ⟨xg_InvalidName, xh_InvalidName, xb_InvalidName, xd_InvalidName, xa_InvalidName, cn, ct, xm_InvalidName⟩
             · exact ⟨xg_InvalidIndex, xh_InvalidIndex, xb_InvalidIndex, xd_InvalidIndex, xa_InvalidIndex, cn, ct, xm_InvalidIndex⟩
             · exact ⟨xg_InvalidSize, xh_InvalidSize, xb_InvalidSize, xd_InvalidSize, xa_InvalidSize, cn, ct, xm_InvalidSize⟩
             · exact ⟨xg_InvalidTable, xh_InvalidTable, xb_InvalidTable, xd_InvalidTable, xa_InvalidTable, cn, ct, xm_InvalidTable⟩
             · exact ⟨xg_InvalidView, xh_InvalidView, xb_InvalidView, xd_InvalidView, xa_InvalidView, cn, ct, xm_InvalidView⟩
             · exact ⟨xg_InvalidWish, xh_InvalidWish, xb_InvalidWish, xd_InvalidWish, xa_InvalidWish, cn, ct, xm_InvalidWish⟩
             · exact ⟨xg_NotLot, xh_NotLot, xb_NotLot, xd_NotLot, xa_NotLot, cn, ct, xm_NotLot⟩
             · exact ⟨xg_InvalidTables, xh_InvalidTables, xb_InvalidTables, xd_InvalidTables, xa_InvalidTables, cn, ct, xm_InvalidTables⟩
             · exact ⟨xg_InvalidWord, xh_InvalidWord, xb_InvalidWord, xd_InvalidWord, xa_InvalidWord, cn, ct, xm_InvalidWord⟩
             · exact ⟨xg_InvalidColumns, xh_InvalidColumns, xb_InvalidColumns, xd_InvalidColumns, xa_InvalidColumns, cn, ct, xm_InvalidColumns⟩
             · exact ⟨xg_InvalidChanges, xh_InvalidChanges, xb_InvalidChanges, xd_InvalidChanges, xa_InvalidChanges, cn, ct, xm_InvalidChanges⟩
             · exact ⟨xg_InvalidWishes, xh_InvalidWishes, xb_InvalidWishes, xd_InvalidWishes, xa_InvalidWishes, cn, ct, xm_InvalidWishes⟩
             · exact ⟨xg_UnknownName, xh_UnknownName, xb_UnknownName, xd_UnknownName, xa_UnknownName, cn, ct, xm_UnknownName⟩
             · exact ⟨xg_InUse, xh_InUse, xb_InUse, xd_InUse, xa_InUse, cn, ct, xm_InUse⟩
             · exact ⟨xg_NotTriangular, xh_NotTriangular, xb_NotTriangular, xd_NotTriangular, xa_NotTriangular, cn, ct, xm_NotTriangular⟩
             · exact ⟨xg_OtherSize, xh_OtherSize, xb_OtherSize, xd_OtherSize, xa_OtherSize, cn, ct, xm_OtherSize⟩
             · exact ⟨xg_TooMany, xh_TooMany, xb_TooMany, xd_TooMany, xa_TooMany, cn, ct, xm_TooMany⟩
             · exact ⟨xg_NothingToUndo, xh_NothingToUndo, xb_NothingToUndo, xd_NothingToUndo, xa_NothingToUndo, cn, ct, xm_NothingToUndo⟩
             · exact ⟨xg_Broken, xh_Broken, xb_Broken, xd_Broken, xa_Broken, cn, ct, xm_Broken⟩
             · exact ⟨xg_WrongValue, xh_WrongValue, xb_WrongValue, xd_WrongValue, xa_WrongValue, cn, ct, xm_WrongValue⟩
             · exact ⟨xg_WrongName, xh_WrongName, xb_WrongName, xd_WrongName, xa_WrongName, cn, ct, xm_WrongName⟩
             · exact ⟨xg_NotPossible, xh_NotPossible, xb_NotPossible, xd_NotPossible, xa_NotPossible, cn, ct, xm_NotPossible⟩)),
    xk_ArithmeticError := (fun i h1 h2 => (by
             have e : i = 0 ∨ i = 1 ∨ i = 2 ∨ i = 3 ∨ i = 4 ∨ i = 5 ∨ i = 6 ∨ i = 7 ∨ i = 8 ∨ i = 9 ∨ i = 10 ∨ i = 11 ∨ i = 12 ∨ i = 13 ∨ i = 14 ∨ i = 15 ∨ i = 16 ∨ i = 17 ∨ i = 18 ∨ i = 19 ∨ i = 20 ∨ i = 21 ∨ i = 22 := by simp only [Zj] at h1 h2; omega
             rcases e with rfl | rfl | rfl | rfl | rfl | rfl | rfl | rfl | rfl | rfl | rfl | rfl | rfl | rfl | rfl | rfl | rfl | rfl | rfl | rfl | rfl | rfl | rfl
             · exact kx_InvalidText_ArithmeticError
             · exact kx_InvalidName_ArithmeticError
             · exact kx_InvalidIndex_ArithmeticError
             · exact kx_InvalidSize_ArithmeticError
             · exact kx_InvalidTable_ArithmeticError
             · exact kx_InvalidView_ArithmeticError
             · exact kx_InvalidWish_ArithmeticError
             · exact kx_NotLot_ArithmeticError
             · exact kx_InvalidTables_ArithmeticError
             · exact kx_InvalidWord_ArithmeticError
             · exact kx_InvalidColumns_ArithmeticError
             · exact kx_InvalidChanges_ArithmeticError
             · exact kx_InvalidWishes_ArithmeticError
             · exact kx_UnknownName_ArithmeticError
             · exact kx_InUse_ArithmeticError
             · exact kx_NotTriangular_ArithmeticError
             · exact kx_OtherSize_ArithmeticError
             · exact kx_TooMany_ArithmeticError
             · exact kx_NothingToUndo_ArithmeticError
             · exact kx_Broken_ArithmeticError
             · exact kx_WrongValue_ArithmeticError
             · exact kx_WrongName_ArithmeticError
             · exact kx_NotPossible_ArithmeticError)),
    xk_Broken := ⟨C_Broken, PySem.W.mg_of X G aC_Broken, (fun i h1 h2 => (by
             have e : i = 0 ∨ i = 1 ∨ i = 2 ∨ i = 3 ∨ i = 4 ∨ i = 5 ∨ i = 6 ∨ i = 7 ∨ i = 8 ∨ i = 9 ∨ i = 10 ∨ i = 11 ∨ i = 12 ∨ i = 13 ∨ i = 14 ∨ i = 15 ∨ i = 16 ∨ i = 17 ∨ i = 18 ∨ i = 19 ∨ i = 20 ∨ i = 21 ∨ i = 22 := by simp only [Zj] at h1 h2; omega
             rcases e with rfl | rfl | rfl | rfl | rfl | rfl | rfl | rfl | rfl | rfl | rfl | rfl | rfl | rfl | rfl | rfl | rfl | rfl | rfl | rfl | rfl | rfl | rfl
             · exact kx_InvalidText_Broken
             · exact kx_InvalidName_Broken
             · exact kx_InvalidIndex_Broken
             · exact kx_InvalidSize_Broken
             · exact kx_InvalidTable_Broken
             · exact kx_InvalidView_Broken
             · exact kx_InvalidWish_Broken
             · exact kx_NotLot_Broken
             · exact kx_InvalidTables_Broken
             · exact kx_InvalidWord_Broken
             · exact kx_InvalidColumns_Broken
             · exact kx_InvalidChanges_Broken
             · exact kx_InvalidWishes_Broken
             · exact kx_UnknownName_Broken
             · exact kx_InUse_Broken
             · exact kx_NotTriangular_Broken
             · exact kx_OtherSize_Broken
             · exact kx_TooMany_Broken
             · exact kx_NothingToUndo_Broken
             · exact kx_Broken_Broken
             · exact kx_WrongValue_Broken
             · exact kx_WrongName_Broken
             · exact kx_NotPossible_Broken))⟩,
    xk_InUse := ⟨C_InUse, PySem.W.mg_of X G aC_InUse, (fun i h1 h2 => (by
             have e : i = 0 ∨ i = 1 ∨ i = 2 ∨ i = 3 ∨ i = 4 ∨ i = 5 ∨ i = 6 ∨ i = 7 ∨ i = 8 ∨ i = 9 ∨ i = 10 ∨ i = 11 ∨ i = 12 ∨ i = 13 ∨ i = 14 ∨ i = 15 ∨ i = 16 ∨ i = 17 ∨ i = 18 ∨ i = 19 ∨ i = 20 ∨ i = 21 ∨ i = 22 := by simp only [Zj] at h1 h2; omega
             rcases e with rfl | rfl | rfl | rfl | rfl | rfl | rfl | rfl | rfl | rfl | rfl | rfl | rfl | rfl | rfl | rfl | rfl | rfl | rfl | rfl | rfl | rfl | rfl
             · exact kx_InvalidText_InUse
             · exact kx_InvalidName_InUse
             · exact kx_InvalidIndex_InUse
             · exact kx_InvalidSize_InUse
             · exact kx_InvalidTable_InUse
             · exact kx_InvalidView_InUse
             · exact kx_InvalidWish_InUse
             · exact kx_NotLot_InUse
             · exact kx_InvalidTables_InUse
             · exact kx_InvalidWord_InUse
             · exact kx_InvalidColumns_InUse
             · exact kx_InvalidChanges_InUse
             · exact kx_InvalidWishes_InUse
             · exact kx_UnknownName_InUse
             · exact kx_InUse_InUse
             · exact kx_NotTriangular_InUse
             · exact kx_OtherSize_InUse
             · exact kx_TooMany_InUse
             · exact kx_NothingToUndo_InUse
             · exact kx_Broken_InUse
             · exact kx_WrongValue_InUse
             · exact kx_WrongName_InUse
             · exact kx_NotPossible_InUse))⟩,
    xk_InvalidChanges := ⟨C_InvalidChanges, PySem.W.mg_of X G aC_InvalidChanges, (fun i h1 h2 => (by
             have e : i = 0 ∨ i = 1 ∨ i = 2 ∨ i = 3 ∨ i = 4 ∨ i = 5 ∨ i = 6 ∨ i = 7 ∨ i = 8 ∨ i = 9 ∨ i = 10 ∨ i = 11 ∨ i = 12 ∨ i = 13 ∨ i = 14 ∨ i = 15 ∨ i = 16 ∨ i = 17 ∨ i = 18 ∨ i = 19 ∨ i = 20 ∨ i = 21 ∨ i = 22 := by simp only [Zj] at h1 h2; omega
             rcases e with rfl | rfl | rfl | rfl | rfl | rfl | rfl | rfl | rfl | rfl | rfl | rfl | rfl | rfl | rfl | rfl | rfl | rfl | rfl | rfl | rfl | rfl | rfl
             · exact kx_InvalidText_InvalidChanges
             · exact kx_InvalidName_InvalidChanges
             · exact kx_InvalidIndex_InvalidChanges
             · exact kx_InvalidSize_InvalidChanges
             · exact kx_InvalidTable_InvalidChanges
             · exact kx_InvalidView_InvalidChanges
             · exact kx_InvalidWish_InvalidChanges
             · exact kx_NotLot_InvalidChanges
             · exact kx_InvalidTables_InvalidChanges
             · exact kx_InvalidWord_InvalidChanges
             · exact kx_InvalidColumns_InvalidChanges
             · exact kx_InvalidChanges_InvalidChanges
             · exact kx_InvalidWishes_InvalidChanges
             · exact kx_UnknownName_InvalidChanges
             · exact kx_InUse_InvalidChanges
             · exact kx_NotTriangular_InvalidChanges
             · exact kx_OtherSize_InvalidChanges
             · exact kx_TooMany_InvalidChanges
             · exact kx_NothingToUndo_InvalidChanges
             · exact kx_Broken_InvalidChanges
             · exact kx_WrongValue_InvalidChanges
             · exact kx_WrongName_InvalidChanges
             · exact kx_NotPossible_InvalidChanges))⟩,
    xk_InvalidColumns := ⟨C_InvalidColumns, PySem.W.mg_of X G aC_InvalidColumns, (fun i h1 h2 => (by
             have e : i = 0 ∨ i = 1 ∨ i = 2 ∨ i = 3 ∨ i = 4 ∨ i = 5 ∨ i = 6 ∨ i = 7 ∨ i = 8 ∨ i = 9 ∨ i = 10 ∨ i = 11 ∨ i = 12 ∨ i = 13 ∨ i = 14 ∨ i = 15 ∨ i = 16 ∨ i = 17 ∨ i = 18 ∨ i = 19 ∨ i = 20 ∨ i = 21 ∨ i = 22 := by simp only [Zj] at h1 h2; omega
             rcases e with rfl | rfl | rfl | rfl | rfl | rfl | rfl | rfl | rfl | rfl | rfl | rfl | rfl | rfl | rfl | rfl | rfl | rfl | rfl | rfl | rfl | rfl | rfl
             · exact kx_InvalidText_InvalidColumns
             · exact kx_InvalidName_InvalidColumns
             · exact kx_InvalidIndex_InvalidColumns
             · exact kx_InvalidSize_InvalidColumns
             · exact kx_InvalidTable_InvalidColumns
             · exact kx_InvalidView_InvalidColumns
             · exact kx_InvalidWish_InvalidColumns
             · exact kx_NotLot_InvalidColumns
             · exact kx_InvalidTables_InvalidColumns
             · exact kx_InvalidWord_InvalidColumns
             · exact kx_InvalidColumns_InvalidColumns
             · exact kx_InvalidChanges_InvalidColumns
             · exact kx_InvalidWishes_InvalidColumns
             · exact kx_UnknownName_InvalidColumns
             · exact kx_InUse_InvalidColumns
             · exact kx_NotTriangular_InvalidColumns
             · exact kx_OtherSize_InvalidColumns
             · exact kx_TooMany_InvalidColumns
             · exact kx_NothingToUndo_InvalidColumns
             · exact kx_Broken_InvalidColumns
             · exact kx_WrongValue_InvalidColumns
             · exact kx_WrongName_InvalidColumns
             · exact kx_NotPossible_InvalidColumns))⟩,
    xk_InvalidIndex := ⟨C_InvalidIndex, PySem.W.mg_of X G aC_InvalidIndex, (fun i h1 h2 => (by
             have e : i = 0 ∨ i = 1 ∨ i = 2 ∨ i = 3 ∨ i = 4 ∨ i = 5 ∨ i = 6 ∨ i = 7 ∨ i = 8 ∨ i = 9 ∨ i = 10 ∨ i = 11 ∨ i = 12 ∨ i = 13 ∨ i = 14 ∨ i = 15 ∨ i = 16 ∨ i = 17 ∨ i = 18 ∨ i = 19 ∨ i = 20 ∨ i = 21 ∨ i = 22 := by simp only [Zj] at h1 h2; omega
             rcases e with rfl | rfl | rfl | rfl | rfl | rfl | rfl | rfl | rfl | rfl | rfl | rfl | rfl | rfl | rfl | rfl | rfl | rfl | rfl | rfl | rfl | rfl | rfl
             · exact kx_InvalidText_InvalidIndex
             · exact kx_InvalidName_InvalidIndex
             · exact kx_InvalidIndex_InvalidIndex
             · exact kx_InvalidSize_InvalidIndex
             · exact kx_InvalidTable_InvalidIndex
             · exact kx_InvalidView_InvalidIndex
             · exact kx_InvalidWish_InvalidIndex
             · exact kx_NotLot_InvalidIndex
             · exact kx_InvalidTables_InvalidIndex
             · exact kx_InvalidWord_InvalidIndex
             · exact kx_InvalidColumns_InvalidIndex
             · exact kx_InvalidChanges_InvalidIndex
             · exact kx_InvalidWishes_InvalidIndex
             · exact kx_UnknownName_InvalidIndex
             · exact kx_InUse_InvalidIndex
             · exact kx_NotTriangular_InvalidIndex
             · exact kx_OtherSize_InvalidIndex
             · exact kx_TooMany_InvalidIndex
             · exact kx_NothingToUndo_InvalidIndex
             · exact kx_Broken_InvalidIndex
             · exact kx_WrongValue_InvalidIndex
             · exact kx_WrongName_InvalidIndex
             · exact kx_NotPossible_InvalidIndex))⟩,
    xk_InvalidName := ⟨C_InvalidName, PySem.W.mg_of X G aC_InvalidName, (fun i h1 h2 => (by
             have e : i = 0 ∨ i = 1 ∨ i = 2 ∨ i = 3 ∨ i = 4 ∨ i = 5 ∨ i = 6 ∨ i = 7 ∨ i = 8 ∨ i = 9 ∨ i = 10 ∨ i = 11 ∨ i = 12 ∨ i = 13 ∨ i = 14 ∨ i = 15 ∨ i = 16 ∨ i = 17 ∨ i = 18 ∨ i = 19 ∨ i = 20 ∨ i = 21 ∨ i = 22 := by simp only [Zj] at h1 h2; omega
             rcases e with rfl | rfl | rfl | rfl | rfl | rfl | rfl | rfl | rfl | rfl | rfl | rfl | rfl | rfl | rfl | rfl | rfl | rfl | rfl | rfl | rfl | rfl | rfl
             · exact kx_InvalidText_InvalidName
             · exact kx_InvalidName_InvalidName
             · exact kx_InvalidIndex_InvalidName
             · exact kx_InvalidSize_InvalidName
             · exact kx_InvalidTable_InvalidName
             · exact kx_InvalidView_InvalidName
             · exact kx_InvalidWish_InvalidName
             · exact kx_NotLot_InvalidName
             · exact kx_InvalidTables_InvalidName
             · exact kx_InvalidWord_InvalidName
             · exact kx_InvalidColumns_InvalidName
             · exact kx_InvalidChanges_InvalidName
             · exact kx_InvalidWishes_InvalidName
             · exact kx_UnknownName_InvalidName
             · exact kx_InUse_InvalidName
             · exact kx_NotTriangular_InvalidName
             · exact kx_OtherSize_InvalidName
             · exact kx_TooMany_InvalidName
             · exact kx_NothingToUndo_InvalidName
             · exact kx_Broken_InvalidName
             · exact kx_WrongValue_InvalidName
             · exact kx_WrongName_InvalidName
             · exact kx_NotPossible_InvalidName))⟩,
    xk_InvalidSize := ⟨C_InvalidSize, PySem.W.mg_of X G aC_InvalidSize, (fun i h1 h2 => (by
             have e : i = 0 ∨ i = 1 ∨ i = 2 ∨ i = 3 ∨ i = 4 ∨ i = 5 ∨ i = 6 ∨ i = 7 ∨ i = 8 ∨ i = 9 ∨ i = 10 ∨ i = 11 ∨ i = 12 ∨ i = 13 ∨ i = 14 ∨ i = 15 ∨ i = 16 ∨ i = 17 ∨ i = 18 ∨ i = 19 ∨ i = 20 ∨ i = 21 ∨ i = 22 := by simp only [Zj] at h1 h2; omega
             rcases e with rfl | rfl | rfl | rfl | rfl | rfl | rfl | rfl | rfl | rfl | rfl | rfl | rfl | rfl | rfl | rfl | rfl | rfl | rfl | rfl | rfl | rfl | rfl
             · exact kx_InvalidText_InvalidSize
             · exact kx_InvalidName_InvalidSize
             · exact kx_InvalidIndex_InvalidSize
             · exact kx_InvalidSize_InvalidSize
             · exact kx_InvalidTable_InvalidSize
             · exact kx_InvalidView_InvalidSize
             · exact kx_InvalidWish_InvalidSize
             · exact kx_NotLot_InvalidSize
             · exact kx_InvalidTables_InvalidSize
             · exact kx_InvalidWord_InvalidSize
             · exact kx_InvalidColumns_InvalidSize
             · exact kx_InvalidChanges_InvalidSize
             · exact kx_InvalidWishes_InvalidSize
             · exact kx_UnknownName_InvalidSize
             · exact kx_InUse_InvalidSize
             · exact kx_NotTriangular_InvalidSize
             · exact kx_OtherSize_InvalidSize
             · exact kx_TooMany_InvalidSize
             · exact kx_NothingToUndo_InvalidSize
             · exact kx_Broken_InvalidSize
             · exact kx_WrongValue_InvalidSize
             · exact kx_WrongName_InvalidSize
             · exact kx_NotPossible_InvalidSize))⟩,
    xk_InvalidTable := ⟨C_InvalidTable, PySem.W.mg_of X G aC_InvalidTable, (fun i h1 h2 => (by
             have e : i = 0 ∨ i = 1 ∨ i = 2 ∨ i = 3 ∨ i = 4 ∨ i = 5 ∨ i = 6 ∨ i = 7 ∨ i = 8 ∨ i = 9 ∨ i = 10 ∨ i = 11 ∨ i = 12 ∨ i = 13 ∨ i = 14 ∨ i = 15 ∨ i = 16 ∨ i = 17 ∨ i = 18 ∨ i = 19 ∨ i = 20 ∨ i = 21 ∨ i = 22 := by simp only [Zj] at h1 h2; omega
             rcases e with rfl | rfl | rfl | rfl | rfl | rfl | rfl | rfl | rfl | rfl | rfl | rfl | rfl | rfl | rfl | rfl | rfl | rfl | rfl | rfl | rfl | rfl | rfl
             · exact kx_InvalidText_InvalidTable
             · exact kx_InvalidName_InvalidTable
             · exact kx_InvalidIndex_InvalidTable
             · exact kx_InvalidSize_InvalidTable
             · exact kx_InvalidTable_InvalidTable
             · exact kx_InvalidView_InvalidTable
             · exact kx_InvalidWish_InvalidTable
             · exact kx_NotLot_InvalidTable
             · exact kx_InvalidTables_InvalidTable
             · exact kx_InvalidWord_InvalidTable
             · exact kx_InvalidColumns_InvalidTable
             · exact kx_InvalidChanges_InvalidTable
             · exact kx_InvalidWishes_InvalidTable
             · exact kx_UnknownName_InvalidTable
             · exact kx_InUse_InvalidTable
             · exact kx_NotTriangular_InvalidTable
             · exact kx_OtherSize_InvalidTable
             · exact kx_TooMany_InvalidTable
             · exact kx_NothingToUndo_InvalidTable
             · exact kx_Broken_InvalidTable
             · exact kx_WrongValue_InvalidTable
             · exact kx_WrongName_InvalidTable
             · exact kx_NotPossible_InvalidTable))⟩,
    xk_InvalidTables := ⟨C_InvalidTables, PySem.W.mg_of X G aC_InvalidTables, (fun i h1 h2 => (by
             have e : i = 0 ∨ i = 1 ∨ i = 2 ∨ i = 3 ∨ i = 4 ∨ i = 5 ∨ i = 6 ∨ i = 7 ∨ i = 8 ∨ i = 9 ∨ i = 10 ∨ i = 11 ∨ i = 12 ∨ i = 13 ∨ i = 14 ∨ i = 15 ∨ i = 16 ∨ i = 17 ∨ i = 18 ∨ i = 19 ∨ i = 20 ∨ i = 21 ∨ i = 22 := by simp only [Zj] at h1 h2; omega
             rcases e with rfl | rfl | rfl | rfl | rfl | rfl | rfl | rfl | rfl | rfl | rfl | rfl | rfl | rfl | rfl | rfl | rfl | rfl | rfl | rfl | rfl | rfl | rfl
             · exact kx_InvalidText_InvalidTables
             · exact kx_InvalidName_InvalidTables
             · exact kx_InvalidIndex_InvalidTables
             · exact kx_InvalidSize_InvalidTables
             · exact kx_InvalidTable_InvalidTables
             · exact kx_InvalidView_InvalidTables
             · exact kx_InvalidWish_InvalidTables
             · exact kx_NotLot_InvalidTables
             · exact kx_InvalidTables_InvalidTables
             · exact kx_InvalidWord_InvalidTables
             · exact kx_InvalidColumns_InvalidTables
             · exact kx_InvalidChanges_InvalidTables
             · exact kx_InvalidWishes_InvalidTables
             · exact kx_UnknownName_InvalidTables
             · exact kx_InUse_InvalidTables
             · exact kx_NotTriangular_InvalidTables
             · exact kx_OtherSize_InvalidTables
             · exact kx_TooMany_InvalidTables
             · exact kx_NothingToUndo_InvalidTables
             · exact kx_Broken_InvalidTables
             · exact kx_WrongValue_InvalidTables
             · exact kx_WrongName_InvalidTables
             · exact kx_NotPossible_InvalidTables))⟩,
    xk_InvalidText := ⟨C_InvalidText, PySem.W.mg_of X G aC_InvalidText, (fun i h1 h2 => (by
             have e : i = 0 ∨ i = 1 ∨ i = 2 ∨ i = 3 ∨ i = 4 ∨ i = 5 ∨ i = 6 ∨ i = 7 ∨ i = 8 ∨ i = 9 ∨ i = 10 ∨ i = 11 ∨ i = 12 ∨ i = 13 ∨ i = 14 ∨ i = 15 ∨ i = 16 ∨ i = 17 ∨ i = 18 ∨ i = 19 ∨ i = 20 ∨ i = 21 ∨ i = 22 := by simp only [Zj] at h1 h2; omega
             rcases e with rfl | rfl | rfl | rfl | rfl | rfl | rfl | rfl | rfl | rfl | rfl | rfl | rfl | rfl | rfl | rfl | rfl | rfl | rfl | rfl | rfl | rfl | rfl
             · exact kx_InvalidText_InvalidText
             · exact kx_InvalidName_InvalidText
             · exact kx_InvalidIndex_InvalidText
             · exact kx_InvalidSize_InvalidText
             · exact kx_InvalidTable_InvalidText
             · exact kx_InvalidView_InvalidText
             · exact kx_InvalidWish_InvalidText
             · exact kx_NotLot_InvalidText
             · exact kx_InvalidTables_InvalidText
             · exact kx_InvalidWord_InvalidText
             · exact kx_InvalidColumns_InvalidText
             · exact kx_InvalidChanges_InvalidText
             · exact kx_InvalidWishes_InvalidText
             · exact kx_UnknownName_InvalidText
             · exact kx_InUse_InvalidText
             · exact kx_NotTriangular_InvalidText
             · exact kx_OtherSize_InvalidText
             · exact kx_TooMany_InvalidText
             · exact kx_NothingToUndo_InvalidText
             · exact kx_Broken_InvalidText
             · exact kx_WrongValue_InvalidText
             · exact kx_WrongName_InvalidText
             · exact kx_NotPossible_InvalidText))⟩,
    xk_InvalidView := ⟨C_InvalidView, PySem.W.mg_of X G aC_InvalidView, (fun i h1 h2 => (by
             have e : i = 0 ∨ i = 1 ∨ i = 2 ∨ i = 3 ∨ i = 4 ∨ i = 5 ∨ i = 6 ∨ i = 7 ∨ i = 8 ∨ i = 9 ∨ i = 10 ∨ i = 11 ∨ i = 12 ∨ i = 13 ∨ i = 14 ∨ i = 15 ∨ i = 16 ∨ i = 17 ∨ i = 18 ∨ i = 19 ∨ i = 20 ∨ i = 21 ∨ i = 22 := by simp only [Zj] at h1 h2; omega
             rcases e with rfl | rfl | rfl | rfl | rfl | rfl | rfl | rfl | rfl | rfl | rfl | rfl | rfl | rfl | rfl | rfl | rfl | rfl | rfl | rfl | rfl | rfl | rfl
             · exact kx_InvalidText_InvalidView
             · exact kx_InvalidName_InvalidView
             · exact kx_InvalidIndex_InvalidView
             · exact kx_InvalidSize_InvalidView
             · exact kx_InvalidTable_InvalidView
             · exact kx_InvalidView_InvalidView
             · exact kx_InvalidWish_InvalidView
             · exact kx_NotLot_InvalidView
             · exact kx_InvalidTables_InvalidView
             · exact kx_InvalidWord_InvalidView
             · exact kx_InvalidColumns_InvalidView
             · exact kx_InvalidChanges_InvalidView
             · exact kx_InvalidWishes_InvalidView
             · exact kx_UnknownName_InvalidView
             · exact kx_InUse_InvalidView
             · exact kx_NotTriangular_InvalidView
             · exact kx_OtherSize_InvalidView
             · exact kx_TooMany_InvalidView
             · exact kx_NothingToUndo_InvalidView
             · exact kx_Broken_InvalidView
             · exact kx_WrongValue_InvalidView
             · exact kx_WrongName_InvalidView
             · exact kx_NotPossible_InvalidView))⟩,
    xk_InvalidWish := ⟨C_InvalidWish, PySem.W.mg_of X G aC_InvalidWish, (fun i h1 h2 => (by
             have e : i = 0 ∨ i = 1 ∨ i = 2 ∨ i = 3 ∨ i = 4 ∨ i = 5 ∨ i = 6 ∨ i = 7 ∨ i = 8 ∨ i = 9 ∨ i = 10 ∨ i = 11 ∨ i = 12 ∨ i = 13 ∨ i = 14 ∨ i = 15 ∨ i = 16 ∨ i = 17 ∨ i = 18 ∨ i = 19 ∨ i = 20 ∨ i = 21 ∨ i = 22 := by simp only [Zj] at h1 h2; omega
             rcases e with rfl | rfl | rfl | rfl | rfl | rfl | rfl | rfl | rfl | rfl | rfl | rfl | rfl | rfl | rfl | rfl | rfl | rfl | rfl | rfl | rfl | rfl | rfl
             · exact kx_InvalidText_InvalidWish
             · exact kx_InvalidName_InvalidWish
             · exact kx_InvalidIndex_InvalidWish
             · exact kx_InvalidSize_InvalidWish
             · exact kx_InvalidTable_InvalidWish
             · exact kx_InvalidView_InvalidWish
             · exact kx_InvalidWish_InvalidWish
             · exact kx_NotLot_InvalidWish
             · exact kx_InvalidTables_InvalidWish
             · exact kx_InvalidWord_InvalidWish
             · exact kx_InvalidColumns_InvalidWish
             · exact kx_InvalidChanges_InvalidWish
             · exact kx_InvalidWishes_InvalidWish
             · exact kx_UnknownName_InvalidWish
             · exact kx_InUse_InvalidWish
             · exact kx_NotTriangular_InvalidWish
             · exact kx_OtherSize_InvalidWish
             · exact kx_TooMany_InvalidWish
             · exact kx_NothingToUndo_InvalidWish
             · exact kx_Broken_InvalidWish
             · exact kx_WrongValue_InvalidWish
             · exact kx_WrongName_InvalidWish
             · exact kx_NotPossible_InvalidWish))⟩,
    xk_InvalidWishes := ⟨C_InvalidWishes, PySem.W.mg_of X G aC_InvalidWishes, (fun i h1 h2 => (by
             have e : i = 0 ∨ i = 1 ∨ i = 2 ∨ i = 3 ∨ i = 4 ∨ i = 5 ∨ i = 6 ∨ i = 7 ∨ i = 8 ∨ i = 9 ∨ i = 10 ∨ i = 11 ∨ i = 12 ∨ i = 13 ∨ i = 14 ∨ i = 15 ∨ i = 16 ∨ i = 17 ∨ i = 18 ∨ i = 19 ∨ i = 20 ∨ i = 21 ∨ i = 22 := by simp only [Zj] at h1 h2; omega
             rcases e with rfl | rfl | rfl | rfl | rfl | rfl | rfl | rfl | rfl | rfl | rfl | rfl | rfl | rfl | rfl | rfl | rfl | rfl | rfl | rfl | rfl | rfl | rfl
             · exact kx_InvalidText_InvalidWishes
             · exact kx_InvalidName_InvalidWishes
             · exact kx_InvalidIndex_InvalidWishes
             · exact kx_InvalidSize_InvalidWishes
             · exact kx_InvalidTable_InvalidWishes
             · exact kx_InvalidView_InvalidWishes
             · exact kx_InvalidWish_InvalidWishes
             · exact kx_NotLot_InvalidWishes
             · exact kx_InvalidTables_InvalidWishes
             · exact kx_InvalidWord_InvalidWishes
             · exact kx_InvalidColumns_InvalidWishes
             · exact kx_InvalidChanges_InvalidWishes
             · exact kx_InvalidWishes_InvalidWishes
             · exact kx_UnknownName_InvalidWishes
             · exact kx_InUse_InvalidWishes
             · exact kx_NotTriangular_InvalidWishes
             · exact kx_OtherSize_InvalidWishes
             · exact kx_TooMany_InvalidWishes
             · exact kx_NothingToUndo_InvalidWishes
             · exact kx_Broken_InvalidWishes
             · exact kx_WrongValue_InvalidWishes
             · exact kx_WrongName_InvalidWishes
             · exact kx_NotPossible_InvalidWishes))⟩,
    xk_InvalidWord := ⟨C_InvalidWord, PySem.W.mg_of X G aC_InvalidWord, (fun i h1 h2 => (by
             have e : i = 0 ∨ i = 1 ∨ i = 2 ∨ i = 3 ∨ i = 4 ∨ i = 5 ∨ i = 6 ∨ i = 7 ∨ i = 8 ∨ i = 9 ∨ i = 10 ∨ i = 11 ∨ i = 12 ∨ i = 13 ∨ i = 14 ∨ i = 15 ∨ i = 16 ∨ i = 17 ∨ i = 18 ∨ i = 19 ∨ i = 20 ∨ i = 21 ∨ i = 22 := by simp only [Zj] at h1 h2; omega
             rcases e with rfl | rfl | rfl | rfl | rfl | rfl | rfl | rfl | rfl | rfl | rfl | rfl | rfl | rfl | rfl | rfl | rfl | rfl | rfl | rfl | rfl | rfl | rfl
             · exact kx_InvalidText_InvalidWord
             · exact kx_InvalidName_InvalidWord
             · exact kx_InvalidIndex_InvalidWord
             · exact kx_InvalidSize_InvalidWord
             · exact kx_InvalidTable_InvalidWord
             · exact kx_InvalidView_InvalidWord
             · exact kx_InvalidWish_InvalidWord
             · exact kx_NotLot_InvalidWord
             · exact kx_InvalidTables_InvalidWord
             · exact kx_InvalidWord_InvalidWord
             · exact kx_InvalidColumns_InvalidWord
             · exact kx_InvalidChanges_InvalidWord
             · exact kx_InvalidWishes_InvalidWord
             · exact kx_UnknownName_InvalidWord
             · exact kx_InUse_InvalidWord
             · exact kx_NotTriangular_InvalidWord
             · exact kx_OtherSize_InvalidWord
             · exact kx_TooMany_InvalidWord
             · exact kx_NothingToUndo_InvalidWord
             · exact kx_Broken_InvalidWord
             · exact kx_WrongValue_InvalidWord
             · exact kx_WrongName_InvalidWord
             · exact kx_NotPossible_InvalidWord))⟩,
    xk_LookupError := (fun i h1 h2 => (by
             have e : i = 0 ∨ i = 1 ∨ i = 2 ∨ i = 3 ∨ i = 4 ∨ i = 5 ∨ i = 6 ∨ i = 7 ∨ i = 8 ∨ i = 9 ∨ i = 10 ∨ i = 11 ∨ i = 12 ∨ i = 13 ∨ i = 14 ∨ i = 15 ∨ i = 16 ∨ i = 17 ∨ i = 18 ∨ i = 19 ∨ i = 20 ∨ i = 21 ∨ i = 22 := by simp only [Zj] at h1 h2; omega
             rcases e with rfl | rfl | rfl | rfl | rfl | rfl | rfl | rfl | rfl | rfl | rfl | rfl | rfl | rfl | rfl | rfl | rfl | rfl | rfl | rfl | rfl | rfl | rfl
             · exact kx_InvalidText_LookupError
             · exact kx_InvalidName_LookupError
             · exact kx_InvalidIndex_LookupError
             · exact kx_InvalidSize_LookupError
             · exact kx_InvalidTable_LookupError
             · exact kx_InvalidView_LookupError
             · exact kx_InvalidWish_LookupError
             · exact kx_NotLot_LookupError
             · exact kx_InvalidTables_LookupError
             · exact kx_InvalidWord_LookupError
             · exact kx_InvalidColumns_LookupError
             · exact kx_InvalidChanges_LookupError
             · exact kx_InvalidWishes_LookupError
             · exact kx_UnknownName_LookupError
             · exact kx_InUse_LookupError
             · exact kx_NotTriangular_LookupError
             · exact kx_OtherSize_LookupError
             · exact kx_TooMany_LookupError
             · exact kx_NothingToUndo_LookupError
             · exact kx_Broken_LookupError
             · exact kx_WrongValue_LookupError
             · exact kx_WrongName_LookupError
             · exact kx_NotPossible_LookupError)),
    xk_NotLot := ⟨C_NotLot, PySem.W.mg_of X G aC_NotLot, (fun i h1 h2 => (by
             have e : i = 0 ∨ i = 1 ∨ i = 2 ∨ i = 3 ∨ i = 4 ∨ i = 5 ∨ i = 6 ∨ i = 7 ∨ i = 8 ∨ i = 9 ∨ i = 10 ∨ i = 11 ∨ i = 12 ∨ i = 13 ∨ i = 14 ∨ i = 15 ∨ i = 16 ∨ i = 17 ∨ i = 18 ∨ i = 19 ∨ i = 20 ∨ i = 21 ∨ i = 22 := by simp only [Zj] at h1 h2; omega
             rcases e with rfl | rfl | rfl | rfl | rfl | rfl | rfl | rfl | rfl | rfl | rfl | rfl | rfl | rfl | rfl | rfl | rfl | rfl | rfl | rfl | rfl | rfl | rfl
             · exact kx_InvalidText_NotLot
             · exact kx_InvalidName_NotLot
             · exact kx_InvalidIndex_NotLot
             · exact kx_InvalidSize_NotLot
             · exact kx_InvalidTable_NotLot
             · exact kx_InvalidView_NotLot
             · exact kx_InvalidWish_NotLot
             · exact kx_NotLot_NotLot
             · exact kx_InvalidTables_NotLot
             · exact kx_InvalidWord_NotLot
             · exact kx_InvalidColumns_NotLot
             · exact kx_InvalidChanges_NotLot
             · exact kx_InvalidWishes_NotLot
             · exact kx_UnknownName_NotLot
             · exact kx_InUse_NotLot
             · exact kx_NotTriangular_NotLot
             · exact kx_OtherSize_NotLot
             · exact kx_TooMany_NotLot
             · exact kx_NothingToUndo_NotLot
             · exact kx_Broken_NotLot
             · exact kx_WrongValue_NotLot
             · exact kx_WrongName_NotLot
             · exact kx_NotPossible_NotLot))⟩,
    xk_NotPossible := ⟨C_NotPossible, PySem.W.mg_of X G aC_NotPossible, (fun i h1 h2 => (by
             have e : i = 0 ∨ i = 1 ∨ i = 2 ∨ i = 3 ∨ i = 4 ∨ i = 5 ∨ i = 6 ∨ i = 7 ∨ i = 8 ∨ i = 9 ∨ i = 10 ∨ i = 11 ∨ i = 12 ∨ i = 13 ∨ i = 14 ∨ i = 15 ∨ i = 16 ∨ i = 17 ∨ i = 18 ∨ i = 19 ∨ i = 20 ∨ i = 21 ∨ i = 22 := by simp only [Zj] at h1 h2; omega
             rcases e with rfl | rfl | rfl | rfl | rfl | rfl | rfl | rfl | rfl | rfl | rfl | rfl | rfl | rfl | rfl | rfl | rfl | rfl | rfl | rfl | rfl | rfl | rfl
             · exact kx_InvalidText_NotPossible
             · exact kx_InvalidName_NotPossible
             · exact kx_InvalidIndex_NotPossible
             · exact kx_InvalidSize_NotPossible
             · exact kx_InvalidTable_NotPossible
             · exact kx_InvalidView_NotPossible
             · exact kx_InvalidWish_NotPossible
             · exact kx_NotLot_NotPossible
             · exact kx_InvalidTables_NotPossible
             · exact kx_InvalidWord_NotPossible
             · exact kx_InvalidColumns_NotPossible
             · exact kx_InvalidChanges_NotPossible
             · exact kx_InvalidWishes_NotPossible
             · exact kx_UnknownName_NotPossible
             · exact kx_InUse_NotPossible
             · exact kx_NotTriangular_NotPossible
             · exact kx_OtherSize_NotPossible
             · exact kx_TooMany_NotPossible
             · exact kx_NothingToUndo_NotPossible
             · exact kx_Broken_NotPossible
             · exact kx_WrongValue_NotPossible
             · exact kx_WrongName_NotPossible
             · exact kx_NotPossible_NotPossible))⟩,
    xk_NotTriangular := ⟨C_NotTriangular, PySem.W.mg_of X G aC_NotTriangular, (fun i h1 h2 => (by
             have e : i = 0 ∨ i = 1 ∨ i = 2 ∨ i = 3 ∨ i = 4 ∨ i = 5 ∨ i = 6 ∨ i = 7 ∨ i = 8 ∨ i = 9 ∨ i = 10 ∨ i = 11 ∨ i = 12 ∨ i = 13 ∨ i = 14 ∨ i = 15 ∨ i = 16 ∨ i = 17 ∨ i = 18 ∨ i = 19 ∨ i = 20 ∨ i = 21 ∨ i = 22 := by simp only [Zj] at h1 h2; omega
             rcases e with rfl | rfl | rfl | rfl | rfl | rfl | rfl | rfl | rfl | rfl | rfl | rfl | rfl | rfl | rfl | rfl | rfl | rfl | rfl | rfl | rfl | rfl | rfl
             · exact kx_InvalidText_NotTriangular
             · exact kx_InvalidName_NotTriangular
             · exact kx_InvalidIndex_NotTriangular
             · exact kx_InvalidSize_NotTriangular
             · exact kx_InvalidTable_NotTriangular
             · exact kx_InvalidView_NotTriangular
             · exact kx_InvalidWish_NotTriangular
             · exact kx_NotLot_NotTriangular
             · exact kx_InvalidTables_NotTriangular
             · exact kx_InvalidWord_NotTriangular
             · exact kx_InvalidColumns_NotTriangular
             · exact kx_InvalidChanges_NotTriangular
             · exact kx_InvalidWishes_NotTriangular
             · exact kx_UnknownName_NotTriangular
             · exact kx_InUse_NotTriangular
             · exact kx_NotTriangular_NotTriangular
             · exact kx_OtherSize_NotTriangular
             · exact kx_TooMany_NotTriangular
             · exact kx_NothingToUndo_NotTriangular
             · exact kx_Broken_NotTriangular
             · exact kx_WrongValue_NotTriangular
             · exact kx_WrongName_NotTriangular
             · exact kx_NotPossible_NotTriangular))⟩,
    xk_NothingToUndo := ⟨C_NothingToUndo, PySem.W.mg_of X G aC_NothingToUndo, (fun i h1 h2 => (by
             have e : i = 0 ∨ i = 1 ∨ i = 2 ∨ i = 3 ∨ i = 4 ∨ i = 5 ∨ i = 6 ∨ i = 7 ∨ i = 8 ∨ i = 9 ∨ i = 10 ∨ i = 11 ∨ i = 12 ∨ i = 13 ∨ i = 14 ∨ i = 15 ∨ i = 16 ∨ i = 17 ∨ i = 18 ∨ i = 19 ∨ i = 20 ∨ i = 21 ∨ i = 22 := by simp only [Zj] at h1 h2; omega
             rcases e with rfl | rfl | rfl | rfl | rfl | rfl | rfl | rfl | rfl | rfl | rfl | rfl | rfl | rfl | rfl | rfl | rfl | rfl | rfl | rfl | rfl | rfl | rfl
             · exact kx_InvalidText_NothingToUndo
             · exact kx_InvalidName_NothingToUndo
             · exact kx_InvalidIndex_NothingToUndo
             · exact kx_InvalidSize_NothingToUndo
             · exact kx_InvalidTable_NothingToUndo
             · exact kx_InvalidView_NothingToUndo
             · exact kx_InvalidWish_NothingToUndo
             · exact kx_NotLot_NothingToUndo
             · exact kx_InvalidTables_NothingToUndo
             · exact kx_InvalidWord_NothingToUndo
             · exact kx_InvalidColumns_NothingToUndo
             · exact kx_InvalidChanges_NothingToUndo
             · exact kx_InvalidWishes_NothingToUndo
             · exact kx_UnknownName_NothingToUndo
             · exact kx_InUse_NothingToUndo
             · exact kx_NotTriangular_NothingToUndo
             · exact kx_OtherSize_NothingToUndo
             · exact kx_TooMany_NothingToUndo
             · exact kx_NothingToUndo_NothingToUndo
             · exact kx_Broken_NothingToUndo
             · exact kx_WrongValue_NothingToUndo
             · exact kx_WrongName_NothingToUndo
             · exact kx_NotPossible_NothingToUndo))⟩,
    xk_OtherSize := ⟨C_OtherSize, PySem.W.mg_of X G aC_OtherSize, (fun i h1 h2 => (by
             have e : i = 0 ∨ i = 1 ∨ i = 2 ∨ i = 3 ∨ i = 4 ∨ i = 5 ∨ i = 6 ∨ i = 7 ∨ i = 8 ∨ i = 9 ∨ i = 10 ∨ i = 11 ∨ i = 12 ∨ i = 13 ∨ i = 14 ∨ i = 15 ∨ i = 16 ∨ i = 17 ∨ i = 18 ∨ i = 19 ∨ i = 20 ∨ i = 21 ∨ i = 22 := by simp only [Zj] at h1 h2; omega
             rcases e with rfl | rfl | rfl | rfl | rfl | rfl | rfl | rfl | rfl | rfl | rfl | rfl | rfl | rfl | rfl | rfl | rfl | rfl | rfl | rfl | rfl | rfl | rfl
             · exact kx_InvalidText_OtherSize
             · exact kx_InvalidName_OtherSize
             · exact kx_InvalidIndex_OtherSize
             · exact kx_InvalidSize_OtherSize
             · exact kx_InvalidTable_OtherSize
             · exact kx_InvalidView_OtherSize
             · exact kx_InvalidWish_OtherSize
             · exact kx_NotLot_OtherSize
             · exact kx_InvalidTables_OtherSize
             · exact kx_InvalidWord_OtherSize
             · exact kx_InvalidColumns_OtherSize
             · exact kx_InvalidChanges_OtherSize
             · exact kx_InvalidWishes_OtherSize
             · exact kx_UnknownName_OtherSize
             · exact kx_InUse_OtherSize
             · exact kx_NotTriangular_OtherSize
             · exact kx_OtherSize_OtherSize
             · exact kx_TooMany_OtherSize
             · exact kx_NothingToUndo_OtherSize
             · exact kx_Broken_OtherSize
             · exact kx_WrongValue_OtherSize
             · exact kx_WrongName_OtherSize
             · exact kx_NotPossible_OtherSize))⟩,
    xk_TooMany := ⟨C_TooMany, PySem.W.mg_of X G aC_TooMany, (fun i h1 h2 => (by
             have e : i = 0 ∨ i = 1 ∨ i = 2 ∨ i = 3 ∨ i = 4 ∨ i = 5 ∨ i = 6 ∨ i = 7 ∨ i = 8 ∨ i = 9 ∨ i = 10 ∨ i = 11 ∨ i = 12 ∨ i = 13 ∨ i = 14 ∨ i = 15 ∨ i = 16 ∨ i = 17 ∨ i = 18 ∨ i = 19 ∨ i = 20 ∨ i = 21 ∨ i = 22 := by simp only [Zj] at h1 h2; omega
             rcases e with rfl | rfl | rfl | rfl | rfl | rfl | rfl | rfl | rfl | rfl | rfl | rfl | rfl | rfl | rfl | rfl | rfl | rfl | rfl | rfl | rfl | rfl | rfl
             · exact kx_InvalidText_TooMany
             · exact kx_InvalidName_TooMany
             · exact kx_InvalidIndex_TooMany
             · exact kx_InvalidSize_TooMany
             · exact kx_InvalidTable_TooMany
             · exact kx_InvalidView_TooMany
             · exact kx_InvalidWish_TooMany
             · exact kx_NotLot_TooMany
             · exact kx_InvalidTables_TooMany
             · exact kx_InvalidWord_TooMany
             · exact kx_InvalidColumns_TooMany
             · exact kx_InvalidChanges_TooMany
             · exact kx_InvalidWishes_TooMany
             · exact kx_UnknownName_TooMany
             · exact kx_InUse_TooMany
             · exact kx_NotTriangular_TooMany
             · exact kx_OtherSize_TooMany
             · exact kx_TooMany_TooMany
             · exact kx_NothingToUndo_TooMany
             · exact kx_Broken_TooMany
             · exact kx_WrongValue_TooMany
             · exact kx_WrongName_TooMany
             · exact kx_NotPossible_TooMany))⟩,
    xk_UnknownName := ⟨C_UnknownName, PySem.W.mg_of X G aC_UnknownName, (fun i h1 h2 => (by
             have e : i = 0 ∨ i = 1 ∨ i = 2 ∨ i = 3 ∨ i = 4 ∨ i = 5 ∨ i = 6 ∨ i = 7 ∨ i = 8 ∨ i = 9 ∨ i = 10 ∨ i = 11 ∨ i = 12 ∨ i = 13 ∨ i = 14 ∨ i = 15 ∨ i = 16 ∨ i = 17 ∨ i = 18 ∨ i = 19 ∨ i = 20 ∨ i = 21 ∨ i = 22 := by simp only [Zj] at h1 h2; omega
             rcases e with rfl | rfl | rfl | rfl | rfl | rfl | rfl | rfl | rfl | rfl | rfl | rfl | rfl | rfl | rfl | rfl | rfl | rfl | rfl | rfl | rfl | rfl | rfl
             · exact kx_InvalidText_UnknownName
             · exact kx_InvalidName_UnknownName
             · exact kx_InvalidIndex_UnknownName
             · exact kx_InvalidSize_UnknownName
             · exact kx_InvalidTable_UnknownName
             · exact kx_InvalidView_UnknownName
             · exact kx_InvalidWish_UnknownName
             · exact kx_NotLot_UnknownName
             · exact kx_InvalidTables_UnknownName
             · exact kx_InvalidWord_UnknownName
             · exact kx_InvalidColumns_UnknownName
             · exact kx_InvalidChanges_UnknownName
             · exact kx_InvalidWishes_UnknownName
             · exact kx_UnknownName_UnknownName
             · exact kx_InUse_UnknownName
             · exact kx_NotTriangular_UnknownName
             · exact kx_OtherSize_UnknownName
             · exact kx_TooMany_UnknownName
             · exact kx_NothingToUndo_UnknownName
             · exact kx_Broken_UnknownName
             · exact kx_WrongValue_UnknownName
             · exact kx_WrongName_UnknownName
             · exact kx_NotPossible_UnknownName))⟩,
    xk_ValueError := (fun i h1 h2 => (by
             have e : i = 0 ∨ i = 1 ∨ i = 2 ∨ i = 3 ∨ i = 4 ∨ i = 5 ∨ i = 6 ∨ i = 7 ∨ i = 8 ∨ i = 9 ∨ i = 10 ∨ i = 11 ∨ i = 12 ∨ i = 13 ∨ i = 14 ∨ i = 15 ∨ i = 16 ∨ i = 17 ∨ i = 18 ∨ i = 19 ∨ i = 20 ∨ i = 21 ∨ i = 22 := by simp only [Zj] at h1 h2; omega
             rcases e with rfl | rfl | rfl | rfl | rfl | rfl | rfl | rfl | rfl | rfl | rfl | rfl | rfl | rfl | rfl | rfl | rfl | rfl | rfl | rfl | rfl | rfl | rfl
             · exact kx_InvalidText_ValueError
             · exact kx_InvalidName_ValueError
             · exact kx_InvalidIndex_ValueError
             · exact kx_InvalidSize_ValueError
             · exact kx_InvalidTable_ValueError
             · exact kx_InvalidView_ValueError
             · exact kx_InvalidWish_ValueError
             · exact kx_NotLot_ValueError
             · exact kx_InvalidTables_ValueError
             · exact kx_InvalidWord_ValueError
             · exact kx_InvalidColumns_ValueError
             · exact kx_InvalidChanges_ValueError
             · exact kx_InvalidWishes_ValueError
             · exact kx_UnknownName_ValueError
             · exact kx_InUse_ValueError
             · exact kx_NotTriangular_ValueError
             · exact kx_OtherSize_ValueError
             · exact kx_TooMany_ValueError
             · exact kx_NothingToUndo_ValueError
             · exact kx_Broken_ValueError
             · exact kx_WrongValue_ValueError
             · exact kx_WrongName_ValueError
             · exact kx_NotPossible_ValueError)),
    xk_WrongName := ⟨C_WrongName, PySem.W.mg_of X G aC_WrongName, (fun i h1 h2 => (by
             have e : i = 0 ∨ i = 1 ∨ i = 2 ∨ i = 3 ∨ i = 4 ∨ i = 5 ∨ i = 6 ∨ i = 7 ∨ i = 8 ∨ i = 9 ∨ i = 10 ∨ i = 11 ∨ i = 12 ∨ i = 13 ∨ i = 14 ∨ i = 15 ∨ i = 16 ∨ i = 17 ∨ i = 18 ∨ i = 19 ∨ i = 20 ∨ i = 21 ∨ i = 22 := by simp only [Zj] at h1 h2; omega
             rcases e with rfl | rfl | rfl | rfl | rfl | rfl | rfl | rfl | rfl | rfl | rfl | rfl | rfl | rfl | rfl | rfl | rfl | rfl | rfl | rfl | rfl | rfl | rfl
             · exact kx_InvalidText_WrongName
             · exact kx_InvalidName_WrongName
             · exact kx_InvalidIndex_WrongName
             · exact kx_InvalidSize_WrongName
             · exact kx_InvalidTable_WrongName
             · exact kx_InvalidView_WrongName
             · exact kx_InvalidWish_WrongName
             · exact kx_NotLot_WrongName
             · exact kx_InvalidTables_WrongName
             · exact kx_InvalidWord_WrongName
             · exact kx_InvalidColumns_WrongName
             · exact kx_InvalidChanges_WrongName
             · exact kx_InvalidWishes_WrongName
             · exact kx_UnknownName_WrongName
             · exact kx_InUse_WrongName
             · exact kx_NotTriangular_WrongName
             · exact kx_OtherSize_WrongName
             · exact kx_TooMany_WrongName
             · exact kx_NothingToUndo_WrongName
             · exact kx_Broken_WrongName
             · exact kx_WrongValue_WrongName
             · exact kx_WrongName_WrongName
             · exact kx_NotPossible_WrongName))⟩,
    xk_WrongValue := ⟨C_WrongValue, PySem.W.mg_of X G aC_WrongValue, (fun i h1 h2 => (by
             have e : i = 0 ∨ i = 1 ∨ i = 2 ∨ i = 3 ∨ i = 4 ∨ i = 5 ∨ i = 6 ∨ i = 7 ∨ i = 8 ∨ i = 9 ∨ i = 10 ∨ i = 11 ∨ i = 12 ∨ i = 13 ∨ i = 14 ∨ i = 15 ∨ i = 16 ∨ i = 17 ∨ i = 18 ∨ i = 19 ∨ i = 20 ∨ i = 21 ∨ i = 22 := by simp only [Zj] at h1 h2; omega
             rcases e with rfl | rfl | rfl | rfl | rfl | rfl | rfl | rfl | rfl | rfl | rfl | rfl | rfl | rfl | rfl | rfl | rfl | rfl | rfl | rfl | rfl | rfl | rfl
             · exact kx_InvalidText_WrongValue
             · exact kx_InvalidName_WrongValue
             · exact kx_InvalidIndex_WrongValue
             · exact kx_InvalidSize_WrongValue
             · exact kx_InvalidTable_WrongValue
             · exact kx_InvalidView_WrongValue
             · exact kx_InvalidWish_WrongValue
             · exact kx_NotLot_WrongValue
             · exact kx_InvalidTables_WrongValue
             · exact kx_InvalidWord_WrongValue
             · exact kx_InvalidColumns_WrongValue
             · exact kx_InvalidChanges_WrongValue
             · exact kx_InvalidWishes_WrongValue
             · exact kx_UnknownName_WrongValue
             · exact kx_InUse_WrongValue
             · exact kx_NotTriangular_WrongValue
             · exact kx_OtherSize_WrongValue
             · exact kx_TooMany_WrongValue
             · exact kx_NothingToUndo_WrongValue
             · exact kx_Broken_WrongValue
             · exact kx_WrongValue_WrongValue
             · exact kx_WrongName_WrongValue
             · exact kx_NotPossible_WrongValue))⟩,
    n_ArithmeticError := PySem.W.mg_none_of X G n_ArithmeticError,
    n_LookupError := PySem.W.mg_none_of X G n_LookupError,
    n_ValueError := PySem.W.mg_none_of X G n_ValueError,
    n_abs := PySem.W.mg_none_of X G n_abs,
    n_all := PySem.W.mg_none_of X G n_all,
    n_divmod := PySem.W.mg_none_of X G n_divmod,
    n_int := PySem.W.mg_none_of X G n_int,
    n_isinstance := PySem.W.mg_none_of X G n_isinstance,
    n_len := PySem.W.mg_none_of X G n_len,
    n_max := PySem.W.mg_none_of X G n_max,
    n_min := PySem.W.mg_none_of X G n_min,
    n_range := PySem.W.mg_none_of X G n_range,
    n_repr := PySem.W.mg_none_of X G n_repr,
    x_MOST_CHANGES := ⟨_, PySem.W.mg_of X G x_MOST_CHANGES⟩,
    x_MOST_COLUMNS := ⟨_, PySem.W.mg_of X G x_MOST_COLUMNS⟩,
    x_MOST_LETTERS := ⟨_, PySem.W.mg_of X G x_MOST_LETTERS⟩,
    x_MOST_NUMBER := ⟨_, PySem.W.mg_of X G x_MOST_NUMBER⟩,
    x_MOST_SIZE := ⟨_, PySem.W.mg_of X G x_MOST_SIZE⟩,
    x_MOST_TABLES := ⟨_, PySem.W.mg_of X G x_MOST_TABLES⟩ }
  refine ⟨_, fun s v => .of_eq rfl, fun base _ _ TB => (fno_next (W := Wj PySem.Challenge.rw_alltriangular_k01_limits_and_errors.prog w K mg base C T0 lvl) (j := lvl) (f := 1011) (d := d_law) (ps := ["_law_script"]) rfl rfl F_law sc_law rfl rfl (b_law (lev F TB lvl))).imp fun vs H Q E h => law_of (Z := Zj K C T0) (t := tab) (J := lvl + 1) (f := 1011) (fun ns h1 h2 => by have z := r_law (n := lvl + 1) (Nat.le_refl _) (scr ns); unfold FP FV at z; rw [plain ns h1 h2] at z; obtain ⟨r, q, e, rfl, _⟩ := z; exact ⟨q, e⟩) h⟩
theorem walk (plain : Plain) {q : Program} {loose : List Str} {XP : (Str → Option Value) → Heap → Prop} {YP : World → Heap → Prop} {d : DefRec} {K : Params → PySem.W.Frag} (hn : PySem.Challenge.rw_alltriangular_k01_limits_and_errors.most = some 63) (hdf : d.params.defaults = [])
    {cs0 : List (Addr × Addr)} {T0 : List (Addr × Str)} (hT0 : ∀ p ∈ T0, p.1 ∈ cs0.map (·.2)) (hY : ∀ (w : World) (h : Heap), YP w h → (K w.params).In h)
    (hcs : ∀ (w : World) (h : Heap), YP w h → CsOk (K w.params) h cs0) (ks : ∀ w : World, (K w.params).lookup sysModules = none) (him : importsNone q = true)
    (F : ∀ (w : World) (mg : Str → Option Value) (fa : Addr) (h : Heap), (K w.params).In h → h.Ns mainGlobals mg → mg d.name = some (.ref fa) →
      ∃ fd : FuncData, (∀ (s : Shared) (u : Value), BindsTo s fd ⟨[u], []⟩ [("_law_script", u)]) ∧ ∀ base : Heap, (K w.params).In base → base.Ns mainGlobals mg → (∀ p ∈ cs0, LamX.TabB base mg p.1 p.2) → FnA PySem.Challenge.rw_alltriangular_k01_limits_and_errors.prog w (K w.params) mg base (L2.CX PySem.Challenge.rw_alltriangular_k01_limits_and_errors.prog w) (4 * lvl + 4) fa fd ["_law_script"] (spLaw (K w.params) T0)) :
    PySem.W.WalkO q loose XP YP PySem.Challenge.rw_alltriangular_k01_limits_and_errors.row.toRowW d [] (fun f vs => PySem.call f vs) :=
  walk_ofA (n := 63) (k := 4 * lvl + 4) (x := "_law_script") (CX := fun w => L2.CX PySem.Challenge.rw_alltriangular_k01_limits_and_errors.prog w) (sp := fun w => spLaw (K w.params) T0) hn (by decide) hdf ⟨rfl, by decide, by decide⟩ hY hcs ks him F (fun w H a ns hl hb hT hO hS => ⟨a, ns, rfl, hS, hl, hb, ⟨fun p hp => LamX.TabS.nil (by obtain ⟨c, hc, e⟩ := List.mem_map.mp (hT0 p hp); rw [← e]; exact hT c hc), hO, ks w⟩, fun _ => rfl⟩) fun w H s e s2 z => by
    obtain ⟨_, _, _, _, _, _, _, _, _, _, _, _, z⟩ := z
    exact z
end M

set_option Elab.async false
set_option linter.all false
set_option maxRecDepth 100000
set_option maxHeartbeats 4000000
/-! k01: each thing of the menu, each class. -/
namespace M
open PySem
def bothR (d : D) : Prop := (m__law_placed d >>= fun l => m__law_some_right l d) = .ok (.bl true) ∧ (m__law_named d >>= fun l => m__law_some_right l d) = .ok (.bl true)
theorem all_cons {α : Type} {P : α → Prop} {x : α} {l : List α} (h1 : P x) (h2 : ∀ y ∈ l, P y) : ∀ y ∈ x :: l, P y := fun y hy => by
  rcases List.mem_cons.mp hy with rfl | hy
  · exact h1
  · exact h2 y hy
theorem all_nil {α : Type} {P : α → Prop} : ∀ y ∈ ([] : List α), P y := fun y hy => by cases hy
theorem both_menu : ∀ d ∈ menu, bothR d := by
  unfold menu
  repeat (refine all_cons (by constructor <;> kernel_rfl) ?_)
  exact all_nil
theorem fold_turns {f : D → D → Mo (Fl D (D × D))} (h : ∀ k p v, Pl k p → k ≤ 1000 → ∃ p', f p v = .ok (.nx p') ∧ Pl (k + 1) p') : ∀ (vs : List D) (k : Nat) (p : D), Pl k p → k + vs.length ≤ 1000 → ∃ p', foldB f p vs = .ok (.nx p')
  | [], _, p, _, _ => ⟨p, rfl⟩
  | v :: vs, k, p, hp, hl => by
    rw [List.length_cons] at hl
    obtain ⟨p1, e1, h1⟩ := h k p v hp (by omega)
    obtain ⟨p2, e2⟩ := fold_turns h vs (k + 1) p1 h1 (by omega)
    exact ⟨p2, by rw [foldB, e1, ok_bind]; exact e2⟩
theorem m_right {p : D} (hp : Pl 0 p) : ∃ p', m__law_right p = .ok (.bl true, p') := by
  have e4 : optM (rng1F [.int 4]) = .ok ((List.range 4).map fun (i : Nat) => D.int i) := o_rng (m := 4) (by decide)
  unfold m__law_right
  simp only [ok_bind, e4]
  obtain ⟨p1, e1⟩ := fold_turns (f := fun v2 v3 => ((m__law_thing v2) >>= fun v5 => ((((m__law_placed v5.1 >>= fun v7 => m__law_some_right v7 v5.1) >>= fun v9 => (tru v9)) >>= fun v10 => .ok (!v10)) >>= fun v11 => if v11 then .ok true else (((m__law_named v5.1 >>= fun v13 => m__law_some_right v13 v5.1) >>= fun v15 => (tru v15)) >>= fun v16 => .ok (!v16))) >>= fun v17 => if v17 then .ok (.ret (.bl false, v5.2)) else (.ok (.nx v5.2)))) (fun k p v hk hl => by
    obtain ⟨d, hd, p', e, h'⟩ := m_thing hk (by omega)
    obtain ⟨b1, b2⟩ := both_menu d hd
    refine ⟨p', ?_, h'⟩
    simp only [e, ok_bind, b1, b2, tru_bl, Bool.not_true, Bool.false_eq_true, if_false]) ((List.range 4).map fun (i : Nat) => D.int i) 0 p hp (by simp)
  rw [e1, ok_bind]
  exact ⟨p1, by rw [Fl.on]; kernel_rfl⟩
theorem plain : ∀ ns : List Int, ns.length ≤ 63 → (∀ z ∈ ns, Builtin.Int.intBits z ≤ 1048576) → m_law (.lst (ns.map D.int)) = .ok (.bl true) := fun ns hn hb => by
  have l6 : lstM [.int 4, .int 3, .int 1000000, .int 40, .int 8, .int 6] = .ok (.lst [.int 4, .int 3, .int 1000000, .int 40, .int 8, .int 6]) := lst_ok (sz (by simp))
  have pw : prm .pow [.int 10, .int 6] = .ok (.int 1000000) := by kernel_rfl
  obtain ⟨r, er⟩ : ∃ r, prm .repr [.lst [.int 4, .int 3, .int 1000000, .int 40, .int 8, .int 6]] = .ok (.str r) ∧ prm .ne [.str r, .str r] = .ok (.bl false) := ⟨"[4, 3, 1000000, 40, 8, 6]", by kernel_rfl, by kernel_rfl⟩
  unfold m_law
  simp only [ok_bind, l6, pw, er.1, er.2, tru_bl, Bool.false_eq_true, if_false, p_lenL, List.length_map, p_min2, p_max2]
  refine (cases_ok (c := 5) (by decide) hn fun k hk => ?_)
  obtain ⟨p, e1, h1⟩ := m_begun (k := k) hn hb hk
  obtain ⟨p', e2⟩ := m_right h1
  simp only [ok_bind, e1, e2]
end M

open PySem PySem.W PyProof.Rows
set_option maxRecDepth 100000 in
set_option maxHeartbeats 0 in
theorem PySem.Challenge.cw_alltriangular_k01_limits_and_errors_holds : PySem.Challenge.rw_alltriangular_k01_limits_and_errors.Holds := by
  w_on; o_law; k_head; (case hw => w_witness2)
  k_fill
  refine M.walk (cs0 := []) (T0 := []) M.plain rfl rfl (fun _ z => nomatch z) (fun w h Y => PySem.W.kIn_of Y) (fun w h Y => ⟨fun _ z => (nomatch z), fun _ z => (nomatch z), fun _ z => (nomatch z)⟩) (fun w => by kernel_rfl) (by kernel_rfl) ?F
  case F =>
    intro w mg fa h KX G hmg
    refine' M.all_mk M.plain KX G hmg ?a__law_cast ?l__law_cast ?c__law_cast ?k__law_cast ?a__law_any_of ?l__law_any_of ?c__law_any_of ?k__law_any_of ?a__law_thing ?l__law_thing ?c__law_thing ?k__law_thing ?a__law_bases ?l__law_bases ?c__law_bases ?k__law_bases ?a__law_flags ?l__law_flags ?c__law_flags ?k__law_flags ?a__law_held ?l__law_held ?c__law_held ?k__law_held ?a__law_some_right ?l__law_some_right ?c__law_some_right ?k__law_some_right ?a__law_placed ?l__law_placed ?c__law_placed ?k__law_placed ?a__law_named ?l__law_named ?c__law_named ?k__law_named ?a__law_right ?l__law_right ?c__law_right ?k__law_right ?a__law_begun ?l__law_begun ?c__law_begun ?k__law_begun ?a_law ?l_law ?c_law ?k_law ?aC_InvalidText ?aC_InvalidName ?aC_InvalidIndex ?aC_InvalidSize ?aC_InvalidTable ?aC_InvalidView ?aC_InvalidWish ?aC_NotLot ?aC_InvalidTables ?aC_InvalidWord ?aC_InvalidColumns ?aC_InvalidChanges ?aC_InvalidWishes ?aC_UnknownName ?aC_InUse ?aC_NotTriangular ?aC_OtherSize ?aC_TooMany ?aC_NothingToUndo ?aC_Broken ?aC_WrongValue ?aC_WrongName ?aC_NotPossible ?ox_InvalidText ?sa_InvalidText ?xb_InvalidText ?ty_InvalidText ?kC_InvalidText ?no_InvalidText ?in_InvalidText ?it_InvalidText ?lx_InvalidText ?cx_InvalidText ?ki_InvalidText ?xg_InvalidText ?xh_InvalidText ?xd_InvalidText ?xa_InvalidText ?xm_InvalidText ?kx_InvalidText_ArithmeticError ?kx_InvalidText_Broken ?kx_InvalidText_InUse ?kx_InvalidText_InvalidChanges ?kx_InvalidText_InvalidColumns ?kx_InvalidText_InvalidIndex ?kx_InvalidText_InvalidName ?kx_InvalidText_InvalidSize ?kx_InvalidText_InvalidTable ?kx_InvalidText_InvalidTables ?kx_InvalidText_InvalidText ?kx_InvalidText_InvalidView ?kx_InvalidText_InvalidWish ?kx_InvalidText_InvalidWishes ?kx_InvalidText_InvalidWord ?kx_InvalidText_LookupError ?kx_InvalidText_NotLot ?kx_InvalidText_NotPossible ?kx_InvalidText_NotTriangular ?kx_InvalidText_NothingToUndo ?kx_InvalidText_OtherSize ?kx_InvalidText_TooMany ?kx_InvalidText_UnknownName ?kx_InvalidText_ValueError ?kx_InvalidText_WrongName ?kx_InvalidText_WrongValue ?ox_InvalidName ?sa_InvalidName ?xb_InvalidName ?ty_InvalidName ?kC_InvalidName ?no_InvalidName ?in_InvalidName ?it_InvalidName ?lx_InvalidName ?cx_InvalidName ?ki_InvalidName ?xg_InvalidName ?xh_InvalidName ?xd_InvalidName ?xa_InvalidName ?xm_InvalidName ?kx_InvalidName_ArithmeticError ?kx_InvalidName_Broken ?kx_InvalidName_InUse ?kx_InvalidName_InvalidChanges ?kx_InvalidName_InvalidColumns ?kx_InvalidName_InvalidIndex ?kx_InvalidName_InvalidName ?kx_InvalidName_InvalidSize ?kx_InvalidName_InvalidTable ?kx_InvalidName_InvalidTables ?kx_InvalidName_InvalidText ?kx_InvalidName_InvalidView ?kx_InvalidName_InvalidWish ?kx_InvalidName_InvalidWishes ?kx_InvalidName_InvalidWord ?kx_InvalidName_LookupError ?kx_InvalidName_NotLot ?kx_InvalidName_NotPossible ?kx_InvalidName_NotTriangular ?kx_InvalidName_NothingToUndo ?kx_InvalidName_OtherSize ?kx_InvalidName_TooMany ?kx_InvalidName_UnknownName ?kx_InvalidName_ValueError ?kx_InvalidName_WrongName ?kx_InvalidName_WrongValue ?ox_InvalidIndex ?sa_InvalidIndex ?xb_InvalidIndex ?ty_InvalidIndex ?kC_InvalidIndex ?no_InvalidIndex ?in_InvalidIndex ?it_InvalidIndex ?lx_InvalidIndex ?cx_InvalidIndex ?ki_InvalidIndex ?xg_InvalidIndex ?xh_InvalidIndex ?xd_InvalidIndex ?xa_InvalidIndex ?xm_InvalidIndex ?kx_InvalidIndex_ArithmeticError ?kx_InvalidIndex_Broken ?kx_InvalidIndex_InUse ?kx_InvalidIndex_InvalidChanges ?kx_InvalidIndex_InvalidColumns ?kx_InvalidIndex_InvalidIndex ?kx_InvalidIndex_InvalidName ?kx_InvalidIndex_InvalidSize ?kx_InvalidIndex_InvalidTable ?kx_InvalidIndex_InvalidTables ?kx_InvalidIndex_InvalidText ?kx_InvalidIndex_InvalidView ?kx_InvalidIndex_InvalidWish ?kx_InvalidIndex_InvalidWishes ?kx_InvalidIndex_InvalidWord ?kx_InvalidIndex_LookupError ?kx_InvalidIndex_NotLot ?kx_InvalidIndex_NotPossible ?kx_InvalidIndex_NotTriangular ?kx_InvalidIndex_NothingToUndo ?kx_InvalidIndex_OtherSize ?kx_InvalidIndex_TooMany ?kx_InvalidIndex_UnknownName ?kx_InvalidIndex_ValueError ?kx_InvalidIndex_WrongName ?kx_InvalidIndex_WrongValue ?ox_InvalidSize ?sa_InvalidSize ?xb_InvalidSize ?ty_InvalidSize ?kC_InvalidSize ?no_InvalidSize ?in_InvalidSize ?it_InvalidSize ?lx_InvalidSize ?cx_InvalidSize ?ki_InvalidSize ?xg_InvalidSize ?xh_InvalidSize ?xd_InvalidSize ?xa_InvalidSize ?xm_InvalidSize ?kx_InvalidSize_ArithmeticError ?kx_InvalidSize_Broken ?kx_InvalidSize_InUse ?kx_InvalidSize_InvalidChanges ?kx_InvalidSize_InvalidColumns ?kx_InvalidSize_InvalidIndex ?kx_InvalidSize_InvalidName ?kx_InvalidSize_InvalidSize ?kx_InvalidSize_InvalidTable ?kx_InvalidSize_InvalidTables ?kx_InvalidSize_InvalidText ?kx_InvalidSize_InvalidView ?kx_InvalidSize_InvalidWish ?kx_InvalidSize_InvalidWishes ?kx_InvalidSize_InvalidWord ?kx_InvalidSize_LookupError ?kx_InvalidSize_NotLot ?kx_InvalidSize_NotPossible ?kx_InvalidSize_NotTriangular ?kx_InvalidSize_NothingToUndo ?kx_InvalidSize_OtherSize ?kx_InvalidSize_TooMany ?kx_InvalidSize_UnknownName ?kx_InvalidSize_ValueError ?kx_InvalidSize_WrongName ?kx_InvalidSize_WrongValue ?ox_InvalidTable ?sa_InvalidTable ?xb_InvalidTable ?ty_InvalidTable ?kC_InvalidTable ?no_InvalidTable ?in_InvalidTable ?it_InvalidTable ?lx_InvalidTable ?cx_InvalidTable ?ki_InvalidTable ?xg_InvalidTable ?xh_InvalidTable ?xd_InvalidTable ?xa_InvalidTable ?xm_InvalidTable ?kx_InvalidTable_ArithmeticError ?kx_InvalidTable_Broken ?kx_InvalidTable_InUse ?kx_InvalidTable_InvalidChanges ?kx_InvalidTable_InvalidColumns ?kx_InvalidTable_InvalidIndex ?kx_InvalidTable_InvalidName ?kx_InvalidTable_InvalidSize ?kx_InvalidTable_InvalidTable ?kx_InvalidTable_InvalidTables ?kx_InvalidTable_InvalidText ?kx_InvalidTable_InvalidView ?kx_InvalidTable_InvalidWish ?kx_InvalidTable_InvalidWishes ?kx_InvalidTable_InvalidWord ?kx_InvalidTable_LookupError ?kx_InvalidTable_NotLot ?kx_InvalidTable_NotPossible ?kx_InvalidTable_NotTriangular ?kx_InvalidTable_NothingToUndo ?kx_InvalidTable_OtherSize ?kx_InvalidTable_TooMany ?kx_InvalidTable_UnknownName ?kx_InvalidTable_ValueError ?kx_InvalidTable_WrongName ?kx_InvalidTable_WrongValue ?ox_InvalidView ?sa_InvalidView ?xb_InvalidView ?ty_InvalidView ?kC_InvalidView ?no_InvalidView ?in_InvalidView ?it_InvalidView ?lx_InvalidView ?cx_InvalidView ?ki_InvalidView ?xg_InvalidView ?xh_InvalidView ?xd_InvalidView ?xa_InvalidView ?xm_InvalidView ?kx_InvalidView_ArithmeticError ?kx_InvalidView_Broken ?kx_InvalidView_InUse ?kx_InvalidView_InvalidChanges ?kx_InvalidView_InvalidColumns ?kx_InvalidView_InvalidIndex ?kx_InvalidView_InvalidName ?kx_InvalidView_InvalidSize ?kx_InvalidView_InvalidTable ?kx_InvalidView_InvalidTables ?kx_InvalidView_InvalidText ?kx_InvalidView_InvalidView ?kx_InvalidView_InvalidWish ?kx_InvalidView_InvalidWishes ?kx_InvalidView_InvalidWord ?kx_InvalidView_LookupError ?kx_InvalidView_NotLot ?kx_InvalidView_NotPossible ?kx_InvalidView_NotTriangular ?kx_InvalidView_NothingToUndo ?kx_InvalidView_OtherSize ?kx_InvalidView_TooMany ?kx_InvalidView_UnknownName ?kx_InvalidView_ValueError ?kx_InvalidView_WrongName ?kx_InvalidView_WrongValue ?ox_InvalidWish ?sa_InvalidWish ?xb_InvalidWish ?ty_InvalidWish ?kC_InvalidWish ?no_InvalidWish ?in_InvalidWish ?it_InvalidWish ?lx_InvalidWish ?cx_InvalidWish ?ki_InvalidWish ?xg_InvalidWish ?xh_InvalidWish ?xd_InvalidWish ?xa_InvalidWish ?xm_InvalidWish ?kx_InvalidWish_ArithmeticError ?kx_InvalidWish_Broken ?kx_InvalidWish_InUse ?kx_InvalidWish_InvalidChanges ?kx_InvalidWish_InvalidColumns ?kx_InvalidWish_InvalidIndex ?kx_InvalidWish_InvalidName ?kx_InvalidWish_InvalidSize ?kx_InvalidWish_InvalidTable ?kx_InvalidWish_InvalidTables ?kx_InvalidWish_InvalidText ?kx_InvalidWish_InvalidView ?kx_InvalidWish_InvalidWish ?kx_InvalidWish_InvalidWishes ?kx_InvalidWish_InvalidWord ?kx_InvalidWish_LookupError ?kx_InvalidWish_NotLot ?kx_InvalidWish_NotPossible ?kx_InvalidWish_NotTriangular ?kx_InvalidWish_NothingToUndo ?kx_InvalidWish_OtherSize ?kx_InvalidWish_TooMany ?kx_InvalidWish_UnknownName ?kx_InvalidWish_ValueError ?kx_InvalidWish_WrongName ?kx_InvalidWish_WrongValue ?ox_NotLot ?sa_NotLot ?xb_NotLot ?ty_NotLot ?kC_NotLot ?no_NotLot ?in_NotLot ?it_NotLot ?lx_NotLot ?cx_NotLot ?ki_NotLot ?xg_NotLot ?xh_NotLot ?xd_NotLot ?xa_NotLot ?xm_NotLot ?kx_NotLot_ArithmeticError ?kx_NotLot_Broken ?kx_NotLot_InUse ?kx_NotLot_InvalidChanges ?kx_NotLot_InvalidColumns ?kx_NotLot_InvalidIndex ?kx_NotLot_InvalidName ?kx_NotLot_InvalidSize ?kx_NotLot_InvalidTable ?kx_NotLot_InvalidTables ?kx_NotLot_InvalidText ?kx_NotLot_InvalidView ?kx_NotLot_InvalidWish ?kx_NotLot_InvalidWishes ?kx_NotLot_InvalidWord ?kx_NotLot_LookupError ?kx_NotLot_NotLot ?kx_NotLot_NotPossible ?kx_NotLot_NotTriangular ?kx_NotLot_NothingToUndo ?kx_NotLot_OtherSize ?kx_NotLot_TooMany ?kx_NotLot_UnknownName ?kx_NotLot_ValueError ?kx_NotLot_WrongName ?kx_NotLot_WrongValue ?ox_InvalidTables ?sa_InvalidTables ?xb_InvalidTables ?ty_InvalidTables ?kC_InvalidTables ?no_InvalidTables ?in_InvalidTables ?it_InvalidTables ?lx_InvalidTables ?cx_InvalidTables ?ki_InvalidTables ?xg_InvalidTables ?xh_InvalidTables ?xd_InvalidTables ?xa_InvalidTables ?xm_InvalidTables ?kx_InvalidTables_ArithmeticError ?kx_InvalidTables_Broken ?kx_InvalidTables_InUse ?kx_InvalidTables_InvalidChanges ?kx_InvalidTables_InvalidColumns ?kx_InvalidTables_InvalidIndex ?kx_InvalidTables_InvalidName ?kx_InvalidTables_InvalidSize ?kx_InvalidTables_InvalidTable ?kx_InvalidTables_InvalidTables ?kx_InvalidTables_InvalidText ?kx_InvalidTables_InvalidView ?kx_InvalidTables_InvalidWish ?kx_InvalidTables_InvalidWishes ?kx_InvalidTables_InvalidWord ?kx_InvalidTables_LookupError ?kx_InvalidTables_NotLot ?kx_InvalidTables_NotPossible ?kx_InvalidTables_NotTriangular ?kx_InvalidTables_NothingToUndo ?kx_InvalidTables_OtherSize ?kx_InvalidTables_TooMany ?kx_InvalidTables_UnknownName ?kx_InvalidTables_ValueError ?kx_InvalidTables_WrongName ?kx_InvalidTables_WrongValue ?ox_InvalidWord ?sa_InvalidWord ?xb_InvalidWord ?ty_InvalidWord ?kC_InvalidWord ?no_InvalidWord ?in_InvalidWord ?it_InvalidWord ?lx_InvalidWord ?cx_InvalidWord ?ki_InvalidWord ?xg_InvalidWord ?xh_InvalidWord ?xd_InvalidWord ?xa_InvalidWord ?xm_InvalidWord ?kx_InvalidWord_ArithmeticError ?kx_InvalidWord_Broken ?kx_InvalidWord_InUse ?kx_InvalidWord_InvalidChanges ?kx_InvalidWord_InvalidColumns ?kx_InvalidWord_InvalidIndex ?kx_InvalidWord_InvalidName ?kx_InvalidWord_InvalidSize ?kx_InvalidWord_InvalidTable ?kx_InvalidWord_InvalidTables ?kx_InvalidWord_InvalidText ?kx_InvalidWord_InvalidView ?kx_InvalidWord_InvalidWish ?kx_InvalidWord_InvalidWishes ?kx_InvalidWord_InvalidWord ?kx_InvalidWord_LookupError ?kx_InvalidWord_NotLot ?kx_InvalidWord_NotPossible ?kx_InvalidWord_NotTriangular ?kx_InvalidWord_NothingToUndo ?kx_InvalidWord_OtherSize ?kx_InvalidWord_TooMany ?kx_InvalidWord_UnknownName ?kx_InvalidWord_ValueError ?kx_InvalidWord_WrongName ?kx_InvalidWord_WrongValue ?ox_InvalidColumns ?sa_InvalidColumns ?xb_InvalidColumns ?ty_InvalidColumns ?kC_InvalidColumns ?no_InvalidColumns ?in_InvalidColumns ?it_InvalidColumns ?lx_InvalidColumns ?cx_InvalidColumns ?ki_InvalidColumns ?xg_InvalidColumns ?xh_InvalidColumns ?xd_InvalidColumns ?xa_InvalidColumns ?xm_InvalidColumns ?kx_InvalidColumns_ArithmeticError ?kx_InvalidColumns_Broken ?kx_InvalidColumns_InUse ?kx_InvalidColumns_InvalidChanges ?kx_InvalidColumns_InvalidColumns ?kx_InvalidColumns_InvalidIndex ?kx_InvalidColumns_InvalidName ?kx_InvalidColumns_InvalidSize ?kx_InvalidColumns_InvalidTable ?kx_InvalidColumns_InvalidTables ?kx_InvalidColumns_InvalidText ?kx_InvalidColumns_InvalidView ?kx_InvalidColumns_InvalidWish ?kx_InvalidColumns_InvalidWishes ?kx_InvalidColumns_InvalidWord ?kx_InvalidColumns_LookupError ?kx_InvalidColumns_NotLot ?kx_InvalidColumns_NotPossible ?kx_InvalidColumns_NotTriangular ?kx_InvalidColumns_NothingToUndo ?kx_InvalidColumns_OtherSize ?kx_InvalidColumns_TooMany ?kx_InvalidColumns_UnknownName ?kx_InvalidColumns_ValueError ?kx_InvalidColumns_WrongName ?kx_InvalidColumns_WrongValue ?ox_InvalidChanges ?sa_InvalidChanges ?xb_InvalidChanges ?ty_InvalidChanges ?kC_InvalidChanges ?no_InvalidChanges ?in_InvalidChanges ?it_InvalidChanges ?lx_InvalidChanges ?cx_InvalidChanges ?ki_InvalidChanges ?xg_InvalidChanges ?xh_InvalidChanges ?xd_InvalidChanges ?xa_InvalidChanges ?xm_InvalidChanges ?kx_InvalidChanges_ArithmeticError ?kx_InvalidChanges_Broken ?kx_InvalidChanges_InUse ?kx_InvalidChanges_InvalidChanges ?kx_InvalidChanges_InvalidColumns ?kx_InvalidChanges_InvalidIndex ?kx_InvalidChanges_InvalidName ?kx_InvalidChanges_InvalidSize ?kx_InvalidChanges_InvalidTable ?kx_InvalidChanges_InvalidTables ?kx_InvalidChanges_InvalidText ?kx_InvalidChanges_InvalidView ?kx_InvalidChanges_InvalidWish ?kx_InvalidChanges_InvalidWishes ?kx_InvalidChanges_InvalidWord ?kx_InvalidChanges_LookupError ?kx_InvalidChanges_NotLot ?kx_InvalidChanges_NotPossible ?kx_InvalidChanges_NotTriangular ?kx_InvalidChanges_NothingToUndo ?kx_InvalidChanges_OtherSize ?kx_InvalidChanges_TooMany ?kx_InvalidChanges_UnknownName ?kx_InvalidChanges_ValueError ?kx_InvalidChanges_WrongName ?kx_InvalidChanges_WrongValue ?ox_InvalidWishes ?sa_InvalidWishes ?xb_InvalidWishes ?ty_InvalidWishes ?kC_InvalidWishes ?no_InvalidWishes ?in_InvalidWishes ?it_InvalidWishes ?lx_InvalidWishes ?cx_InvalidWishes ?ki_InvalidWishes ?xg_InvalidWishes ?xh_InvalidWishes ?xd_InvalidWishes ?xa_InvalidWishes ?xm_InvalidWishes ?kx_InvalidWishes_ArithmeticError ?kx_InvalidWishes_Broken ?kx_InvalidWishes_InUse ?kx_InvalidWishes_InvalidChanges ?kx_InvalidWishes_InvalidColumns ?kx_InvalidWishes_InvalidIndex ?kx_InvalidWishes_InvalidName ?kx_InvalidWishes_InvalidSize ?kx_InvalidWishes_InvalidTable ?kx_InvalidWishes_InvalidTables ?kx_InvalidWishes_InvalidText ?kx_InvalidWishes_InvalidView ?kx_InvalidWishes_InvalidWish ?kx_InvalidWishes_InvalidWishes ?kx_InvalidWishes_InvalidWord ?kx_InvalidWishes_LookupError ?kx_InvalidWishes_NotLot ?kx_InvalidWishes_NotPossible ?kx_InvalidWishes_NotTriangular ?kx_InvalidWishes_NothingToUndo ?kx_InvalidWishes_OtherSize ?kx_InvalidWishes_TooMany ?kx_InvalidWishes_UnknownName ?kx_InvalidWishes_ValueError ?kx_InvalidWishes_WrongName ?kx_InvalidWishes_WrongValue ?ox_UnknownName ?sa_UnknownName ?xb_UnknownName ?ty_UnknownName ?kC_UnknownName ?no_UnknownName ?in_UnknownName ?it_UnknownName ?lx_UnknownName ?cx_UnknownName ?ki_UnknownName ?xg_UnknownName ?xh_UnknownName ?xd_UnknownName ?xa_UnknownName ?xm_UnknownName ?kx_UnknownName_ArithmeticError ?kx_UnknownName_Broken ?kx_UnknownName_InUse ?kx_UnknownName_InvalidChanges ?kx_UnknownName_InvalidColumns ?kx_UnknownName_InvalidIndex ?kx_UnknownName_InvalidName ?kx_UnknownName_InvalidSize ?kx_UnknownName_InvalidTable ?kx_UnknownName_InvalidTables ?kx_UnknownName_InvalidText ?kx_UnknownName_InvalidView ?kx_UnknownName_InvalidWish ?kx_UnknownName_InvalidWishes ?kx_UnknownName_InvalidWord ?kx_UnknownName_LookupError ?kx_UnknownName_NotLot ?kx_UnknownName_NotPossible ?kx_UnknownName_NotTriangular ?kx_UnknownName_NothingToUndo ?kx_UnknownName_OtherSize ?kx_UnknownName_TooMany ?kx_UnknownName_UnknownName ?kx_UnknownName_ValueError ?kx_UnknownName_WrongName ?kx_UnknownName_WrongValue ?ox_InUse ?sa_InUse ?xb_InUse ?ty_InUse ?kC_InUse ?no_InUse ?in_InUse ?it_InUse ?lx_InUse ?cx_InUse ?ki_InUse ?xg_InUse ?xh_InUse ?xd_InUse ?xa_InUse ?xm_InUse ?kx_InUse_ArithmeticError ?kx_InUse_Broken ?kx_InUse_InUse ?kx_InUse_InvalidChanges ?kx_InUse_InvalidColumns ?kx_InUse_InvalidIndex ?kx_InUse_InvalidName ?kx_InUse_InvalidSize ?kx_InUse_InvalidTable ?kx_InUse_InvalidTables ?kx_InUse_InvalidText ?kx_InUse_InvalidView ?kx_InUse_InvalidWish ?kx_InUse_InvalidWishes ?kx_InUse_InvalidWord ?kx_InUse_LookupError ?kx_InUse_NotLot ?kx_InUse_NotPossible ?kx_InUse_NotTriangular ?kx_InUse_NothingToUndo ?kx_InUse_OtherSize ?kx_InUse_TooMany ?kx_InUse_UnknownName ?kx_InUse_ValueError ?kx_InUse_WrongName ?kx_InUse_WrongValue ?ox_NotTriangular ?sa_NotTriangular ?xb_NotTriangular ?ty_NotTriangular ?kC_NotTriangular ?no_NotTriangular ?in_NotTriangular ?it_NotTriangular ?lx_NotTriangular ?cx_NotTriangular ?ki_NotTriangular ?xg_NotTriangular ?xh_NotTriangular ?xd_NotTriangular ?xa_NotTriangular ?xm_NotTriangular ?kx_NotTriangular_ArithmeticError ?kx_NotTriangular_Broken ?kx_NotTriangular_InUse ?kx_NotTriangular_InvalidChanges ?kx_NotTriangular_InvalidColumns ?kx_NotTriangular_InvalidIndex ?kx_NotTriangular_InvalidName ?kx_NotTriangular_InvalidSize ?kx_NotTriangular_InvalidTable ?kx_NotTriangular_InvalidTables ?kx_NotTriangular_InvalidText ?kx_NotTriangular_InvalidView ?kx_NotTriangular_InvalidWish ?kx_NotTriangular_InvalidWishes ?kx_NotTriangular_InvalidWord ?kx_NotTriangular_LookupError ?kx_NotTriangular_NotLot ?kx_NotTriangular_NotPossible ?kx_NotTriangular_NotTriangular ?kx_NotTriangular_NothingToUndo ?kx_NotTriangular_OtherSize ?kx_NotTriangular_TooMany ?kx_NotTriangular_UnknownName ?kx_NotTriangular_ValueError ?kx_NotTriangular_WrongName ?kx_NotTriangular_WrongValue ?ox_OtherSize ?sa_OtherSize ?xb_OtherSize ?ty_OtherSize ?kC_OtherSize ?no_OtherSize ?in_OtherSize ?it_OtherSize ?lx_OtherSize ?cx_OtherSize ?ki_OtherSize ?xg_OtherSize ?xh_OtherSize ?xd_OtherSize ?xa_OtherSize ?xm_OtherSize ?kx_OtherSize_ArithmeticError ?kx_OtherSize_Broken ?kx_OtherSize_InUse ?kx_OtherSize_InvalidChanges ?kx_OtherSize_InvalidColumns ?kx_OtherSize_InvalidIndex ?kx_OtherSize_InvalidName ?kx_OtherSize_InvalidSize ?kx_OtherSize_InvalidTable ?kx_OtherSize_InvalidTables ?kx_OtherSize_InvalidText ?kx_OtherSize_InvalidView ?kx_OtherSize_InvalidWish ?kx_OtherSize_InvalidWishes ?kx_OtherSize_InvalidWord ?kx_OtherSize_LookupError ?kx_OtherSize_NotLot ?kx_OtherSize_NotPossible ?kx_OtherSize_NotTriangular ?kx_OtherSize_NothingToUndo ?kx_OtherSize_OtherSize ?kx_OtherSize_TooMany ?kx_OtherSize_UnknownName ?kx_OtherSize_ValueError ?kx_OtherSize_WrongName ?kx_OtherSize_WrongValue ?ox_TooMany ?sa_TooMany ?xb_TooMany ?ty_TooMany ?kC_TooMany ?no_TooMany ?in_TooMany ?it_TooMany ?lx_TooMany ?cx_TooMany ?ki_TooMany ?xg_TooMany ?xh_TooMany ?xd_TooMany ?xa_TooMany ?xm_TooMany ?kx_TooMany_ArithmeticError ?kx_TooMany_Broken ?kx_TooMany_InUse ?kx_TooMany_InvalidChanges ?kx_TooMany_InvalidColumns ?kx_TooMany_InvalidIndex ?kx_TooMany_InvalidName ?kx_TooMany_InvalidSize ?kx_TooMany_InvalidTable ?kx_TooMany_InvalidTables ?kx_TooMany_InvalidText ?kx_TooMany_InvalidView ?kx_TooMany_InvalidWish ?kx_TooMany_InvalidWishes ?kx_TooMany_InvalidWord ?kx_TooMany_LookupError ?kx_TooMany_NotLot ?kx_TooMany_NotPossible ?kx_TooMany_NotTriangular ?kx_TooMany_NothingToUndo ?kx_TooMany_OtherSize ?kx_TooMany_TooMany ?kx_TooMany_UnknownName ?kx_TooMany_ValueError ?kx_TooMany_WrongName ?kx_TooMany_WrongValue ?xe_NothingToUndo ?xb_NothingToUndo ?ty_NothingToUndo ?kC_NothingToUndo ?xg_NothingToUndo ?xh_NothingToUndo ?xd_NothingToUndo ?xa_NothingToUndo ?xm_NothingToUndo ?kx_NothingToUndo_ArithmeticError ?kx_NothingToUndo_Broken ?kx_NothingToUndo_InUse ?kx_NothingToUndo_InvalidChanges ?kx_NothingToUndo_InvalidColumns ?kx_NothingToUndo_InvalidIndex ?kx_NothingToUndo_InvalidName ?kx_NothingToUndo_InvalidSize ?kx_NothingToUndo_InvalidTable ?kx_NothingToUndo_InvalidTables ?kx_NothingToUndo_InvalidText ?kx_NothingToUndo_InvalidView ?kx_NothingToUndo_InvalidWish ?kx_NothingToUndo_InvalidWishes ?kx_NothingToUndo_InvalidWord ?kx_NothingToUndo_LookupError ?kx_NothingToUndo_NotLot ?kx_NothingToUndo_NotPossible ?kx_NothingToUndo_NotTriangular ?kx_NothingToUndo_NothingToUndo ?kx_NothingToUndo_OtherSize ?kx_NothingToUndo_TooMany ?kx_NothingToUndo_UnknownName ?kx_NothingToUndo_ValueError ?kx_NothingToUndo_WrongName ?kx_NothingToUndo_WrongValue ?ox_Broken ?sa_Broken ?xb_Broken ?ty_Broken ?kC_Broken ?no_Broken ?in_Broken ?it_Broken ?lx_Broken ?cx_Broken ?ki_Broken ?xg_Broken ?xh_Broken ?xd_Broken ?xa_Broken ?xm_Broken ?kx_Broken_ArithmeticError ?kx_Broken_Broken ?kx_Broken_InUse ?kx_Broken_InvalidChanges ?kx_Broken_InvalidColumns ?kx_Broken_InvalidIndex ?kx_Broken_InvalidName ?kx_Broken_InvalidSize ?kx_Broken_InvalidTable ?kx_Broken_InvalidTables ?kx_Broken_InvalidText ?kx_Broken_InvalidView ?kx_Broken_InvalidWish ?kx_Broken_InvalidWishes ?kx_Broken_InvalidWord ?kx_Broken_LookupError ?kx_Broken_NotLot ?kx_Broken_NotPossible ?kx_Broken_NotTriangular ?kx_Broken_NothingToUndo ?kx_Broken_OtherSize ?kx_Broken_TooMany ?kx_Broken_UnknownName ?kx_Broken_ValueError ?kx_Broken_WrongName ?kx_Broken_WrongValue ?xe_WrongValue ?xb_WrongValue ?ty_WrongValue ?kC_WrongValue ?xg_WrongValue ?xh_WrongValue ?xd_WrongValue ?xa_WrongValue ?xm_WrongValue ?kx_WrongValue_ArithmeticError ?kx_WrongValue_Broken ?kx_WrongValue_InUse ?kx_WrongValue_InvalidChanges ?kx_WrongValue_InvalidColumns ?kx_WrongValue_InvalidIndex ?kx_WrongValue_InvalidName ?kx_WrongValue_InvalidSize ?kx_WrongValue_InvalidTable ?kx_WrongValue_InvalidTables ?kx_WrongValue_InvalidText ?kx_WrongValue_InvalidView ?kx_WrongValue_InvalidWish ?kx_WrongValue_InvalidWishes ?kx_WrongValue_InvalidWord ?kx_WrongValue_LookupError ?kx_WrongValue_NotLot ?kx_WrongValue_NotPossible ?kx_WrongValue_NotTriangular ?kx_WrongValue_NothingToUndo ?kx_WrongValue_OtherSize ?kx_WrongValue_TooMany ?kx_WrongValue_UnknownName ?kx_WrongValue_ValueError ?kx_WrongValue_WrongName ?kx_WrongValue_WrongValue ?xe_WrongName ?xb_WrongName ?ty_WrongName ?kC_WrongName ?xg_WrongName ?xh_WrongName ?xd_WrongName ?xa_WrongName ?xm_WrongName ?kx_WrongName_ArithmeticError ?kx_WrongName_Broken ?kx_WrongName_InUse ?kx_WrongName_InvalidChanges ?kx_WrongName_InvalidColumns ?kx_WrongName_InvalidIndex ?kx_WrongName_InvalidName ?kx_WrongName_InvalidSize ?kx_WrongName_InvalidTable ?kx_WrongName_InvalidTables ?kx_WrongName_InvalidText ?kx_WrongName_InvalidView ?kx_WrongName_InvalidWish ?kx_WrongName_InvalidWishes ?kx_WrongName_InvalidWord ?kx_WrongName_LookupError ?kx_WrongName_NotLot ?kx_WrongName_NotPossible ?kx_WrongName_NotTriangular ?kx_WrongName_NothingToUndo ?kx_WrongName_OtherSize ?kx_WrongName_TooMany ?kx_WrongName_UnknownName ?kx_WrongName_ValueError ?kx_WrongName_WrongName ?kx_WrongName_WrongValue ?xe_NotPossible ?xb_NotPossible ?ty_NotPossible ?kC_NotPossible ?xg_NotPossible ?xh_NotPossible ?xd_NotPossible ?xa_NotPossible ?xm_NotPossible ?kx_NotPossible_ArithmeticError ?kx_NotPossible_Broken ?kx_NotPossible_InUse ?kx_NotPossible_InvalidChanges ?kx_NotPossible_InvalidColumns ?kx_NotPossible_InvalidIndex ?kx_NotPossible_InvalidName ?kx_NotPossible_InvalidSize ?kx_NotPossible_InvalidTable ?kx_NotPossible_InvalidTables ?kx_NotPossible_InvalidText ?kx_NotPossible_InvalidView ?kx_NotPossible_InvalidWish ?kx_NotPossible_InvalidWishes ?kx_NotPossible_InvalidWord ?kx_NotPossible_LookupError ?kx_NotPossible_NotLot ?kx_NotPossible_NotPossible ?kx_NotPossible_NotTriangular ?kx_NotPossible_NothingToUndo ?kx_NotPossible_OtherSize ?kx_NotPossible_TooMany ?kx_NotPossible_UnknownName ?kx_NotPossible_ValueError ?kx_NotPossible_WrongName ?kx_NotPossible_WrongValue ?cn ?ct ?n_ArithmeticError ?n_LookupError ?n_ValueError ?n_abs ?n_all ?n_divmod ?n_int ?n_isinstance ?n_len ?n_max ?n_min ?n_range ?n_repr ?x_MOST_CHANGES ?x_MOST_COLUMNS ?x_MOST_LETTERS ?x_MOST_NUMBER ?x_MOST_SIZE ?x_MOST_TABLES
    (case a__law_cast => k_is)
    (case l__law_cast => k_is)
    (case c__law_cast => k_is)
    (case k__law_cast => k_is)
    (case a__law_any_of => k_is)
    (case l__law_any_of => k_is)
    (case c__law_any_of => k_is)
    (case k__law_any_of => k_is)
    (case a__law_thing => k_is)
    (case l__law_thing => k_is)
    (case c__law_thing => k_is)
    (case k__law_thing => k_is)
    (case a__law_bases => k_is)
    (case l__law_bases => k_is)
    (case c__law_bases => k_is)
    (case k__law_bases => k_is)
    (case a__law_flags => k_is)
    (case l__law_flags => k_is)
    (case c__law_flags => k_is)
    (case k__law_flags => k_is)
    (case a__law_held => k_is)
    (case l__law_held => k_is)
    (case c__law_held => k_is)
    (case k__law_held => k_is)
    (case a__law_some_right => k_is)
    (case l__law_some_right => k_is)
    (case c__law_some_right => k_is)
    (case k__law_some_right => k_is)
    (case a__law_placed => k_is)
    (case l__law_placed => k_is)
    (case c__law_placed => k_is)
    (case k__law_placed => k_is)
    (case a__law_named => k_is)
    (case l__law_named => k_is)
    (case c__law_named => k_is)
    (case k__law_named => k_is)
    (case a__law_right => k_is)
    (case l__law_right => k_is)
    (case c__law_right => k_is)
    (case k__law_right => k_is)
    (case a__law_begun => k_is)
    (case l__law_begun => k_is)
    (case c__law_begun => k_is)
    (case k__law_begun => k_is)
    (case a_law => k_is)
    (case l_law => k_is)
    (case c_law => k_is)
    (case k_law => k_is)
    (case aC_InvalidText => k_is)
    (case aC_InvalidName => k_is)
    (case aC_InvalidIndex => k_is)
    (case aC_InvalidSize => k_is)
    (case aC_InvalidTable => k_is)
    (case aC_InvalidView => k_is)
    (case aC_InvalidWish => k_is)
    (case aC_NotLot => k_is)
    (case aC_InvalidTables => k_is)
    (case aC_InvalidWord => k_is)
    (case aC_InvalidColumns => k_is)
    (case aC_InvalidChanges => k_is)
    (case aC_InvalidWishes => k_is)
    (case aC_UnknownName => k_is)
    (case aC_InUse => k_is)
    (case aC_NotTriangular => k_is)
    (case aC_OtherSize => k_is)
    (case aC_TooMany => k_is)
    (case aC_NothingToUndo => k_is)
    (case aC_Broken => k_is)
    (case aC_WrongValue => k_is)
    (case aC_WrongName => k_is)
    (case aC_NotPossible => k_is)
    (case ox_InvalidText => exact ⟨_, _, _, _, _, _, _, _, _, _, _, _, _, _, _, (by k_is), (by decide)⟩)
    (case sa_InvalidText => k_is)
    (case xb_InvalidText => k_is)
    (case ty_InvalidText => k_is)
    (case kC_InvalidText => k_is)
    (case no_InvalidText => k_is)
    (case in_InvalidText => k_is)
    (case it_InvalidText => k_is)
    (case lx_InvalidText => k_is)
    (case cx_InvalidText => k_is)
    (case ki_InvalidText => k_is)
    (case xg_InvalidText => k_is)
    (case xh_InvalidText => k_is)
    (case xd_InvalidText => k_is)
    (case xa_InvalidText => k_is)
    (case xm_InvalidText => k_is)
    (case kx_InvalidText_ArithmeticError => kit_is)
    (case kx_InvalidText_Broken => kit_is)
    (case kx_InvalidText_InUse => kit_is)
    (case kx_InvalidText_InvalidChanges => kit_is)
    (case kx_InvalidText_InvalidColumns => kit_is)
    (case kx_InvalidText_InvalidIndex => kit_is)
    (case kx_InvalidText_InvalidName => kit_is)
    (case kx_InvalidText_InvalidSize => kit_is)
    (case kx_InvalidText_InvalidTable => kit_is)
    (case kx_InvalidText_InvalidTables => kit_is)
    (case kx_InvalidText_InvalidText => kit_is)
    (case kx_InvalidText_InvalidView => kit_is)
    (case kx_InvalidText_InvalidWish => kit_is)
    (case kx_InvalidText_InvalidWishes => kit_is)
    (case kx_InvalidText_InvalidWord => kit_is)
    (case kx_InvalidText_LookupError => kit_is)
    (case kx_InvalidText_NotLot => kit_is)
    (case kx_InvalidText_NotPossible => kit_is)
    (case kx_InvalidText_NotTriangular => kit_is)
    (case kx_InvalidText_NothingToUndo => kit_is)
    (case kx_InvalidText_OtherSize => kit_is)
    (case kx_InvalidText_TooMany => kit_is)
    (case kx_InvalidText_UnknownName => kit_is)
    (case kx_InvalidText_ValueError => kit_is)
    (case kx_InvalidText_WrongName => kit_is)
    (case kx_InvalidText_WrongValue => kit_is)
    (case ox_InvalidName => exact ⟨_, _, _, _, _, _, _, _, _, _, _, _, _, _, _, (by k_is), (by decide)⟩)
    (case sa_InvalidName => k_is)
    (case xb_InvalidName => k_is)
    (case ty_InvalidName => k_is)
    (case kC_InvalidName => k_is)
    (case no_InvalidName => k_is)
    (case in_InvalidName => k_is)
    (case it_InvalidName => k_is)
    (case lx_InvalidName => k_is)
    (case cx_InvalidName => k_is)
    (case ki_InvalidName => k_is)
    (case xg_InvalidName => k_is)
    (case xh_InvalidName => k_is)
    (case xd_InvalidName => k_is)
    (case xa_InvalidName => k_is)
    (case xm_InvalidName => k_is)
    (case kx_InvalidName_ArithmeticError => kit_is)
    (case kx_InvalidName_Broken => kit_is)
    (case kx_InvalidName_InUse => kit_is)
    (case kx_InvalidName_InvalidChanges => kit_is)
    (case kx_InvalidName_InvalidColumns => kit_is)
    (case kx_InvalidName_InvalidIndex => kit_is)
    (case kx_InvalidName_InvalidName => kit_is)
    (case kx_InvalidName_InvalidSize => kit_is)
    (case kx_InvalidName_InvalidTable => kit_is)
    (case kx_InvalidName_InvalidTables => kit_is)
    (case kx_InvalidName_InvalidText => kit_is)
    (case kx_InvalidName_InvalidView => kit_is)
    (case kx_InvalidName_InvalidWish => kit_is)
    (case kx_InvalidName_InvalidWishes => kit_is)
    (case kx_InvalidName_InvalidWord => kit_is)
    (case kx_InvalidName_LookupError => kit_is)
    (case kx_InvalidName_NotLot => kit_is)
    (case kx_InvalidName_NotPossible => kit_is)
    (case kx_InvalidName_NotTriangular => kit_is)
    (case kx_InvalidName_NothingToUndo => kit_is)
    (case kx_InvalidName_OtherSize => kit_is)
    (case kx_InvalidName_TooMany => kit_is)
    (case kx_InvalidName_UnknownName => kit_is)
    (case kx_InvalidName_ValueError => kit_is)
    (case kx_InvalidName_WrongName => kit_is)
    (case kx_InvalidName_WrongValue => kit_is)
    (case ox_InvalidIndex => exact ⟨_, _, _, _, _, _, _, _, _, _, _, _, _, _, _, (by k_is), (by decide)⟩)
    (case sa_InvalidIndex => k_is)
    (case xb_InvalidIndex => k_is)
    (case ty_InvalidIndex => k_is)
    (case kC_InvalidIndex => k_is)
    (case no_InvalidIndex => k_is)
    (case in_InvalidIndex => k_is)
    (case it_InvalidIndex => k_is)
    (case lx_InvalidIndex => k_is)
    (case cx_InvalidIndex => k_is)
    (case ki_InvalidIndex => k_is)
    (case xg_InvalidIndex => k_is)
    (case xh_InvalidIndex => k_is)
    (case xd_InvalidIndex => k_is)
    (case xa_InvalidIndex => k_is)
    (case xm_InvalidIndex => k_is)
    (case kx_InvalidIndex_ArithmeticError => kit_is)
    (case kx_InvalidIndex_Broken => kit_is)
    (case kx_InvalidIndex_InUse => kit_is)
    (case kx_InvalidIndex_InvalidChanges => kit_is)
    (case kx_InvalidIndex_InvalidColumns => kit_is)
    (case kx_InvalidIndex_InvalidIndex => kit_is)
    (case kx_InvalidIndex_InvalidName => kit_is)
    (case kx_InvalidIndex_InvalidSize => kit_is)
    (case kx_InvalidIndex_InvalidTable => kit_is)
    (case kx_InvalidIndex_InvalidTables => kit_is)
    (case kx_InvalidIndex_InvalidText => kit_is)
    (case kx_InvalidIndex_InvalidView => kit_is)
    (case kx_InvalidIndex_InvalidWish => kit_is)
    (case kx_InvalidIndex_InvalidWishes => kit_is)
    (case kx_InvalidIndex_InvalidWord => kit_is)
    (case kx_InvalidIndex_LookupError => kit_is)
    (case kx_InvalidIndex_NotLot => kit_is)
    (case kx_InvalidIndex_NotPossible => kit_is)
    (case kx_InvalidIndex_NotTriangular => kit_is)
    (case kx_InvalidIndex_NothingToUndo => kit_is)
    (case kx_InvalidIndex_OtherSize => kit_is)
    (case kx_InvalidIndex_TooMany => kit_is)
    (case kx_InvalidIndex_UnknownName => kit_is)
    (case kx_InvalidIndex_ValueError => kit_is)
    (case kx_InvalidIndex_WrongName => kit_is)
    (case kx_InvalidIndex_WrongValue => kit_is)
    (case ox_InvalidSize => exact ⟨_, _, _, _, _, _, _, _, _, _, _, _, _, _, _, (by k_is), (by decide)⟩)
    (case sa_InvalidSize => k_is)
    (case xb_InvalidSize => k_is)
    (case ty_InvalidSize => k_is)
    (case kC_InvalidSize => k_is)
    (case no_InvalidSize => k_is)
    (case in_InvalidSize => k_is)
    (case it_InvalidSize => k_is)
    (case lx_InvalidSize => k_is)
    (case cx_InvalidSize => k_is)
    (case ki_InvalidSize => k_is)
    (case xg_InvalidSize => k_is)
    (case xh_InvalidSize => k_is)
    (case xd_InvalidSize => k_is)
    (case xa_InvalidSize => k_is)
    (case xm_InvalidSize => k_is)
    (case kx_InvalidSize_ArithmeticError => kit_is)
    (case kx_InvalidSize_Broken => kit_is)
    (case kx_InvalidSize_InUse => kit_is)
    (case kx_InvalidSize_InvalidChanges => kit_is)
    (case kx_InvalidSize_InvalidColumns => kit_is)
    (case kx_InvalidSize_InvalidIndex => kit_is)
    (case kx_InvalidSize_InvalidName => kit_is)
    (case kx_InvalidSize_InvalidSize => kit_is)
    (case kx_InvalidSize_InvalidTable => kit_is)
    (case kx_InvalidSize_InvalidTables => kit_is)
    (case kx_InvalidSize_InvalidText => kit_is)
    (case kx_InvalidSize_InvalidView => kit_is)
    (case kx_InvalidSize_InvalidWish => kit_is)
    (case kx_InvalidSize_InvalidWishes => kit_is)
    (case kx_InvalidSize_InvalidWord => kit_is)
    (case kx_InvalidSize_LookupError => kit_is)
    (case kx_InvalidSize_NotLot => kit_is)
    (case kx_InvalidSize_NotPossible => kit_is)
    (case kx_InvalidSize_NotTriangular => kit_is)
    (case kx_InvalidSize_NothingToUndo => kit_is)
    (case kx_InvalidSize_OtherSize => kit_is)
    (case kx_InvalidSize_TooMany => kit_is)
    (case kx_InvalidSize_UnknownName => kit_is)
    (case kx_InvalidSize_ValueError => kit_is)
    (case kx_InvalidSize_WrongName => kit_is)
    (case kx_InvalidSize_WrongValue => kit_is)
    (case ox_InvalidTable => exact ⟨_, _, _, _, _, _, _, _, _, _, _, _, _, _, _, (by k_is), (by decide)⟩)
    (case sa_InvalidTable => k_is)
    (case xb_InvalidTable => k_is)
    (case ty_InvalidTable => k_is)
    (case kC_InvalidTable => k_is)
    (case no_InvalidTable => k_is)
    (case in_InvalidTable => k_is)
    (case it_InvalidTable => k_is)
    (case lx_InvalidTable => k_is)
    (case cx_InvalidTable => k_is)
    (case ki_InvalidTable => k_is)
    (case xg_InvalidTable => k_is)
    (case xh_InvalidTable => k_is)
    (case xd_InvalidTable => k_is)
    (case xa_InvalidTable => k_is)
    (case xm_InvalidTable => k_is)
    (case kx_InvalidTable_ArithmeticError => kit_is)
    (case kx_InvalidTable_Broken => kit_is)
    (case kx_InvalidTable_InUse => kit_is)
    (case kx_InvalidTable_InvalidChanges => kit_is)
    (case kx_InvalidTable_InvalidColumns => kit_is)
    (case kx_InvalidTable_InvalidIndex => kit_is)
    (case kx_InvalidTable_InvalidName => kit_is)
    (case kx_InvalidTable_InvalidSize => kit_is)
    (case kx_InvalidTable_InvalidTable => kit_is)
    (case kx_InvalidTable_InvalidTables => kit_is)
    (case kx_InvalidTable_InvalidText => kit_is)
    (case kx_InvalidTable_InvalidView => kit_is)
    (case kx_InvalidTable_InvalidWish => kit_is)
    (case kx_InvalidTable_InvalidWishes => kit_is)
    (case kx_InvalidTable_InvalidWord => kit_is)
    (case kx_InvalidTable_LookupError => kit_is)
    (case kx_InvalidTable_NotLot => kit_is)
    (case kx_InvalidTable_NotPossible => kit_is)
    (case kx_InvalidTable_NotTriangular => kit_is)
    (case kx_InvalidTable_NothingToUndo => kit_is)
    (case kx_InvalidTable_OtherSize => kit_is)
    (case kx_InvalidTable_TooMany => kit_is)
    (case kx_InvalidTable_UnknownName => kit_is)
    (case kx_InvalidTable_ValueError => kit_is)
    (case kx_InvalidTable_WrongName => kit_is)
    (case kx_InvalidTable_WrongValue => kit_is)
    (case ox_InvalidView => exact ⟨_, _, _, _, _, _, _, _, _, _, _, _, _, _, _, (by k_is), (by decide)⟩)
    (case sa_InvalidView => k_is)
    (case xb_InvalidView => k_is)
    (case ty_InvalidView => k_is)
    (case kC_InvalidView => k_is)
    (case no_InvalidView => k_is)
    (case in_InvalidView => k_is)
    (case it_InvalidView => k_is)
    (case lx_InvalidView => k_is)
    (case cx_InvalidView => k_is)
    (case ki_InvalidView => k_is)
    (case xg_InvalidView => k_is)
    (case xh_InvalidView => k_is)
    (case xd_InvalidView => k_is)
    (case xa_InvalidView => k_is)
    (case xm_InvalidView => k_is)
    (case kx_InvalidView_ArithmeticError => kit_is)
    (case kx_InvalidView_Broken => kit_is)
    (case kx_InvalidView_InUse => kit_is)
    (case kx_InvalidView_InvalidChanges => kit_is)
    (case kx_InvalidView_InvalidColumns => kit_is)
    (case kx_InvalidView_InvalidIndex => kit_is)
    (case kx_InvalidView_InvalidName => kit_is)
    (case kx_InvalidView_InvalidSize => kit_is)
    (case kx_InvalidView_InvalidTable => kit_is)
    (case kx_InvalidView_InvalidTables => kit_is)
    (case kx_InvalidView_InvalidText => kit_is)
    (case kx_InvalidView_InvalidView => kit_is)
    (case kx_InvalidView_InvalidWish => kit_is)
    (case kx_InvalidView_InvalidWishes => kit_is)
    (case kx_InvalidView_InvalidWord => kit_is)
    (case kx_InvalidView_LookupError => kit_is)
    (case kx_InvalidView_NotLot => kit_is)
    (case kx_InvalidView_NotPossible => kit_is)
    (case kx_InvalidView_NotTriangular => kit_is)
    (case kx_InvalidView_NothingToUndo => kit_is)
    (case kx_InvalidView_OtherSize => kit_is)
    (case kx_InvalidView_TooMany => kit_is)
    (case kx_InvalidView_UnknownName => kit_is)
    (case kx_InvalidView_ValueError => kit_is)
    (case kx_InvalidView_WrongName => kit_is)
    (case kx_InvalidView_WrongValue => kit_is)
    (case ox_InvalidWish => exact ⟨_, _, _, _, _, _, _, _, _, _, _, _, _, _, _, (by k_is), (by decide)⟩)
    (case sa_InvalidWish => k_is)
    (case xb_InvalidWish => k_is)
    (case ty_InvalidWish => k_is)
    (case kC_InvalidWish => k_is)
    (case no_InvalidWish => k_is)
    (case in_InvalidWish => k_is)
    (case it_InvalidWish => k_is)
    (case lx_InvalidWish => k_is)
    (case cx_InvalidWish => k_is)
    (case ki_InvalidWish => k_is)
    (case xg_InvalidWish => k_is)
    (case xh_InvalidWish => k_is)
    (case xd_InvalidWish => k_is)
    (case xa_InvalidWish => k_is)
    (case xm_InvalidWish => k_is)
    (case kx_InvalidWish_ArithmeticError => kit_is)
    (case kx_InvalidWish_Broken => kit_is)
    (case kx_InvalidWish_InUse => kit_is)
    (case kx_InvalidWish_InvalidChanges => kit_is)
    (case kx_InvalidWish_InvalidColumns => kit_is)
    (case kx_InvalidWish_InvalidIndex => kit_is)
    (case kx_InvalidWish_InvalidName => kit_is)
    (case kx_InvalidWish_InvalidSize => kit_is)
    (case kx_InvalidWish_InvalidTable => kit_is)
    (case kx_InvalidWish_InvalidTables => kit_is)
    (case kx_InvalidWish_InvalidText => kit_is)
    (case kx_InvalidWish_InvalidView => kit_is)
    (case kx_InvalidWish_InvalidWish => kit_is)
    (case kx_InvalidWish_InvalidWishes => kit_is)
    (case kx_InvalidWish_InvalidWord => kit_is)
    (case kx_InvalidWish_LookupError => kit_is)
    (case kx_InvalidWish_NotLot => kit_is)
    (case kx_InvalidWish_NotPossible => kit_is)
    (case kx_InvalidWish_NotTriangular => kit_is)
    (case kx_InvalidWish_NothingToUndo => kit_is)
    (case kx_InvalidWish_OtherSize => kit_is)
    (case kx_InvalidWish_TooMany => kit_is)
    (case kx_InvalidWish_UnknownName => kit_is)
    (case kx_InvalidWish_ValueError => kit_is)
    (case kx_InvalidWish_WrongName => kit_is)
    (case kx_InvalidWish_WrongValue => kit_is)
    (case ox_NotLot => exact ⟨_, _, _, _, _, _, _, _, _, _, _, _, _, _, _, (by k_is), (by decide)⟩)
    (case sa_NotLot => k_is)
    (case xb_NotLot => k_is)
    (case ty_NotLot => k_is)
    (case kC_NotLot => k_is)
    (case no_NotLot => k_is)
    (case in_NotLot => k_is)
    (case it_NotLot => k_is)
    (case lx_NotLot => k_is)
    (case cx_NotLot => k_is)
    (case ki_NotLot => k_is)
    (case xg_NotLot => k_is)
    (case xh_NotLot => k_is)
    (case xd_NotLot => k_is)
    (case xa_NotLot => k_is)
    (case xm_NotLot => k_is)
    (case kx_NotLot_ArithmeticError => kit_is)
    (case kx_NotLot_Broken => kit_is)
    (case kx_NotLot_InUse => kit_is)
    (case kx_NotLot_InvalidChanges => kit_is)
    (case kx_NotLot_InvalidColumns => kit_is)
    (case kx_NotLot_InvalidIndex => kit_is)
    (case kx_NotLot_InvalidName => kit_is)
    (case kx_NotLot_InvalidSize => kit_is)
    (case kx_NotLot_InvalidTable => kit_is)
    (case kx_NotLot_InvalidTables => kit_is)
    (case kx_NotLot_InvalidText => kit_is)
    (case kx_NotLot_InvalidView => kit_is)
    (case kx_NotLot_InvalidWish => kit_is)
    (case kx_NotLot_InvalidWishes => kit_is)
    (case kx_NotLot_InvalidWord => kit_is)
    (case kx_NotLot_LookupError => kit_is)
    (case kx_NotLot_NotLot => kit_is)
    (case kx_NotLot_NotPossible => kit_is)
    (case kx_NotLot_NotTriangular => kit_is)
    (case kx_NotLot_NothingToUndo => kit_is)
    (case kx_NotLot_OtherSize => kit_is)
    (case kx_NotLot_TooMany => kit_is)
    (case kx_NotLot_UnknownName => kit_is)
    (case kx_NotLot_ValueError => kit_is)
    (case kx_NotLot_WrongName => kit_is)
    (case kx_NotLot_WrongValue => kit_is)
    (case ox_InvalidTables => exact ⟨_, _, _, _, _, _, _, _, _, _, _, _, _, _, _, (by k_is), (by decide)⟩)
    (case sa_InvalidTables => k_is)
    (case xb_InvalidTables => k_is)
    (case ty_InvalidTables => k_is)
    (case kC_InvalidTables => k_is)
    (case no_InvalidTables => k_is)
    (case in_InvalidTables => k_is)
    (case it_InvalidTables => k_is)
    (case lx_InvalidTables => k_is)
    (case cx_InvalidTables => k_is)
    (case ki_InvalidTables => k_is)
    (case xg_InvalidTables => k_is)
    (case xh_InvalidTables => k_is)
    (case xd_InvalidTables => k_is)
    (case xa_InvalidTables => k_is)
    (case xm_InvalidTables => k_is)
    (case kx_InvalidTables_ArithmeticError => kit_is)
    (case kx_InvalidTables_Broken => kit_is)
    (case kx_InvalidTables_InUse => kit_is)
    (case kx_InvalidTables_InvalidChanges => kit_is)
    (case kx_InvalidTables_InvalidColumns => kit_is)
    (case kx_InvalidTables_InvalidIndex => kit_is)
    (case kx_InvalidTables_InvalidName => kit_is)
    (case kx_InvalidTables_InvalidSize => kit_is)
    (case kx_InvalidTables_InvalidTable => kit_is)
    (case kx_InvalidTables_InvalidTables => kit_is)
    (case kx_InvalidTables_InvalidText => kit_is)
    (case kx_InvalidTables_InvalidView => kit_is)
    (case kx_InvalidTables_InvalidWish => kit_is)
    (case kx_InvalidTables_InvalidWishes => kit_is)
    (case kx_InvalidTables_InvalidWord => kit_is)
    (case kx_InvalidTables_LookupError => kit_is)
    (case kx_InvalidTables_NotLot => kit_is)
    (case kx_InvalidTables_NotPossible => kit_is)
    (case kx_InvalidTables_NotTriangular => kit_is)
    (case kx_InvalidTables_NothingToUndo => kit_is)
    (case kx_InvalidTables_OtherSize => kit_is)
    (case kx_InvalidTables_TooMany => kit_is)
    (case kx_InvalidTables_UnknownName => kit_is)
    (case kx_InvalidTables_ValueError => kit_is)
    (case kx_InvalidTables_WrongName => kit_is)
    (case kx_InvalidTables_WrongValue => kit_is)
    (case ox_InvalidWord => exact ⟨_, _, _, _, _, _, _, _, _, _, _, _, _, _, _, (by k_is), (by decide)⟩)
    (case sa_InvalidWord => k_is)
    (case xb_InvalidWord => k_is)
    (case ty_InvalidWord => k_is)
    (case kC_InvalidWord => k_is)
    (case no_InvalidWord => k_is)
    (case in_InvalidWord => k_is)
    (case it_InvalidWord => k_is)
    (case lx_InvalidWord => k_is)
    (case cx_InvalidWord => k_is)
    (case ki_InvalidWord => k_is)
    (case xg_InvalidWord => k_is)
    (case xh_InvalidWord => k_is)
    (case xd_InvalidWord => k_is)
    (case xa_InvalidWord => k_is)
    (case xm_InvalidWord => k_is)
    (case kx_InvalidWord_ArithmeticError => kit_is)
    (case kx_InvalidWord_Broken => kit_is)
    (case kx_InvalidWord_InUse => kit_is)
    (case kx_InvalidWord_InvalidChanges => kit_is)
    (case kx_InvalidWord_InvalidColumns => kit_is)
    (case kx_InvalidWord_InvalidIndex => kit_is)
    (case kx_InvalidWord_InvalidName => kit_is)
    (case kx_InvalidWord_InvalidSize => kit_is)
    (case kx_InvalidWord_InvalidTable => kit_is)
    (case kx_InvalidWord_InvalidTables => kit_is)
    (case kx_InvalidWord_InvalidText => kit_is)
    (case kx_InvalidWord_InvalidView => kit_is)
    (case kx_InvalidWord_InvalidWish => kit_is)
    (case kx_InvalidWord_InvalidWishes => kit_is)
    (case kx_InvalidWord_InvalidWord => kit_is)
    (case kx_InvalidWord_LookupError => kit_is)
    (case kx_InvalidWord_NotLot => kit_is)
    (case kx_InvalidWord_NotPossible => kit_is)
    (case kx_InvalidWord_NotTriangular => kit_is)
    (case kx_InvalidWord_NothingToUndo => kit_is)
    (case kx_InvalidWord_OtherSize => kit_is)
    (case kx_InvalidWord_TooMany => kit_is)
    (case kx_InvalidWord_UnknownName => kit_is)
    (case kx_InvalidWord_ValueError => kit_is)
    (case kx_InvalidWord_WrongName => kit_is)
    (case kx_InvalidWord_WrongValue => kit_is)
    (case ox_InvalidColumns => exact ⟨_, _, _, _, _, _, _, _, _, _, _, _, _, _, _, (by k_is), (by decide)⟩)
    (case sa_InvalidColumns => k_is)
    (case xb_InvalidColumns => k_is)
    (case ty_InvalidColumns => k_is)
    (case kC_InvalidColumns => k_is)
    (case no_InvalidColumns => k_is)
    (case in_InvalidColumns => k_is)
    (case it_InvalidColumns => k_is)
    (case lx_InvalidColumns => k_is)
    (case cx_InvalidColumns => k_is)
    (case ki_InvalidColumns => k_is)
    (case xg_InvalidColumns => k_is)
    (case xh_InvalidColumns => k_is)
    (case xd_InvalidColumns => k_is)
    (case xa_InvalidColumns => k_is)
    (case xm_InvalidColumns => k_is)
    (case kx_InvalidColumns_ArithmeticError => kit_is)
    (case kx_InvalidColumns_Broken => kit_is)
    (case kx_InvalidColumns_InUse => kit_is)
    (case kx_InvalidColumns_InvalidChanges => kit_is)
    (case kx_InvalidColumns_InvalidColumns => kit_is)
    (case kx_InvalidColumns_InvalidIndex => kit_is)
    (case kx_InvalidColumns_InvalidName => kit_is)
    (case kx_InvalidColumns_InvalidSize => kit_is)
    (case kx_InvalidColumns_InvalidTable => kit_is)
    (case kx_InvalidColumns_InvalidTables => kit_is)
    (case kx_InvalidColumns_InvalidText => kit_is)
    (case kx_InvalidColumns_InvalidView => kit_is)
    (case kx_InvalidColumns_InvalidWish => kit_is)
    (case kx_InvalidColumns_InvalidWishes => kit_is)
    (case kx_InvalidColumns_InvalidWord => kit_is)
    (case kx_InvalidColumns_LookupError => kit_is)
    (case kx_InvalidColumns_NotLot => kit_is)
    (case kx_InvalidColumns_NotPossible => kit_is)
    (case kx_InvalidColumns_NotTriangular => kit_is)
    (case kx_InvalidColumns_NothingToUndo => kit_is)
    (case kx_InvalidColumns_OtherSize => kit_is)
    (case kx_InvalidColumns_TooMany => kit_is)
    (case kx_InvalidColumns_UnknownName => kit_is)
    (case kx_InvalidColumns_ValueError => kit_is)
    (case kx_InvalidColumns_WrongName => kit_is)
    (case kx_InvalidColumns_WrongValue => kit_is)
    (case ox_InvalidChanges => exact ⟨_, _, _, _, _, _, _, _, _, _, _, _, _, _, _, (by k_is), (by decide)⟩)
    (case sa_InvalidChanges => k_is)
    (case xb_InvalidChanges => k_is)
    (case ty_InvalidChanges => k_is)
    (case kC_InvalidChanges => k_is)
    (case no_InvalidChanges => k_is)
    (case in_InvalidChanges => k_is)
    (case it_InvalidChanges => k_is)
    (case lx_InvalidChanges => k_is)
    (case cx_InvalidChanges => k_is)
    (case ki_InvalidChanges => k_is)
    (case xg_InvalidChanges => k_is)
    (case xh_InvalidChanges => k_is)
    (case xd_InvalidChanges => k_is)
    (case xa_InvalidChanges => k_is)
    (case xm_InvalidChanges => k_is)
    (case kx_InvalidChanges_ArithmeticError => kit_is)
    (case kx_InvalidChanges_Broken => kit_is)
    (case kx_InvalidChanges_InUse => kit_is)
    (case kx_InvalidChanges_InvalidChanges => kit_is)
    (case kx_InvalidChanges_InvalidColumns => kit_is)
    (case kx_InvalidChanges_InvalidIndex => kit_is)
    (case kx_InvalidChanges_InvalidName => kit_is)
    (case kx_InvalidChanges_InvalidSize => kit_is)
    (case kx_InvalidChanges_InvalidTable => kit_is)
    (case kx_InvalidChanges_InvalidTables => kit_is)
    (case kx_InvalidChanges_InvalidText => kit_is)
    (case kx_InvalidChanges_InvalidView => kit_is)
    (case kx_InvalidChanges_InvalidWish => kit_is)
    (case kx_InvalidChanges_InvalidWishes => kit_is)
    (case kx_InvalidChanges_InvalidWord => kit_is)
    (case kx_InvalidChanges_LookupError => kit_is)
    (case kx_InvalidChanges_NotLot => kit_is)
    (case kx_InvalidChanges_NotPossible => kit_is)
    (case kx_InvalidChanges_NotTriangular => kit_is)
    (case kx_InvalidChanges_NothingToUndo => kit_is)
    (case kx_InvalidChanges_OtherSize => kit_is)
    (case kx_InvalidChanges_TooMany => kit_is)
    (case kx_InvalidChanges_UnknownName => kit_is)
    (case kx_InvalidChanges_ValueError => kit_is)
    (case kx_InvalidChanges_WrongName => kit_is)
    (case kx_InvalidChanges_WrongValue => kit_is)
    (case ox_InvalidWishes => exact ⟨_, _, _, _, _, _, _, _, _, _, _, _, _, _, _, (by k_is), (by decide)⟩)
    (case sa_InvalidWishes => k_is)
    (case xb_InvalidWishes => k_is)
    (case ty_InvalidWishes => k_is)
    (case kC_InvalidWishes => k_is)
    (case no_InvalidWishes => k_is)
    (case in_InvalidWishes => k_is)
    (case it_InvalidWishes => k_is)
    (case lx_InvalidWishes => k_is)
    (case cx_InvalidWishes => k_is)
    (case ki_InvalidWishes => k_is)
    (case xg_InvalidWishes => k_is)
    (case xh_InvalidWishes => k_is)
    (case xd_InvalidWishes => k_is)
    (case xa_InvalidWishes => k_is)
    (case xm_InvalidWishes => k_is)
    (case kx_InvalidWishes_ArithmeticError => kit_is)
    (case kx_InvalidWishes_Broken => kit_is)
    (case kx_InvalidWishes_InUse => kit_is)
    (case kx_InvalidWishes_InvalidChanges => kit_is)
    (case kx_InvalidWishes_InvalidColumns => kit_is)
    (case kx_InvalidWishes_InvalidIndex => kit_is)
    (case kx_InvalidWishes_InvalidName => kit_is)
    (case kx_InvalidWishes_InvalidSize => kit_is)
    (case kx_InvalidWishes_InvalidTable => kit_is)
    (case kx_InvalidWishes_InvalidTables => kit_is)
    (case kx_InvalidWishes_InvalidText => kit_is)
    (case kx_InvalidWishes_InvalidView => kit_is)
    (case kx_InvalidWishes_InvalidWish => kit_is)
    (case kx_InvalidWishes_InvalidWishes => kit_is)
    (case kx_InvalidWishes_InvalidWord => kit_is)
    (case kx_InvalidWishes_LookupError => kit_is)
    (case kx_InvalidWishes_NotLot => kit_is)
    (case kx_InvalidWishes_NotPossible => kit_is)
    (case kx_InvalidWishes_NotTriangular => kit_is)
    (case kx_InvalidWishes_NothingToUndo => kit_is)
    (case kx_InvalidWishes_OtherSize => kit_is)
    (case kx_InvalidWishes_TooMany => kit_is)
    (case kx_InvalidWishes_UnknownName => kit_is)
    (case kx_InvalidWishes_ValueError => kit_is)
    (case kx_InvalidWishes_WrongName => kit_is)
    (case kx_InvalidWishes_WrongValue => kit_is)
    (case ox_UnknownName => exact ⟨_, _, _, _, _, _, _, _, _, _, _, _, _, _, _, (by k_is), (by decide)⟩)
    (case sa_UnknownName => k_is)
    (case xb_UnknownName => k_is)
    (case ty_UnknownName => k_is)
    (case kC_UnknownName => k_is)
    (case no_UnknownName => k_is)
    (case in_UnknownName => k_is)
    (case it_UnknownName => k_is)
    (case lx_UnknownName => k_is)
    (case cx_UnknownName => k_is)
    (case ki_UnknownName => k_is)
    (case xg_UnknownName => k_is)
    (case xh_UnknownName => k_is)
    (case xd_UnknownName => k_is)
    (case xa_UnknownName => k_is)
    (case xm_UnknownName => k_is)
    (case kx_UnknownName_ArithmeticError => kit_is)
    (case kx_UnknownName_Broken => kit_is)
    (case kx_UnknownName_InUse => kit_is)
    (case kx_UnknownName_InvalidChanges => kit_is)
    (case kx_UnknownName_InvalidColumns => kit_is)
    (case kx_UnknownName_InvalidIndex => kit_is)
    (case kx_UnknownName_InvalidName => kit_is)
    (case kx_UnknownName_InvalidSize => kit_is)
    (case kx_UnknownName_InvalidTable => kit_is)
    (case kx_UnknownName_InvalidTables => kit_is)
    (case kx_UnknownName_InvalidText => kit_is)
    (case kx_UnknownName_InvalidView => kit_is)
    (case kx_UnknownName_InvalidWish => kit_is)
    (case kx_UnknownName_InvalidWishes => kit_is)
    (case kx_UnknownName_InvalidWord => kit_is)
    (case kx_UnknownName_LookupError => kit_is)
    (case kx_UnknownName_NotLot => kit_is)
    (case kx_UnknownName_NotPossible => kit_is)
    (case kx_UnknownName_NotTriangular => kit_is)
    (case kx_UnknownName_NothingToUndo => kit_is)
    (case kx_UnknownName_OtherSize => kit_is)
    (case kx_UnknownName_TooMany => kit_is)
    (case kx_UnknownName_UnknownName => kit_is)
    (case kx_UnknownName_ValueError => kit_is)
    (case kx_UnknownName_WrongName => kit_is)
    (case kx_UnknownName_WrongValue => kit_is)
    (case ox_InUse => exact ⟨_, _, _, _, _, _, _, _, _, _, _, _, _, _, _, (by k_is), (by decide)⟩)
    (case sa_InUse => k_is)
    (case xb_InUse => k_is)
    (case ty_InUse => k_is)
    (case kC_InUse => k_is)
    (case no_InUse => k_is)
    (case in_InUse => k_is)
    (case it_InUse => k_is)
    (case lx_InUse => k_is)
    (case cx_InUse => k_is)
    (case ki_InUse => k_is)
    (case xg_InUse => k_is)
    (case xh_InUse => k_is)
    (case xd_InUse => k_is)
    (case xa_InUse => k_is)
    (case xm_InUse => k_is)
    (case kx_InUse_ArithmeticError => kit_is)
    (case kx_InUse_Broken => kit_is)
    (case kx_InUse_InUse => kit_is)
    (case kx_InUse_InvalidChanges => kit_is)
    (case kx_InUse_InvalidColumns => kit_is)
    (case kx_InUse_InvalidIndex => kit_is)
    (case kx_InUse_InvalidName => kit_is)
    (case kx_InUse_InvalidSize => kit_is)
    (case kx_InUse_InvalidTable => kit_is)
    (case kx_InUse_InvalidTables => kit_is)
    (case kx_InUse_InvalidText => kit_is)
    (case kx_InUse_InvalidView => kit_is)
    (case kx_InUse_InvalidWish => kit_is)
    (case kx_InUse_InvalidWishes => kit_is)
    (case kx_InUse_InvalidWord => kit_is)
    (case kx_InUse_LookupError => kit_is)
    (case kx_InUse_NotLot => kit_is)
    (case kx_InUse_NotPossible => kit_is)
    (case kx_InUse_NotTriangular => kit_is)
    (case kx_InUse_NothingToUndo => kit_is)
    (case kx_InUse_OtherSize => kit_is)
    (case kx_InUse_TooMany => kit_is)
    (case kx_InUse_UnknownName => kit_is)
    (case kx_InUse_ValueError => kit_is)
    (case kx_InUse_WrongName => kit_is)
    (case kx_InUse_WrongValue => kit_is)
    (case ox_NotTriangular => exact ⟨_, _, _, _, _, _, _, _, _, _, _, _, _, _, _, (by k_is), (by decide)⟩)
    (case sa_NotTriangular => k_is)
    (case xb_NotTriangular => k_is)
    (case ty_NotTriangular => k_is)
    (case kC_NotTriangular => k_is)
    (case no_NotTriangular => k_is)
    (case in_NotTriangular => k_is)
    (case it_NotTriangular => k_is)
    (case lx_NotTriangular => k_is)
    (case cx_NotTriangular => k_is)
    (case ki_NotTriangular => k_is)
    (case xg_NotTriangular => k_is)
    (case xh_NotTriangular => k_is)
    (case xd_NotTriangular => k_is)
    (case xa_NotTriangular => k_is)
    (case xm_NotTriangular => k_is)
    (case kx_NotTriangular_ArithmeticError => kit_is)
    (case kx_NotTriangular_Broken => kit_is)
    (case kx_NotTriangular_InUse => kit_is)
    (case kx_NotTriangular_InvalidChanges => kit_is)
    (case kx_NotTriangular_InvalidColumns => kit_is)
    (case kx_NotTriangular_InvalidIndex => kit_is)
    (case kx_NotTriangular_InvalidName => kit_is)
    (case kx_NotTriangular_InvalidSize => kit_is)
    (case kx_NotTriangular_InvalidTable => kit_is)
    (case kx_NotTriangular_InvalidTables => kit_is)
    (case kx_NotTriangular_InvalidText => kit_is)
    (case kx_NotTriangular_InvalidView => kit_is)
    (case kx_NotTriangular_InvalidWish => kit_is)
    (case kx_NotTriangular_InvalidWishes => kit_is)
    (case kx_NotTriangular_InvalidWord => kit_is)
    (case kx_NotTriangular_LookupError => kit_is)
    (case kx_NotTriangular_NotLot => kit_is)
    (case kx_NotTriangular_NotPossible => kit_is)
    (case kx_NotTriangular_NotTriangular => kit_is)
    (case kx_NotTriangular_NothingToUndo => kit_is)
    (case kx_NotTriangular_OtherSize => kit_is)
    (case kx_NotTriangular_TooMany => kit_is)
    (case kx_NotTriangular_UnknownName => kit_is)
    (case kx_NotTriangular_ValueError => kit_is)
    (case kx_NotTriangular_WrongName => kit_is)
    (case kx_NotTriangular_WrongValue => kit_is)
    (case ox_OtherSize => exact ⟨_, _, _, _, _, _, _, _, _, _, _, _, _, _, _, (by k_is), (by decide)⟩)
    (case sa_OtherSize => k_is)
    (case xb_OtherSize => k_is)
    (case ty_OtherSize => k_is)
    (case kC_OtherSize => k_is)
    (case no_OtherSize => k_is)
    (case in_OtherSize => k_is)
    (case it_OtherSize => k_is)
    (case lx_OtherSize => k_is)
    (case cx_OtherSize => k_is)
    (case ki_OtherSize => k_is)
    (case xg_OtherSize => k_is)
    (case xh_OtherSize => k_is)
    (case xd_OtherSize => k_is)
    (case xa_OtherSize => k_is)
    (case xm_OtherSize => k_is)
    (case kx_OtherSize_ArithmeticError => kit_is)
    (case kx_OtherSize_Broken => kit_is)
    (case kx_OtherSize_InUse => kit_is)
    (case kx_OtherSize_InvalidChanges => kit_is)
    (case kx_OtherSize_InvalidColumns => kit_is)
    (case kx_OtherSize_InvalidIndex => kit_is)
    (case kx_OtherSize_InvalidName => kit_is)
    (case kx_OtherSize_InvalidSize => kit_is)
    (case kx_OtherSize_InvalidTable => kit_is)
    (case kx_OtherSize_InvalidTables => kit_is)
    (case kx_OtherSize_InvalidText => kit_is)
    (case kx_OtherSize_InvalidView => kit_is)
    (case kx_OtherSize_InvalidWish => kit_is)
    (case kx_OtherSize_InvalidWishes => kit_is)
    (case kx_OtherSize_InvalidWord => kit_is)
    (case kx_OtherSize_LookupError => kit_is)
    (case kx_OtherSize_NotLot => kit_is)
    (case kx_OtherSize_NotPossible => kit_is)
    (case kx_OtherSize_NotTriangular => kit_is)
    (case kx_OtherSize_NothingToUndo => kit_is)
    (case kx_OtherSize_OtherSize => kit_is)
    (case kx_OtherSize_TooMany => kit_is)
    (case kx_OtherSize_UnknownName => kit_is)
    (case kx_OtherSize_ValueError => kit_is)
    (case kx_OtherSize_WrongName => kit_is)
    (case kx_OtherSize_WrongValue => kit_is)
    (case ox_TooMany => exact ⟨_, _, _, _, _, _, _, _, _, _, _, _, _, _, _, (by k_is), (by decide)⟩)
    (case sa_TooMany => k_is)
    (case xb_TooMany => k_is)
    (case ty_TooMany => k_is)
    (case kC_TooMany => k_is)
    (case no_TooMany => k_is)
    (case in_TooMany => k_is)
    (case it_TooMany => k_is)
    (case lx_TooMany => k_is)
    (case cx_TooMany => k_is)
    (case ki_TooMany => k_is)
    (case xg_TooMany => k_is)
    (case xh_TooMany => k_is)
    (case xd_TooMany => k_is)
    (case xa_TooMany => k_is)
    (case xm_TooMany => k_is)
    (case kx_TooMany_ArithmeticError => kit_is)
    (case kx_TooMany_Broken => kit_is)
    (case kx_TooMany_InUse => kit_is)
    (case kx_TooMany_InvalidChanges => kit_is)
    (case kx_TooMany_InvalidColumns => kit_is)
    (case kx_TooMany_InvalidIndex => kit_is)
    (case kx_TooMany_InvalidName => kit_is)
    (case kx_TooMany_InvalidSize => kit_is)
    (case kx_TooMany_InvalidTable => kit_is)
    (case kx_TooMany_InvalidTables => kit_is)
    (case kx_TooMany_InvalidText => kit_is)
    (case kx_TooMany_InvalidView => kit_is)
    (case kx_TooMany_InvalidWish => kit_is)
    (case kx_TooMany_InvalidWishes => kit_is)
    (case kx_TooMany_InvalidWord => kit_is)
    (case kx_TooMany_LookupError => kit_is)
    (case kx_TooMany_NotLot => kit_is)
    (case kx_TooMany_NotPossible => kit_is)
    (case kx_TooMany_NotTriangular => kit_is)
    (case kx_TooMany_NothingToUndo => kit_is)
    (case kx_TooMany_OtherSize => kit_is)
    (case kx_TooMany_TooMany => kit_is)
    (case kx_TooMany_UnknownName => kit_is)
    (case kx_TooMany_ValueError => kit_is)
    (case kx_TooMany_WrongName => kit_is)
    (case kx_TooMany_WrongValue => kit_is)
    (case xe_NothingToUndo => kernel_rfl)
    (case xb_NothingToUndo => k_is)
    (case ty_NothingToUndo => k_is)
    (case kC_NothingToUndo => k_is)
    (case xg_NothingToUndo => k_is)
    (case xh_NothingToUndo => k_is)
    (case xd_NothingToUndo => k_is)
    (case xa_NothingToUndo => k_is)
    (case xm_NothingToUndo => k_is)
    (case kx_NothingToUndo_ArithmeticError => kit_is)
    (case kx_NothingToUndo_Broken => kit_is)
    (case kx_NothingToUndo_InUse => kit_is)
    (case kx_NothingToUndo_InvalidChanges => kit_is)
    (case kx_NothingToUndo_InvalidColumns => kit_is)
    (case kx_NothingToUndo_InvalidIndex => kit_is)
    (case kx_NothingToUndo_InvalidName => kit_is)
    (case kx_NothingToUndo_InvalidSize => kit_is)
    (case kx_NothingToUndo_InvalidTable => kit_is)
    (case kx_NothingToUndo_InvalidTables => kit_is)
    (case kx_NothingToUndo_InvalidText => kit_is)
    (case kx_NothingToUndo_InvalidView => kit_is)
    (case kx_NothingToUndo_InvalidWish => kit_is)
    (case kx_NothingToUndo_InvalidWishes => kit_is)
    (case kx_NothingToUndo_InvalidWord => kit_is)
    (case kx_NothingToUndo_LookupError => kit_is)
    (case kx_NothingToUndo_NotLot => kit_is)
    (case kx_NothingToUndo_NotPossible => kit_is)
    (case kx_NothingToUndo_NotTriangular => kit_is)
    (case kx_NothingToUndo_NothingToUndo => kit_is)
    (case kx_NothingToUndo_OtherSize => kit_is)
    (case kx_NothingToUndo_TooMany => kit_is)
    (case kx_NothingToUndo_UnknownName => kit_is)
    (case kx_NothingToUndo_ValueError => kit_is)
    (case kx_NothingToUndo_WrongName => kit_is)
    (case kx_NothingToUndo_WrongValue => kit_is)
    (case ox_Broken => exact ⟨_, _, _, _, _, _, _, _, _, _, _, _, _, _, _, (by k_is), (by decide)⟩)
    (case sa_Broken => k_is)
    (case xb_Broken => k_is)
    (case ty_Broken => k_is)
    (case kC_Broken => k_is)
    (case no_Broken => k_is)
    (case in_Broken => k_is)
    (case it_Broken => k_is)
    (case lx_Broken => k_is)
    (case cx_Broken => k_is)
    (case ki_Broken => k_is)
    (case xg_Broken => k_is)
    (case xh_Broken => k_is)
    (case xd_Broken => k_is)
    (case xa_Broken => k_is)
    (case xm_Broken => k_is)
    (case kx_Broken_ArithmeticError => kit_is)
    (case kx_Broken_Broken => kit_is)
    (case kx_Broken_InUse => kit_is)
    (case kx_Broken_InvalidChanges => kit_is)
    (case kx_Broken_InvalidColumns => kit_is)
    (case kx_Broken_InvalidIndex => kit_is)
    (case kx_Broken_InvalidName => kit_is)
    (case kx_Broken_InvalidSize => kit_is)
    (case kx_Broken_InvalidTable => kit_is)
    (case kx_Broken_InvalidTables => kit_is)
    (case kx_Broken_InvalidText => kit_is)
    (case kx_Broken_InvalidView => kit_is)
    (case kx_Broken_InvalidWish => kit_is)
    (case kx_Broken_InvalidWishes => kit_is)
    (case kx_Broken_InvalidWord => kit_is)
    (case kx_Broken_LookupError => kit_is)
    (case kx_Broken_NotLot => kit_is)
    (case kx_Broken_NotPossible => kit_is)
    (case kx_Broken_NotTriangular => kit_is)
    (case kx_Broken_NothingToUndo => kit_is)
    (case kx_Broken_OtherSize => kit_is)
    (case kx_Broken_TooMany => kit_is)
    (case kx_Broken_UnknownName => kit_is)
    (case kx_Broken_ValueError => kit_is)
    (case kx_Broken_WrongName => kit_is)
    (case kx_Broken_WrongValue => kit_is)
    (case xe_WrongValue => kernel_rfl)
    (case xb_WrongValue => k_is)
    (case ty_WrongValue => k_is)
    (case kC_WrongValue => k_is)
    (case xg_WrongValue => k_is)
    (case xh_WrongValue => k_is)
    (case xd_WrongValue => k_is)
    (case xa_WrongValue => k_is)
    (case xm_WrongValue => k_is)
    (case kx_WrongValue_ArithmeticError => kit_is)
    (case kx_WrongValue_Broken => kit_is)
    (case kx_WrongValue_InUse => kit_is)
    (case kx_WrongValue_InvalidChanges => kit_is)
    (case kx_WrongValue_InvalidColumns => kit_is)
    (case kx_WrongValue_InvalidIndex => kit_is)
    (case kx_WrongValue_InvalidName => kit_is)
    (case kx_WrongValue_InvalidSize => kit_is)
    (case kx_WrongValue_InvalidTable => kit_is)
    (case kx_WrongValue_InvalidTables => kit_is)
    (case kx_WrongValue_InvalidText => kit_is)
    (case kx_WrongValue_InvalidView => kit_is)
    (case kx_WrongValue_InvalidWish => kit_is)
    (case kx_WrongValue_InvalidWishes => kit_is)
    (case kx_WrongValue_InvalidWord => kit_is)
    (case kx_WrongValue_LookupError => kit_is)
    (case kx_WrongValue_NotLot => kit_is)
    (case kx_WrongValue_NotPossible => kit_is)
    (case kx_WrongValue_NotTriangular => kit_is)
    (case kx_WrongValue_NothingToUndo => kit_is)
    (case kx_WrongValue_OtherSize => kit_is)
    (case kx_WrongValue_TooMany => kit_is)
    (case kx_WrongValue_UnknownName => kit_is)
    (case kx_WrongValue_ValueError => kit_is)
    (case kx_WrongValue_WrongName => kit_is)
    (case kx_WrongValue_WrongValue => kit_is)
    (case xe_WrongName => kernel_rfl)
    (case xb_WrongName => k_is)
    (case ty_WrongName => k_is)
    (case kC_WrongName => k_is)
    (case xg_WrongName => k_is)
    (case xh_WrongName => k_is)
    (case xd_WrongName => k_is)
    (case xa_WrongName => k_is)
    (case xm_WrongName => k_is)
    (case kx_WrongName_ArithmeticError => kit_is)
    (case kx_WrongName_Broken => kit_is)
    (case kx_WrongName_InUse => kit_is)
    (case kx_WrongName_InvalidChanges => kit_is)
    (case kx_WrongName_InvalidColumns => kit_is)
    (case kx_WrongName_InvalidIndex => kit_is)
    (case kx_WrongName_InvalidName => kit_is)
    (case kx_WrongName_InvalidSize => kit_is)
    (case kx_WrongName_InvalidTable => kit_is)
    (case kx_WrongName_InvalidTables => kit_is)
    (case kx_WrongName_InvalidText => kit_is)
    (case kx_WrongName_InvalidView => kit_is)
    (case kx_WrongName_InvalidWish => kit_is)
    (case kx_WrongName_InvalidWishes => kit_is)
    (case kx_WrongName_InvalidWord => kit_is)
    (case kx_WrongName_LookupError => kit_is)
    (case kx_WrongName_NotLot => kit_is)
    (case kx_WrongName_NotPossible => kit_is)
    (case kx_WrongName_NotTriangular => kit_is)
    (case kx_WrongName_NothingToUndo => kit_is)
    (case kx_WrongName_OtherSize => kit_is)
    (case kx_WrongName_TooMany => kit_is)
    (case kx_WrongName_UnknownName => kit_is)
    (case kx_WrongName_ValueError => kit_is)
    (case kx_WrongName_WrongName => kit_is)
    (case kx_WrongName_WrongValue => kit_is)
    (case xe_NotPossible => kernel_rfl)
    (case xb_NotPossible => k_is)
    (case ty_NotPossible => k_is)
    (case kC_NotPossible => k_is)
    (case xg_NotPossible => k_is)
    (case xh_NotPossible => k_is)
    (case xd_NotPossible => k_is)
    (case xa_NotPossible => k_is)
    (case xm_NotPossible => k_is)
    (case kx_NotPossible_ArithmeticError => kit_is)
    (case kx_NotPossible_Broken => kit_is)
    (case kx_NotPossible_InUse => kit_is)
    (case kx_NotPossible_InvalidChanges => kit_is)
    (case kx_NotPossible_InvalidColumns => kit_is)
    (case kx_NotPossible_InvalidIndex => kit_is)
    (case kx_NotPossible_InvalidName => kit_is)
    (case kx_NotPossible_InvalidSize => kit_is)
    (case kx_NotPossible_InvalidTable => kit_is)
    (case kx_NotPossible_InvalidTables => kit_is)
    (case kx_NotPossible_InvalidText => kit_is)
    (case kx_NotPossible_InvalidView => kit_is)
    (case kx_NotPossible_InvalidWish => kit_is)
    (case kx_NotPossible_InvalidWishes => kit_is)
    (case kx_NotPossible_InvalidWord => kit_is)
    (case kx_NotPossible_LookupError => kit_is)
    (case kx_NotPossible_NotLot => kit_is)
    (case kx_NotPossible_NotPossible => kit_is)
    (case kx_NotPossible_NotTriangular => kit_is)
    (case kx_NotPossible_NothingToUndo => kit_is)
    (case kx_NotPossible_OtherSize => kit_is)
    (case kx_NotPossible_TooMany => kit_is)
    (case kx_NotPossible_UnknownName => kit_is)
    (case kx_NotPossible_ValueError => kit_is)
    (case kx_NotPossible_WrongName => kit_is)
    (case kx_NotPossible_WrongValue => kit_is)
    (case cn => k_is)
    (case ct => k_is)
    (case n_ArithmeticError => k_is)
    (case n_LookupError => k_is)
    (case n_ValueError => k_is)
    (case n_abs => k_is)
    (case n_all => k_is)
    (case n_divmod => k_is)
    (case n_int => k_is)
    (case n_isinstance => k_is)
    (case n_len => k_is)
    (case n_max => k_is)
    (case n_min => k_is)
    (case n_range => k_is)
    (case n_repr => k_is)
    (case x_MOST_CHANGES => k_is)
    (case x_MOST_COLUMNS => k_is)
    (case x_MOST_LETTERS => k_is)
    (case x_MOST_NUMBER => k_is)
    (case x_MOST_SIZE => k_is)
    (case x_MOST_TABLES => k_is)
