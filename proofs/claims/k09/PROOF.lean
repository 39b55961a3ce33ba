import PyProof.Rows.All
import Wide.All
import OpenK.AllK
import Wide.FinOn
import HandS.ForMost
import HandS.IsInst
import HandS.TupAny
import HandS.TupMul
import HandS.Walk
import HandS.Zip
import HandS.Flow
import HandS.Wide
import HandS.Exc
import HandS.Slots
import HandS.SlotsOwn
import HandS.WordsExc
import HandS.Star
import HandS.Text
import HandS.RaiseMore
import HandS.FStr
import HandS.Style
import HandS.MakeKwOnly
import HandS.ClsMeth
import HandS.OwnEq
import HandS.Lambda
import HandS.EndTab
import HandS.HotCalls
import HandS.ExcInit
import KE.GoesEnum
import HandS.SortKw
import KE.KDictZip
import HandS.EndBits
import HandS.SetFor
import HandS.Strs
import HandS.SortInts
import PyProof.Rows.SetFrom
import KE.KExcIs
import HandS.ExcIs
import KE.KExcInit
import KE.KTryMore
import HandS.ExcValue
import PyProof.StrOps2
import HandS.Codes
import HandS.List
import HandS.Deep
import KE.KStar
import PySem.Challenge.RW_alltriangular_k09_lots_compared
set_option Elab.async false
set_option linter.all false
set_option maxRecDepth 100000
/-! A0: data, syntax, evaluator. -/
namespace M
open PySem

/-- data: lists by value -/
inductive D where
  | non | bl (b : Bool) | int (i : Int) | str (s : Str)
  | tup (xs : List D) | lst (xs : List D)
  | ins (c : Nat) (fs : List D)
  | cls (c : Nat)
  | exn (c : Nat) (fs : List D)
  | dct (kvs : List (Str × Int))
  deriving Inhabited

mutual
def D.py : D → Option PyData
  | .non => some .none
  | .bl b => some (.bool b)
  | .int i => some (.int i)
  | .str s => some (.str s)
  | .tup xs => match D.pys xs with | some ys => some (.tuple ys) | none => none
  | .lst xs => match D.pys xs with | some ys => some (.list ys) | none => none
  | .ins _ _ => none
  | .cls _ => none
  | .exn _ _ => none
  | .dct kvs => some (.dict (kvs.map fun p => (.str p.1, .int p.2)))
def D.pys : List D → Option (List PyData)
  | [] => some []
  | x :: xs => match D.py x, D.pys xs with | some y, some ys => some (y :: ys) | _, _ => none
end

/-- a slot of a frame: unset; shared (never written); owned (the one way to this list). bor: the caller's -/
inductive Slot where
  | no | sh (bor : Bool) (d : D) | ow (bor : Bool) (d : D) | pin
  deriving Inhabited
abbrev Fm := List Slot
def Slot.isBor : Slot → Bool
  | .no => false | .sh b _ => b | .ow b _ => b | .pin => true
def Slot.isOw : Slot → Bool
  | .ow _ _ => true | _ => false

/-- what an expression gives: a shared value, a new list (owned by none as yet), or the slot that holds an owned one -/
inductive RV where
  | val (d : D) | new (d : D) | slot (i : Nat)

inductive Res (α : Type) where
  | ok (a : α) (r : Fm) | exc (c : Nat) (ds : List D) (r : Fm) | bad

inductive SRes where
  | nx (r : Fm) | ret (v : RV) (r : Fm) | brk (r : Fm) | cnt (r : Fm) | exc (c : Nat) (ds : List D) (r : Fm) | bad

/-- primitives -/
inductive P where
  | add | sub | mul | fdiv | mod | pow | neg
  | lt | le | gt | ge | eq | ne | isN | notN
  | idx | slo (lo hi : Bool)
  | len | abs | int | tuple | list | sum | all | any | max1 | min1 | max2 | min2 | divmod
  | isi (t : String) | isiC (c : Nat)
  | strI | join | split
  | addI | mulI | repr | isIn | notIn | revL | index | intT
  | asStr | asLen | asTru | asBl | notBl | asIns (c : Nat)
  | srt | srtS
  | isX (l : List Nat) | fldX (l : List Nat) | countT | indexT | eqU | neU | eqE | neE | lrng | cntI
  | ext (f : List D → Option (Bool × D))

mutual
inductive E where
  | var (i : Nat)
  | con (d : D)
  | glo (x : Str) (d : D)
  | prm (p : P) (es : Es)
  | tup (es : As)
  | lst (es : As)
  | ife (t : T) (a b : E)
  | andV (a b : E) | orV (a b : E) | notV (e : E)
  | chain (o1 o2 : P) (a b c : E)
  | call (f : Nat) (gs : Gs)
  | callO (f : Nat) (e : E)
  | make (c : Nat) (gs : Gs)
  | callP (f : Nat) (pm : List Nat) (gs : Gs)
  | makeP (c : Nat) (pm : List Nat) (gs : Gs)
  | mthC (c f : Nat) (pm : List Nat) (e : E) (gs : Gs)
  | callI (c f : Nat) (gs : Gs)
  | inI (c f : Nat) (neg : Bool) (i : Nat) (e : E)
  | srtK (f : Nat) (e : E)
  | pop (i : Nat) (e : E)
  | fst (pre : Str) (e : E) (post : Str)
  | fld (c : Nat) (k : Nat) (e : E)
  | prop (c f : Nat) (e : E)
  | lc (vs : List Nat) (g : LV) (it : I) (t : T) (e : E)
  | lc2 (vs vs1 : List Nat) (g : LV) (it : I) (t : T) (g1 : LV) (it1 : I) (t1 : T) (e : E)
  | app (i : Nat) (e : E)
  | ext (i : Nat) (e : E)
  | zipS (e : E)
  | zipS2 (e f : E)
  | mth (p : P) (a b : E)
  | answ (A : Nat) (e : E)
inductive Es where
  | nil | cons (e : E) (r : Es)
inductive As where
  | nil | one (e : E) (r : As) | star (e : E) (r : As)
inductive Gs where
  | nil | v (e : E) (r : Gs) | b (i : Nat) (r : Gs)
inductive T where
  | val (e : E) | yes | all (a b : T) | any (a b : T) | not (t : T)
inductive I where
  | seq (e : E) | rng1 (a : E) | rng2 (a b : E) | rng3 (a b c : E) | enm (e : E) | zip (a b : E)
inductive LV where
  | nm (i : Nat) | tp (r : LVs) | sub (i : Nat) (k : E)
inductive LVs where
  | nil | cons (l : LV) (r : LVs)
end
mutual
inductive S where
  | expr (e : E)
  | asg (l : LV) (e : E)
  | par (i j : Nat) (a b : E)
  | par2 (i j : Nat) (a b : E)
  | par3 (i j k : Nat) (a b c : E)
  | asgS (l : LV) (e : E)
  | retS (e : E)
  | retO (i : Nat)
  | kil (is : List Nat)
  | shr (is : List Nat)
  | aug (i : Nat) (p : P) (e : E)
  | ift (t : T) (a b : Ss)
  | for (l : LV) (it : I) (b : Ss)
  | whl (t : T) (b : Ss)
  | ret (e : E) | retN | pas | brk | cnt | nev
  | augS (i : Nat) (p : P) (k e : E)
  | nz (ic fi ai bi : Nat) (e : E)
  | rai (c : Nat) (e : E)
  | rai0 (c : Nat)
inductive Ss where
  | nil | cons (s : S) (r : Ss)
end

/-! ### primitives by values -/
def mulOk (i j : Int) : Bool := decide (i.natAbs.log2 + j.natAbs.log2 < 134000000)
def cmpI (f : Int → Int → Bool) : List D → Option (Bool × D)
  | [.int a, .int b] => some (false, .bl (f a b))
  | _ => none
def opI (f : Int → Int → Option Int) : List D → Option (Bool × D)
  | [.int a, .int b] => match f a b with | some c => some (false, .int c) | none => none
  | _ => none
def dEq : D → D → Option Bool := fun a b => match a.py, b.py with
  | some x, some y => if SeqAt.shaped x && SeqAt.shaped y then some (PyData.eqv x y) else none
  | _, _ => none
def isNon : D → Bool
  | .non => true | _ => false
def intsOf : List D → Option (List Int)
  | [] => some []
  | .int i :: r => match intsOf r with | some l => some (i :: l) | none => none
  | _ :: _ => none
def blsOf : List D → Option (List Bool)
  | [] => some []
  | .bl i :: r => match blsOf r with | some l => some (i :: l) | none => none
  | _ :: _ => none
def strsOf : List D → Option (List Str)
  | [] => some []
  | .str i :: r => match strsOf r with | some l => some (i :: l) | none => none
  | _ :: _ => none
def joinD (a : Str) (ys : List D) : Option (Bool × D) := match strsOf ys with
  | some l => if (l.map (·.length)).sum + l.length * a.length ≤ 16777216 then some (false, .str (PySem.Txt.join a l)) else none
  | none => none
def maxOf : Int → List Int → Int
  | a, [] => a
  | a, b :: r => maxOf (if b > a then b else a) r
def minOf : Int → List Int → Int
  | a, [] => a
  | a, b :: r => minOf (if b < a then b else a) r
def maxL : List Int → Option (Bool × D)
  | [] => none
  | a :: l => some (false, .int (maxOf a l))
def minL : List Int → Option (Bool × D)
  | [] => none
  | a :: l => some (false, .int (minOf a l))
def sumL (l : List Int) : Option (Bool × D) := some (false, .int l.sum)
def allL (l : List Bool) : Option (Bool × D) := some (false, .bl (l.all id))
def anyL (l : List Bool) : Option (Bool × D) := some (false, .bl (l.any id))
def onLst {α : Type} (f : List D → Option α) (g : α → Option (Bool × D)) : List D → Option (Bool × D)
  | [.lst xs] => (f xs).bind g
  | _ => none
def isiD (t : String) : D → Option Bool
  | .non => some false
  | .bl _ => some (t == "int" || t == "bool")
  | .int _ => some (t == "int")
  | .str _ => some (t == "str")
  | .tup _ => some (t == "tuple")
  | .lst _ => some (t == "list")
  | .ins _ _ => some false
  | .cls _ => none
  | .exn _ _ => none
  | .dct _ => some false
def cutL (xs : List D) (lo hi : Option Int) : List D :=
  (xs.drop (HT.sIx xs.length 0 lo)).take (HT.sIx xs.length xs.length hi - HT.sIx xs.length 0 lo)
def sloD (x : D) (lo hi : Option Int) : Option (Bool × D) := match x with
  | .lst xs => some (true, .lst (cutL xs lo hi))
  | .tup xs => some (false, .tup (cutL xs lo hi))
  | .str z => if z.length ≤ sizeLine then some (false, .str (L2.cutS z lo hi)) else none
  | _ => none
/-- what repr tells of data -/
def reprD (d : D) : Option (Bool × D) := match d.py with
  | some p => if p.showable = true ∧ p.depth ≤ 64 ∧ p.shown.length ≤ sizeLine then some (false, .str p.shown) else none
  | none => none
def shapedD (d : D) : Option PyData := match d.py with
  | some p => if SeqAt.shaped p then some p else none
  | none => none
def shapedL (ds : List D) : Option (List PyData) := match D.pys ds with
  | some ps => if SeqAt.shaped (.list ps) then some ps else none
  | none => none
/-- x in y -/
def inD : D → D → Option Bool
  | .str a, .str b => some (!(Builtin.Str.occurrences b a 0 b.length 1).isEmpty)
  | x, .lst ds => match shapedD x, shapedL ds with
    | some p, some ps => some (ps.any fun z => PyData.eqv z p)
    | _, _ => none
  | x, .tup ds => match shapedD x, shapedL ds with
    | some p, some ps => some (ps.any fun z => PyData.eqv z p)
    | _, _ => none
  | _, _ => none
def insZ (a : Int) : List Int → List Int
  | [] => [a]
  | b :: l => if a ≤ b then a :: b :: l else b :: insZ a l
def sortZ : List Int → List Int
  | [] => []
  | a :: l => insZ a (sortZ l)
def insU (a : Int) : List Int → List Int
  | [] => [a]
  | b :: l => if a < b then a :: b :: l else if a = b then b :: l else b :: insU a l
/-- ascending, each once -/
def sortU : List Int → List Int
  | [] => []
  | a :: l => insU a (sortU l)
/-- near_zeros: the cuts between -b and b -/
def nzCut (b : Int) (l : List Int) : List Int := (sortU (-b :: b :: l.flatMap fun a => [a, a + 1])).filter fun x => decide (-b ≤ x) && decide (x ≤ b)
def firstAt (p : PyData) : List PyData → Nat → Option Nat
  | [], _ => none
  | z :: l, k => if PyData.eqv z p then some k else firstAt p l (k + 1)
def evP : P → List D → Option (Bool × D)
  | .add, ds => match ds with
    | [.int a, .int b] => some (false, .int (a + b))
    | [.str a, .str b] => if a.length + b.length ≤ sizeLine then some (false, .str (a ++ b)) else none
    | [.tup a, .tup b] => if a.length + b.length ≤ sizeLine then some (false, .tup (a ++ b)) else none
    | [.lst a, .lst b] => if a.length + b.length ≤ sizeLine then some (true, .lst (a ++ b)) else none
    | _ => none
  | .sub, ds => opI (fun a b => some (a - b)) ds
  | .mul, ds => match ds with
    | [.int a, .int b] => if mulOk a b then some (false, .int (a * b)) else none
    | [.tup a, .int k] => if k ≤ 1000 ∧ a.length ≤ 1000 ∧ a ≠ [] ∧ 0 ≤ k then some (false, .tup (List.replicate k.toNat a).flatten) else none
    | [.lst a, .int k] => if k ≤ 300 ∧ a.length ≤ 300 ∧ 0 ≤ k then some (true, .lst (List.replicate k.toNat a).flatten) else none
    | _ => none
  | .fdiv, ds => opI (fun a b => if b ≠ 0 ∧ (b.natAbs.log2 < 9000 ∨ a.natAbs.log2 < b.natAbs.log2 + 4400) then some (a.fdiv b) else none) ds
  | .mod, ds => opI (fun a b => if b ≠ 0 then some (a.fmod b) else none) ds
  | .pow, ds => opI (fun a b => if 0 ≤ b ∧ b ≤ 1000000 ∧ a.natAbs < 2 ^ 64 then some (a ^ b.toNat) else none) ds
  | .neg, ds => match ds with | [.int a] => some (false, .int (-a)) | _ => none
  | .lt, ds => cmpI (fun a b => decide (a < b)) ds
  | .le, ds => cmpI (fun a b => decide (a ≤ b)) ds
  | .gt, ds => cmpI (fun a b => decide (b < a)) ds
  | .ge, ds => cmpI (fun a b => decide (b ≤ a)) ds
  | .eq, ds => match ds with | [a, b] => (dEq a b).map fun c => (false, .bl c) | _ => none
  | .ne, ds => match ds with | [a, b] => (dEq a b).map fun c => (false, .bl (!c)) | _ => none
  | .isN, ds => match ds with | [a] => some (false, .bl (isNon a)) | _ => none
  | .notN, ds => match ds with | [a] => some (false, .bl (!isNon a)) | _ => none
  | .idx, ds => match ds with
    | [.lst xs, .int i] => match L2.atI xs i with | some d => some (false, d) | none => none
    | [.tup xs, .int i] => match L2.atI xs i with | some d => some (false, d) | none => none
    | [.str z, .int i] => if z.length ≤ sizeLine then match L2.atI z.cps.toList i with | some c => some (false, .str ⟨#[c]⟩) | none => none else none
    | _ => none
  | .slo false false, ds => match ds with | [x] => sloD x none none | _ => none
  | .slo true false, ds => match ds with | [x, .int a] => sloD x (some a) none | _ => none
  | .slo false true, ds => match ds with | [x, .int b] => sloD x none (some b) | _ => none
  | .slo true true, ds => match ds with | [x, .int a, .int b] => sloD x (some a) (some b) | _ => none
  | .len, ds => match ds with
    | [.lst xs] => some (false, .int xs.length)
    | [.tup xs] => some (false, .int xs.length)
    | [.str z] => if z.length ≤ sizeLine then some (false, .int z.length) else none
    | _ => none
  | .abs, ds => match ds with | [.int a] => some (false, .int (if a < 0 then -a else a)) | _ => none
  | .int, ds => match ds with
    | [.int a] => some (false, .int a)
    | [.bl b] => some (false, .int (if b then 1 else 0))
    | [.str a] => match PySem.intText? a with | some n => if a.length ≤ 640 then some (false, .int n) else none | none => none
    | _ => none
  | .tuple, ds => match ds with | [.lst xs] => some (false, .tup xs) | [.tup xs] => some (false, .tup xs) | _ => none
  | .list, ds => match ds with | [.lst xs] => some (true, .lst xs) | [.tup xs] => some (true, .lst xs) | _ => none
  | .sum, ds => onLst intsOf sumL ds
  | .all, ds => onLst blsOf allL ds
  | .any, ds => onLst blsOf anyL ds
  | .max1, ds => onLst intsOf maxL ds
  | .min1, ds => onLst intsOf minL ds
  | .max2, ds => opI (fun a b => some (if b > a then b else a)) ds
  | .min2, ds => opI (fun a b => some (if b < a then b else a)) ds
  | .divmod, ds => match ds with
    | [.int a, .int b] => if 0 < b ∧ b < 1073741824 then some (false, .tup [.int (a / b), .int (a % b)]) else none
    | _ => none
  | .isi t, ds => match ds with | [d] => (isiD t d).map fun c => (false, .bl c) | _ => none
  | .isiC c, ds => match ds with | [.ins k _] => some (false, .bl (k == c)) | [.cls _] => none | [.exn _ _] => none | [_] => some (false, .bl false) | _ => none
  | .strI, ds => match ds with
    | [.int i] => if i.natAbs.log2 < 1920 then some (false, .str (toString i)) else none
    | _ => none
  | .join, ds => match ds with
    | [.str a, .lst ys] => joinD a ys
    | [.str a, .tup ys] => joinD a ys
    | _ => none
  | .addI, ds => opI (fun a b => some (a + b)) ds
  | .mulI, ds => opI (fun a b => if mulOk a b then some (a * b) else none) ds
  | .repr, ds => match ds with | [d] => reprD d | _ => none
  | .isIn, ds => match ds with | [x, y] => (inD x y).map fun c => (false, .bl c) | _ => none
  | .notIn, ds => match ds with | [x, y] => (inD x y).map fun c => (false, .bl (!c)) | _ => none
  | .revL, ds => match ds with
    | [.lst xs] => some (true, .lst xs.reverse)
    | [.tup xs] => some (false, .tup xs.reverse)
    | _ => none
  | .index, ds => match ds with
    | [.lst xs, d] => match shapedL xs, shapedD d with
      | some ps, some p => (firstAt p ps 0).map fun k => (false, .int k)
      | _, _ => none
    | _ => none
  | .intT, ds => match ds with
    | [.str a] => if a.length ≤ 640 then (PySem.intText? a).map fun n => (false, .int n) else none
    | _ => none
  | .asStr, ds => match ds with | [.str a] => some (false, .str a) | _ => none
  | .asLen, ds => match ds with | [.int i] => if 0 ≤ i ∧ i < 4611686018427387904 then some (false, .int i) else none | _ => none
  | .asTru, ds => match ds with | [.int i] => if 0 ≤ i ∧ i < 4611686018427387904 then some (false, .bl (i != 0)) else none | _ => none
  | .asBl, ds => match ds with | [.bl b] => some (false, .bl b) | _ => none
  | .notBl, ds => match ds with | [.bl b] => some (false, .bl (!b)) | _ => none
  | .isX l, ds => match ds with | [.exn c _] => some (false, .bl (l.contains c)) | _ => none
  | .fldX l, ds => match ds with | [.exn c fs] => if l.contains c then (match fs with | [d] => some (false, d) | _ => none) else none | _ => none
  | .countT, ds => match ds with
    | [.lst xs] => (blsOf xs).map fun l => (false, .int (l.count true))
    | _ => none
  | .indexT, ds => match ds with
    | [.lst xs] => match blsOf xs with | some l => (if l.contains true then some (false, .int (l.idxOf true)) else none) | none => none
    | _ => none
  | .eqU, ds => match ds with | [.tup xs] => some (false, .bl xs.isEmpty) | _ => none
  | .neU, ds => match ds with | [.tup xs] => some (false, .bl (!xs.isEmpty)) | _ => none
  | .eqE, ds => match ds with | [.lst xs] => some (false, .bl xs.isEmpty) | _ => none
  | .neE, ds => match ds with | [.lst xs] => some (false, .bl (!xs.isEmpty)) | _ => none
  | .lrng, ds => match ds with | [.int i] => if 0 ≤ i ∧ i ≤ 1000000 then some (true, .lst ((List.range i.toNat).map fun k => D.int (k : Nat))) else none | _ => none
  | .cntI, ds => match ds with
    | [.lst xs, .int z] => (intsOf xs).map fun l => (false, .int (l.count z))
    | _ => none
  | .ext f, ds => f ds
  | .asIns c, ds => match ds with | [.ins c' fs] => if c' = c then some (false, .ins c fs) else none | _ => none
  | .srt, ds => match ds with
    | [.lst xs] => (intsOf xs).map fun l => (true, .lst ((sortZ l).map D.int))
    | _ => none
  | .srtS, ds => match ds with
    | [.lst xs] => match intsOf xs with
      | some l => if l.length ≤ 1000 ∧ (sortU l).length < 64 then some (true, .lst ((sortU l).map D.int)) else none
      | none => none
    | _ => none
  | .split, ds => match ds with
    | [.str a, .str b] => if (b.length == 0) = false ∧ a.length + 2 ≤ sizeLine then some (true, .lst ((PySem.Txt.split a b).map D.str)) else none
    | _ => none

/-- the truth of a value -/
def truD : D → Option Bool
  | .non => some false
  | .bl b => some b
  | .int i => some (i != 0)
  | .str z => if z.length ≤ sizeLine then some (z.length != 0) else none
  | .tup xs => some (!xs.isEmpty)
  | .lst xs => some (!xs.isEmpty)
  | .ins _ _ => none
  | .cls _ => none
  | .exn _ _ => none
  | .dct _ => none

/-! ### the evaluator -/
def RV.down : RV → RV
  | .new d => .val d
  | r => r
def RV.at_ (r : RV) (q : Fm) : Option D := match r with
  | .val d => some d
  | .new d => some d
  | .slot i => match q[i]? with
    | some (.sh _ d) => some d
    | some (.ow _ d) => some d
    | _ => none
def RV.vd : RV → Option D
  | .val d => some d
  | .new d => some d
  | .slot _ => none
def atAll (q : Fm) : List RV → Option (List D)
  | [] => some []
  | r :: rs => match r.at_ q, atAll q rs with | some d, some ds => some (d :: ds) | _, _ => none
/-- an argument: a value, or a slot that is lent -/
inductive Ga where
  | v (d : D) | b (i : Nat)
/-- the keys of a list's items -/
def keysD (g : D → Option Int) : List D → Option (List Int)
  | [] => some []
  | d :: l => match g d, keysD g l with | some i, some r => some (i :: r) | _, _ => none
def insK (p : Int × D) : List (Int × D) → List (Int × D)
  | [] => [p]
  | q :: l => if p.1 ≤ q.1 then p :: q :: l else q :: insK p l
def srtD : List (Int × D) → List (Int × D)
  | [] => []
  | p :: l => insK p (srtD l)
/-- sorted by keys that are all different -/
def sortK (g : D → Option Int) (ds : List D) : Option (List D) := match keysD g ds with
  | some ks => if ds.length < 64 ∧ ks.Nodup then some ((srtD (ks.zip ds)).map (·.2)) else none
  | none => none
def intR : Res RV → Option Int
  | .ok (.val (.int i)) _ => some i
  | _ => none
/-- all are instances of the class c -/
def insL (c : Nat) : List Ga → Bool
  | [] => true
  | .v (.ins k _) :: r => k == c && insL c r
  | _ => false
def lent (q : Fm) : List Ga → Option Fm
  | [] => some []
  | .v d :: r => match lent q r with | some l => some (.sh false d :: l) | none => none
  | .b i :: r => match q[i]?, lent q r with | some (.ow _ d), some l => some (.ow true d :: l) | _, _ => none
def lentIx : List Ga → List Nat
  | [] => []
  | .v _ :: r => lentIx r
  | .b i :: r => i :: lentIx r
def Slot.bors (b : Bool) : Slot → Slot
  | .sh _ d => .sh b d
  | .ow _ d => .ow b d
  | .no => .no
  | .pin => .no
def giveBack : List Ga → Fm → Fm → Fm
  | .b i :: r, s :: l, q => giveBack r l (q.set i (s.bors ((q.getD i .no).isBor)))
  | .v _ :: r, _ :: l, q => giveBack r l q
  | _, _, q => q
/-- the frame without the lists that it owns -/
def hidF (q : Fm) : Fm := q.map fun s => match s with
  | .ow _ _ => .no
  | s => s
structure Calls where
  fn : Nat → Fm → Res RV
  cn : Nat → Fm → Res (List D)
  /-- a def that calls what it got: behind a value, behind an exception -/
  an : Nat → Bool → D → Res RV
def bindR {α β : Type} (r : Res α) (f : α → Fm → Res β) : Res β := match r with
  | .ok a q => f a q
  | .exc c ds q => .exc c ds q
  | .bad => .bad
def primR (p : P) (rs : List RV) (q : Fm) : Res RV := match atAll q rs with
  | some ds => match evP p ds with
    | some (true, d) => .ok (.new d) q
    | some (false, d) => .ok (.val d) q
    | none => .bad
  | none => .bad
def noSlot : Res RV → Res RV
  | .ok (.slot _) _ => .bad
  | r => r
def callR (K : Calls) (f : Nat) (gs : List Ga) (q : Fm) : Res RV :=
  if (lentIx gs).Nodup then match lent q gs with
    | some as => match noSlot (K.fn f as) with
      | .ok r as' => .ok r (giveBack gs as' q)
      | .exc c ds as' => .exc c ds (giveBack gs as' q)
      | .bad => .bad
    | none => .bad
  else .bad
def makeR (K : Calls) (c : Nat) (gs : List Ga) (q : Fm) : Res RV :=
  if lentIx gs = [] then match lent q gs with
    | some as => match K.cn c as with
      | .ok fs _ => .ok (.val (.ins c fs)) q
      | .exc c ds _ => .exc c ds q
      | .bad => .bad
    | none => .bad
  else .bad
def pick {α : Type} (pm : List Nat) (l : List α) : List α := pm.filterMap fun i => l[i]?
def boolR : Res RV → Option Bool
  | .ok (.val (.bl b)) _ => some b
  | _ => none
/-- an item of a list compared with an instance x of the class c, by the def f of its == -/
def eqCall (K : Calls) (c f : Nat) (x d : D) : Option Bool := match d with
  | .ins c' fs => if c' = c then boolR (noSlot (K.fn f [.sh false (.ins c' fs), .sh false x])) else none
  | .cls _ => none
  | .exn _ _ => none
  | d => boolR (noSlot (K.fn f [.sh false x, .sh false d]))
def isIns : D → Bool
  | .ins _ _ => true
  | _ => false
/-- false only where no instance was among the items (one may be the very object) -/
def inLoop (call : D → Option Bool) : Bool → List D → Option Bool
  | s, [] => if s then none else some false
  | s, d :: ds => match call d with
    | some true => some true
    | some false => inLoop call (s || isIns d) ds
    | none => none
def popIx (n : Nat) (z : Int) : Option Nat := if n ≤ 1000000 then L2.ixN n z else none
def popR (i : Nat) (k : D) (q : Fm) : Res RV := match q[i]?, k with
  | some (.ow b (.lst xs)), .int z => match popIx xs.length z with
    | some j => match xs[j]? with
      | some d => .ok (.val d) (q.set i (.ow b (.lst (xs.eraseIdx j))))
      | none => .bad
    | none => .bad
  | _, _ => .bad
def seqD : D → Option (List D)
  | .lst xs => some xs
  | .tup xs => some xs
  | _ => none
def starR (r : RV) (q : Fm) : Option (List D) := match r.at_ q with
  | some d => seqD d
  | none => none
def rngL (lo : Int) (n : Nat) : List D := (List.range n).map fun k => .int (lo + (k : Nat))
def rngC (lo c : Int) (n : Nat) : List D := (List.range n).map fun k => .int (lo + (k : Nat) * c)
def enmL : Nat → List D → List D
  | _, [] => []
  | k, d :: ds => .tup [.int (k : Nat), d] :: enmL (k + 1) ds
def zipL : List D → List D → List D
  | a :: r, b :: s => .tup [a, b] :: zipL r s
  | _, _ => []
def strL (z : Str) : List D := z.cps.toList.map fun c => .str ⟨#[c]⟩
def itemsD : D → Option (List D)
  | .lst xs => some xs
  | .tup xs => some xs
  | .str z => some (strL z)
  | _ => none
def vds : List RV → Option (List D)
  | [] => some []
  | r :: rs => match r.vd, vds rs with | some d, some ds => some (d :: ds) | _, _ => none
def itR (rs : List RV) (q : Fm) (f : List D → Option (List D)) : Res (List D) := match vds rs with
  | some ds => match f ds with
    | some l => .ok l q
    | none => .bad
  | none => .bad
def inR (i : Int) : Bool := decide (-(2 ^ 62) ≤ i) && decide (i < 2 ^ 62)
def rng1F : List D → Option (List D)
  | [.int j] => if inR j then some (rngL 0 j.toNat) else none
  | _ => none
def rng2F : List D → Option (List D)
  | [.int i, .int j] => if inR i && inR j then some (rngL i (j - i).toNat) else none
  | _ => none
def rng3F : List D → Option (List D)
  | [.int i, .int j, .int c] => if inR i && inR j && decide (0 < c) && decide (c < 1000000) then some (rngC i c (Builtin.Range.rangeSize i j c).toNat) else none
  | _ => none
def enmF : List D → Option (List D)
  | [d] => (seqD d).map (enmL 0)
  | _ => none
def zipF : List D → Option (List D)
  | [a, b] => match seqD a, seqD b with | some x, some y => some (zipL x y) | _, _ => none
  | _ => none
def setName (i : Nat) (r : RV) (q : Fm) : Res Unit := match q[i]? with
  | some s => if s.isBor then .bad else match r with
    | .val d => .ok () (q.set i (.sh false d))
    | .new d => .ok () (q.set i (.ow false d))
    | .slot _ => .bad
  | none => .bad
def setSub (i : Nat) (k v : D) (q : Fm) : Res Unit := match q[i]?, k with
  | some (.ow b (.lst xs)), .int z => match L2.ixN xs.length z with
    | some j => .ok () (q.set i (.ow b (.lst (xs.set j v))))
    | none => .bad
  | _, _ => .bad
def isOwn : Option Slot → Bool
  | some (.ow _ _) => true
  | _ => false
def appR (i : Nat) (d : D) (q : Fm) : Res RV := match q[i]? with
  | some (.ow b (.lst xs)) => if xs.length < sizeLine then .ok (.val .non) (q.set i (.ow b (.lst (xs ++ [d])))) else .bad
  | _ => .bad
def extR (i : Nat) (d : D) (q : Fm) : Res RV := match q[i]?, d with
  | some (.ow b (.lst xs)), .lst ys => if xs.length + ys.length ≤ sizeLine then .ok (.val .non) (q.set i (.ow b (.lst (xs ++ ys)))) else .bad
  | some (.ow b (.lst xs)), .tup ys => if xs.length + ys.length ≤ sizeLine then .ok (.val .non) (q.set i (.ow b (.lst (xs ++ ys)))) else .bad
  | _, _ => .bad
def loopF (asg : D → Fm → Res Unit) (body : Fm → SRes) : List D → Fm → SRes
  | [], q => .nx q
  | d :: ds, q => match asg d q with
    | .ok _ q1 => match body q1 with
      | .nx q2 => loopF asg body ds q2
      | .cnt q2 => loopF asg body ds q2
      | .brk q2 => .nx q2
      | r => r
    | _ => .bad
def loopW (test : Fm → Res Bool) (body : Fm → SRes) : Nat → Fm → SRes
  | 0, _ => .bad
  | n + 1, q => match test q with
    | .ok true q1 => match body q1 with
      | .nx q2 => loopW test body n q2
      | .cnt q2 => loopW test body n q2
      | .brk q2 => .nx q2
      | r => r
    | .ok false q1 => .nx q1
    | .exc c es q1 => .exc c es q1
    | .bad => .bad
/-- a comprehension's own names, taken out of the frame, put back -/
def wipeF (vs : List Nat) (q : Fm) : Fm := vs.foldr (fun v q => q.set v .no) q
def noOw (vs : List Nat) (q : Fm) : Bool := vs.all fun v => match q[v]? with | some (.ow _ _) => false | some _ => true | none => false
def backF (vs : List Nat) (old q : Fm) : Fm := vs.foldr (fun v q => q.set v (old.getD v .no)) q
def loopC (vs : List Nat) (asg : D → Fm → Res Unit) (test : Fm → Res Bool) (elt : Fm → Res RV) : List D → List D → Fm → Res (List D)
  | acc, [], q => .ok acc q
  | acc, d :: ds, q => match asg d (wipeF vs q) with
    | .ok _ q1 => match test q1 with
      | .ok true q2 => match elt q2 with
        | .ok r q3 => match r.vd with
          | some x => if acc.length < sizeLine && noOw vs q3 then loopC vs asg test elt (acc ++ [x]) ds q3 else .bad
          | none => .bad
        | _ => .bad
      | .ok false q2 => if noOw vs q2 then loopC vs asg test elt acc ds q2 else .bad
      | _ => .bad
    | _ => .bad
def rowsOf : List D → Option (List (List D))
  | [] => some []
  | d :: ds => match seqD d, rowsOf ds with | some r, some l => some (r :: l) | _, _ => none
def zipCols (rs : List (List D)) (m : Nat) : List D := (List.range m).map fun j => .tup (rs.map fun r => r.getD j .non)
def zipSR (l : List D) : Option (List D) := match rowsOf l with
  | some (r :: rs) => if rs.length ≤ 3 ∧ r.length ≤ 1000000 ∧ rs.all (fun x => x.length == r.length) = true then some (zipCols (r :: rs) r.length) else none
  | _ => none
/-- up to ten rows -/
def zipS9 (l : List D) : Option (List D) := match rowsOf l with
  | some (r :: rs) => if rs.length ≤ 9 ∧ r.length ≤ 1000000 ∧ rs.all (fun x => x.length == r.length) = true then some (zipCols (r :: rs) r.length) else none
  | _ => none
def most : Nat := 1000000000
mutual
def LV.ns : LV → List Nat
  | .nm i => [i]
  | .tp r => r.ns
  | .sub _ _ => []
def LVs.ns : LVs → List Nat
  | .nil => []
  | .cons l r => l.ns ++ r.ns
end
def LVs.len : LVs → Nat
  | .nil => 0
  | .cons _ r => r.len + 1
/-- the inner walk of a comprehension with two for -/
def loopC1 (vs vs1 : List Nat) (asg : D → Fm → Res Unit) (test : Fm → Res Bool) (elt : Fm → Res RV) : List D → List D → Fm → Res (List D)
  | acc, [], q => .ok acc q
  | acc, d :: ds, q => match asg d (wipeF vs1 q) with
    | .ok _ q1 => match test q1 with
      | .ok true q2 => match elt q2 with
        | .ok r q3 => match r.vd with
          | some x => if acc.length < sizeLine && noOw vs q3 then loopC1 vs vs1 asg test elt (acc ++ [x]) ds q3 else .bad
          | none => .bad
        | _ => .bad
      | .ok false q2 => if noOw vs q2 then loopC1 vs vs1 asg test elt acc ds q2 else .bad
      | _ => .bad
    | _ => .bad
def loopC2 (vs : List Nat) (asg : D → Fm → Res Unit) (test : Fm → Res Bool) (inner : List D → Fm → Res (List D)) : List D → List D → Fm → Res (List D)
  | acc, [], q => .ok acc q
  | acc, d :: ds, q => match asg d (wipeF vs q) with
    | .ok _ q1 => match test q1 with
      | .ok true q2 => match inner acc q2 with
        | .ok acc' q3 => if noOw vs q3 then loopC2 vs asg test inner acc' ds q3 else .bad
        | _ => .bad
      | .ok false q2 => if noOw vs q2 then loopC2 vs asg test inner acc ds q2 else .bad
      | _ => .bad
    | _ => .bad
mutual
def ev (K : Calls) : E → Bool → Fm → Res RV
  | .var i, pk, q => match q[i]? with
    | some (.sh _ d) => .ok (.val d) q
    | some (.ow b d) => if pk then .ok (.slot i) q else .ok (.val d) (q.set i (.sh b d))
    | _ => .bad
  | .con d, _, q => .ok (.val d) q
  | .glo _ d, _, q => .ok (.val d) q
  | .prm p es, _, q => bindR (evs K es q) fun rs q1 => primR p rs q1
  | .tup es, _, q => bindR (evA K es q) fun ds q1 => if ds.length ≤ sizeLine then .ok (.val (.tup ds)) q1 else .bad
  | .lst es, _, q => bindR (evA K es q) fun ds q1 => if ds.length ≤ sizeLine then .ok (.new (.lst ds)) q1 else .bad
  | .ife t a b, _, q => bindR (evT K t q) fun c q1 => if c then ev K a false q1 else ev K b false q1
  | .andV a b, _, q => bindR (ev K a true q) fun r q1 => match r with
    | .val (.bl true) => ev K b false q1
    | .val (.bl false) => .ok (.val (.bl false)) q1
    | _ => .bad
  | .orV a b, _, q => bindR (ev K a true q) fun r q1 => match r with
    | .val (.bl false) => ev K b false q1
    | .val (.bl true) => .ok (.val (.bl true)) q1
    | _ => .bad
  | .notV e, _, q => bindR (ev K e true q) fun r q1 => match r.at_ q1 with
    | some d => match truD d with
      | some c => .ok (.val (.bl (!c))) q1
      | none => .bad
    | none => .bad
  | .chain o1 o2 a b c, _, q => bindR (ev K a false q) fun r1 q1 => bindR (ev K b false q1) fun r2 q2 => match r1.vd, r2.vd with
    | some x, some y => match evP o1 [x, y] with
      | some (_, .bl true) => bindR (ev K c false q2) fun r3 q3 => match r3.vd with
        | some z => match evP o2 [y, z] with
          | some (false, d) => .ok (.val d) q3
          | _ => .bad
        | none => .bad
      | some (_, .bl false) => .ok (.val (.bl false)) q2
      | _ => .bad
    | _, _ => .bad
  | .call f gs, _, q => bindR (evG K gs q) fun l q1 => callR K f l q1
  | .srtK f e, _, q => bindR (ev K e false q) fun r q1 => match r.vd with
    | some (.lst ds) => match sortK (fun d => intR (noSlot (K.fn f [.sh false d]))) ds with
      | some l => .ok (.new (.lst l)) q1
      | none => .bad
    | _ => .bad
  | .callI c f gs, _, q => bindR (evG K gs q) fun l q1 => if insL c l then callR K f l q1 else .bad
  | .inI c f neg i e, _, q => match q[i]? with
    | some (.sh _ (.ins c' fs)) => if c' = c then bindR (ev K e true q) fun r q1 => match r.at_ q1 with
        | some (.lst ds) => match inLoop (eqCall K c f (.ins c' fs)) false ds with
          | some b => .ok (.val (.bl (b != neg))) q1
          | none => .bad
        | _ => .bad
      else .bad
    | _ => .bad
  | .callO f e, _, q => bindR (ev K e false q) fun r q1 => match r with
    | .new d => match noSlot (K.fn f [.ow false d]) with
      | .ok r' _ => .ok r' q1
      | .exc c ds _ => .exc c ds q1
      | .bad => .bad
    | _ => .bad
  | .make c gs, _, q => bindR (evG K gs q) fun l q1 => makeR K c l q1
  | .callP f pm gs, _, q => bindR (evG K gs q) fun l q1 => callR K f (pick pm l) q1
  | .makeP c pm gs, _, q => bindR (evG K gs q) fun l q1 => makeR K c (pick pm l) q1
  | .mthC c f pm e gs, _, q => bindR (ev K e false q) fun r q1 => match r with
    | .val (.ins c' fs) => if c' = c then bindR (evG K gs q1) fun l q2 => callR K f (pick pm (.v (.ins c fs) :: l)) q2 else .bad
    | _ => .bad
  | .fst pre e post, _, q => bindR (ev K e true q) fun r q1 => match r with
    | .val (.int i) => if i.natAbs.log2 < 1920 ∧ ((pre ++ toString i) ++ post).length ≤ sizeLine then .ok (.val (.str ((pre ++ toString i) ++ post))) q1 else .bad
    | _ => .bad
  | .pop i e, _, q => if isOwn q[i]? then bindR (ev K e false q) fun r q1 => match r.vd with
    | some d => popR i d q1
    | none => .bad
    else .bad
  | .fld c k e, _, q => bindR (ev K e false q) fun r q1 => match r with
    | .val (.ins c' fs) => if c' = c then match fs[k]? with
        | some d => .ok (.val d) q1
        | none => .bad
      else .bad
    | _ => .bad
  | .prop c f e, _, q => bindR (ev K e false q) fun r q1 => match r with
    | .val (.ins c' fs) => if c' = c then match noSlot (K.fn f [.sh false (.ins c fs)]) with
        | .ok r' _ => .ok r' q1
        | _ => .bad
      else .bad
    | _ => .bad
  | .lc vs g it t e, _, q => bindR (evI K it q) fun l q1 => if noOw vs q1 then
      match loopC vs (fun d q => evL K g (.val d) q) (evT K t) (ev K e false) [] l q1 with
      | .ok ds q2 => .ok (.new (.lst ds)) (backF vs q1 q2)
      | _ => .bad
    else .bad
  | .lc2 vs vs1 g it t g1 it1 t1 e, _, q => bindR (evI K it q) fun l q1 => if noOw vs q1 then
      match loopC2 vs (fun d q => evL K g (.val d) q) (evT K t) (fun acc q => bindR (evI K it1 q) fun l1 q2 => if noOw vs q2 then loopC1 vs vs1 (fun d q => evL K g1 (.val d) q) (evT K t1) (ev K e false) acc l1 q2 else .bad) [] l q1 with
      | .ok ds q2 => .ok (.new (.lst ds)) (backF vs q1 q2)
      | _ => .bad
    else .bad
  | .app i e, _, q => if isOwn q[i]? then bindR (ev K e false q) fun r q1 => match r.vd with
    | some d => appR i d q1
    | none => .bad
    else .bad
  | .ext i e, _, q => if isOwn q[i]? then bindR (ev K e false q) fun r q1 => match r.vd with
    | some d => extR i d q1
    | none => .bad
    else .bad
  | .zipS e, _, q => bindR (ev K e true q) fun r q1 => match starR r q1 with
    | some l => match zipSR l with
      | some cs => .ok (.new (.lst cs)) q1
      | none => .bad
    | none => .bad
  | .zipS2 e f, _, q => bindR (ev K e true q) fun r q1 => match starR r q1 with
    | some l => bindR (ev K f true q1) fun r2 q2 => match r2 with
      | .val d => match zipS9 (l ++ [d]) with
        | some cs => .ok (.new (.lst cs)) q2
        | none => .bad
      | _ => .bad
    | none => .bad
  | .mth p a b, _, q => bindR (ev K a false q) fun r q1 => match r with
    | .val (.str z) => bindR (ev K b true q1) fun r2 q2 => primR p [.val (.str z), r2.down] q2
    | _ => .bad
  | .answ A e, _, q => match ev K e false (hidF q) with
    | .ok r _ => match r.vd with
      | some d => match K.an A true d with
        | .ok r2 _ => .ok r2 q
        | _ => .bad
      | none => .bad
    | .exc c ds _ => match K.an A false (.exn c ds) with
      | .ok r2 _ => .ok r2 q
      | _ => .bad
    | .bad => .bad
def evs (K : Calls) : Es → Fm → Res (List RV)
  | .nil, q => .ok [] q
  | .cons e r, q => bindR (ev K e true q) fun x q1 => bindR (evs K r q1) fun xs q2 => .ok (x.down :: xs) q2
def evA (K : Calls) : As → Fm → Res (List D)
  | .nil, q => .ok [] q
  | .one e r, q => bindR (ev K e false q) fun x q1 => match x.vd with
    | some d => bindR (evA K r q1) fun ds q2 => .ok (d :: ds) q2
    | none => .bad
  | .star e r, q => bindR (ev K e true q) fun x q1 => match starR x q1 with
    | some l => bindR (evA K r q1) fun ds q2 => .ok (l ++ ds) q2
    | none => .bad
def evG (K : Calls) : Gs → Fm → Res (List Ga)
  | .nil, q => .ok [] q
  | .v e r, q => bindR (ev K e false q) fun x q1 => match x.vd with
    | some d => bindR (evG K r q1) fun l q2 => .ok (.v d :: l) q2
    | none => .bad
  | .b i r, q => match q[i]? with
    | some (.ow _ _) => bindR (evG K r q) fun l q1 => .ok (.b i :: l) q1
    | _ => .bad
def evT (K : Calls) : T → Fm → Res Bool
  | .val e, q => bindR (ev K e true q) fun r q1 => match r.at_ q1 with
    | some d => match truD d with
      | some c => .ok c q1
      | none => .bad
    | none => .bad
  | .yes, q => .ok true q
  | .all a b, q => bindR (evT K a q) fun c q1 => if c then evT K b q1 else .ok false q1
  | .any a b, q => bindR (evT K a q) fun c q1 => if c then .ok true q1 else evT K b q1
  | .not t, q => bindR (evT K t q) fun c q1 => .ok (!c) q1
def evI (K : Calls) : I → Fm → Res (List D)
  | .seq e, q => bindR (ev K e false q) fun r q1 => match r.vd with
    | some d => match itemsD d with
      | some l => .ok l q1
      | none => .bad
    | none => .bad
  | .rng1 a, q => bindR (ev K a false q) fun r q1 => itR [r] q1 rng1F
  | .rng2 a b, q => bindR (ev K a false q) fun r q1 => bindR (ev K b false q1) fun r2 q2 => itR [r, r2] q2 rng2F
  | .rng3 a b c, q => bindR (ev K a false q) fun r q1 => bindR (ev K b false q1) fun r2 q2 => bindR (ev K c false q2) fun r3 q3 => itR [r, r2, r3] q3 rng3F
  | .enm a, q => bindR (ev K a false q) fun r q1 => itR [r] q1 enmF
  | .zip a b, q => bindR (ev K a false q) fun r q1 => bindR (ev K b false q1) fun r2 q2 => itR [r, r2] q2 zipF
def evL (K : Calls) : LV → RV → Fm → Res Unit
  | .nm i, r, q => setName i r q
  | .tp ls, r, q => match r.vd with
    | some (.tup ds) => if ds.length = ls.len then evLs K ls ds q else .bad
    | _ => .bad
  | .sub i k, r, q => match r.vd, q[i]? with
    | some d, some (.ow _ _) => match ev K k false q with
      | .ok (.val z) q1 => setSub i z d q1
      | _ => .bad
    | _, _ => .bad
def evLs (K : Calls) : LVs → List D → Fm → Res Unit
  | .nil, [], q => .ok () q
  | .cons l r, d :: ds, q => match evL K l (.val d) q with
    | .ok _ q1 => evLs K r ds q1
    | _ => .bad
  | _, _, _ => .bad
end
def shr1 (i : Nat) (q : Fm) : Fm := match q[i]? with
  | some (.ow b d) => q.set i (.sh b d)
  | _ => q
def shrF (vs : List Nat) (q : Fm) : Fm := vs.foldr shr1 q
/-- several names at once, the last one first -/
def setNs : List (Nat × RV) → Fm → SRes
  | [], q => .nx q
  | (i, r) :: l, q => match setName i r q with
    | .ok _ q1 => setNs l q1
    | _ => .bad
def ofR {α : Type} (r : Res α) (f : α → Fm → SRes) : SRes := match r with
  | .ok a q => f a q
  | .exc c ds q => .exc c ds q
  | .bad => .bad
mutual
def evS (K : Calls) : S → Fm → SRes
  | .expr e, q => ofR (ev K e false q) fun _ q1 => .nx q1
  | .asg l e, q => ofR (ev K e false q) fun r q1 => match evL K l r q1 with
    | .ok _ q2 => .nx q2
    | _ => .bad
  | .par i j a b, q => ofR (ev K a false q) fun r1 q1 => match r1.vd with
    | some d1 => ofR (ev K b false q1) fun r2 q2 => match r2.vd with
      | some d2 => match setName i (.val d1) q2 with
        | .ok _ q3 => match setName j (.val d2) q3 with
          | .ok _ q4 => .nx q4
          | _ => .bad
        | _ => .bad
      | none => .bad
    | none => .bad
  | .par2 i j a b, q => ofR (ev K a false q) fun r1 q1 => ofR (ev K b false q1) fun r2 q2 => setNs [(j, r2), (i, r1)] q2
  | .par3 i j k a b c, q => ofR (ev K a false q) fun r1 q1 => ofR (ev K b false q1) fun r2 q2 => ofR (ev K c false q2) fun r3 q3 => setNs [(k, r3), (j, r2), (i, r1)] q3
  | .asgS l e, q => ofR (ev K e false q) fun r q1 => match evL K l r.down q1 with
    | .ok _ q2 => .nx q2
    | _ => .bad
  | .retS e, q => ofR (ev K e false q) fun r q1 => .ret r.down q1
  | .retO i, q => match q[i]? with
    | some (.ow false _) => .ret (.slot i) q
    | _ => .bad
  | .kil is, q => .nx (wipeF is q)
  | .shr is, q => .nx (shrF is q)
  | .aug i p e, q => match q[i]? with
    | some (.sh false x) => ofR (ev K e false q) fun r q1 => match r.vd with
      | some y => match evP p [x, y] with
        | some (false, d) => .nx (q1.set i (.sh false d))
        | _ => .bad
      | none => .bad
    | _ => .bad
  | .ift t a b, q => ofR (evT K t q) fun c q1 => if c then evSs K a q1 else evSs K b q1
  | .for l it b, q => ofR (evI K it q) fun ds q1 => loopF (fun d q => evL K l (.val d) q) (evSs K b) ds q1
  | .whl t b, q => loopW (evT K t) (evSs K b) most q
  | .ret e, q => ofR (ev K e false q) fun r q1 => .ret r q1
  | .retN, q => .ret (.val .non) q
  | .pas, q => .nx q
  | .brk, q => .brk q
  | .cnt, q => .cnt q
  | .nev, _ => .bad
  | .augS i p k e, q => if isOwn q[i]? then ofR (ev K k false q) fun rk q1 => match rk, q1[i]? with
    | .val (.int z), some (.ow _ (.lst xs)) => match if 0 ≤ z then xs[z.toNat]? else none with
      | some x => ofR (ev K e false q1) fun r q2 => match r.vd with
        | some y => match evP p [x, y] with
          | some (false, d) => match setSub i (.int z) d q2 with
            | .ok _ q3 => .nx q3
            | _ => .bad
          | _ => .bad
        | none => .bad
      | none => .bad
    | _, _ => .bad
    else .bad
  | .nz ic fi ai bi e, q => match q[bi]?, q[ai]? with
    | some (.sh _ (.int b)), some _ => ofR (ev K e false (wipeF [ic] q)) fun r q1 => match r.vd with
      | some (.lst ds) => match intsOf ds with
        | some l => if l.length ≤ 1000 then match setName ic (.val (.lst ((nzCut b l).map D.int))) (wipeF [ai] q1) with
            | .ok _ q2 => match setName fi (.new (.lst [])) q2 with
              | .ok _ q3 => .nx q3
              | _ => .bad
            | _ => .bad
          else .bad
        | none => .bad
      | _ => .bad
    | _, _ => .bad
  | .rai c e, q => ofR (ev K e false q) fun r q1 => match r.vd with
    | some d => .exc c [d] q1
    | none => .bad
  | .rai0 c, q => .exc c [] q
def evSs (K : Calls) : Ss → Fm → SRes
  | .nil, q => .nx q
  | .cons s r, q => match evS K s q with
    | .nx q1 => evSs K r q1
    | x => x
end
structure FDef where
  nps : Nat
  nN : Nat
  body : Ss
structure CDef where
  nps : Nat
  nN : Nat
  pre : Ss
  fs : E
/-- a def that calls what it got, catches: nN names; iv: where the value is stored; ie: the exception's name -/
structure ADef where
  nN : Nat
  iv : Option Nat
  ie : Nat
  rest : Ss
  suite : Ss
structure Tab where
  fn : List (Nat × FDef)
  cn : List (Nat × CDef)
  an : List (Nat × ADef)
def onlyRet : SRes → Res RV
  | .ret (.val d) _ => .ok (.val d) []
  | .ret (.new d) _ => .ok (.new d) []
  | _ => .bad
def runA (K : Calls) (a : ADef) (b : Bool) (d : D) : Res RV :=
  if b then onlyRet (evSs K a.rest (match a.iv with
    | some i => (List.replicate a.nN Slot.no).set i (.sh false d)
    | none => List.replicate a.nN Slot.no))
  else onlyRet (evSs K a.suite ((List.replicate a.nN Slot.no).set a.ie (.sh false d)))
/-- what the caller sees of the parameters -/
def lentBack (n : Nat) (q : Fm) : Fm := (q.take n).map fun s => if s.isBor then s else .no
def noOwA (as : Fm) : Bool := as.all fun s => !s.isOw
/-- a def's own list at its end is a new one, if none was lent -/
def retF (n : Nat) (as : Fm) (r : RV) (q : Fm) : Res RV := match r with
  | .slot i => match q[i]? with
    | some (.ow false d) => if noOwA as then .ok (.new d) (lentBack n (q.set i .no)) else .bad
    | _ => .bad
  | r => .ok r (lentBack n q)
def runF (K : Calls) (d : FDef) (as : Fm) : Res RV :=
  if as.length = d.nps then match evSs K d.body (as ++ List.replicate (d.nN - d.nps) .no) with
    | .nx q => if d.nps ≤ q.length then .ok (.val .non) (lentBack d.nps q) else .bad
    | .ret r q => if d.nps ≤ q.length then retF d.nps as r q else .bad
    | .exc c ds q => .exc c ds (lentBack d.nps (q ++ List.replicate d.nps .no))
    | _ => .bad
  else .bad
/-- slot 0 is self -/
def isPin : Option Slot → Bool
  | some .pin => true
  | _ => false
def evM (K : Calls) (e : E) : Ss → Fm → Res (List D)
  | .nil, q => bindR (ev K e false q) fun r q1 => match r.vd with
    | some d => .ok [d] q1
    | none => .bad
  | .cons s r, q => match evS K s q with
    | .nx q1 => if isPin q1[0]? then evM K e r q1 else .bad
    | .exc c ds q1 => .exc c ds q1
    | _ => .bad
def runM (K : Calls) (d : CDef) (as : Fm) : Res (List D) :=
  if as.length + 1 = d.nps then evM K d.fs d.pre (.pin :: as ++ List.replicate (d.nN - d.nps) .no) else .bad
def calls (t : Tab) : Nat → Calls
  | 0 => ⟨fun _ _ => .bad, fun _ _ => .bad, fun _ _ _ => .bad⟩
  | n + 1 => ⟨fun f as => match t.fn.lookup f with | some d => runF (calls t n) d as | none => .bad, fun c as => match t.cn.lookup c with | some d => runM (calls t n) d as | none => .bad, fun a b d => match t.an.lookup a with | some x => runA (calls t n) x b d | none => .bad⟩
end M

set_option Elab.async false
set_option linter.all false
set_option maxRecDepth 100000
/-! A1: how values stand for data. -/
namespace M
open PySem L2
abbrev Pr := Addr → Prop
abbrev Sg := L2.St
/-! later: what was tracked and is not in R stands as it was; R2 has no more than R but new places; what was tracked is so -/
/-- no table of code objects (these grow where a lambda is made) -/
def NT (o : HO) : Prop := ∀ ps, o ≠ .tbl ps
structure Lat (R : Pr) (H : Hp) (R' : Pr) (H' : Hp) : Prop where
  kp : ∀ b o, H b = some o → ¬ R b → NT o → H' b = some o
  nw : ∀ b, R' b → R b ∨ H b = none
  tr : ∀ b, H b ≠ none → H' b ≠ none
theorem Lat.refl (R : Pr) (H : Hp) : Lat R H R H := ⟨fun _ _ h _ _ => h, fun _ h => .inl h, fun _ h => h⟩
theorem Lat.new {R R' : Pr} {H H' : Hp} (l : Lat R H R' H') {b : Addr} (h : H' b = none) : H b = none := by
  cases e : H b with
  | none => rfl
  | some o => exact absurd h (l.tr b (by rw [e]; exact fun z => nomatch z))
theorem Lat.trans {R R1 R2 : Pr} {H H1 H2 : Hp} (a : Lat R H R1 H1) (b : Lat R1 H1 R2 H2) : Lat R H R2 H2 := by
  refine ⟨fun c o h n t => b.kp c o (a.kp c o h n t) (fun z => ?_) t, fun c z => ?_, fun c z => b.tr c (a.tr c z)⟩
  · rcases a.nw c z with q | q
    · exact n q
    · rw [h] at q; cases q
  · rcases b.nw c z with q | q
    · exact a.nw c q
    · exact .inr (a.new q)
/-- a wider set of places that may not be leant on -/
theorem Lat.more {R R' S : Pr} {H H' : Hp} (a : Lat R H R' H') : Lat (fun b => S b ∨ R b) H (fun b => S b ∨ R' b) H' :=
  ⟨fun b o h n => a.kp b o h fun z => n (.inr z), fun b z => Or.elim z (fun z => .inl (.inl z)) fun z => Or.elim (a.nw b z) (fun z => .inl (.inr z)) .inr, a.tr⟩
theorem Lat.less {R R' R2 : Pr} {H H' : Hp} (a : Lat R H R' H') (h : ∀ b, R2 b → R' b ∨ H b = none) : Lat R H R2 H' :=
  ⟨a.kp, fun b z => Or.elim (h b z) (fun z => a.nw b z) .inr, a.tr⟩
theorem Lat.same {R : Pr} {H H' : Hp} (s : Same H H') : Lat R H R H' := ⟨fun b o h _ _ => s b o h, fun _ h => .inl h, fun b h => by
  cases e : H b with
  | none => exact absurd e h
  | some o => rw [s b o e]; exact fun z => nomatch z⟩
/-- the same heap, fewer places -/
theorem Lat.sub {R R' : Pr} {H : Hp} (h : ∀ b, R' b → R b) : Lat R H R' H := ⟨fun _ _ h _ _ => h, fun b z => .inl (h b z), fun _ h => h⟩

theorem nt_slO (a C dx : Addr) (vs : List (Option V)) : NT (SlX.SlO a C dx vs) := fun ps z => by unfold SlX.SlO at z; cases z
structure Zc where
  K : PySem.W.Frag
  C : Nat → Addr
  xf : Nat → List Str
  nc : Nat
  nx : Nat
  T : List (Addr × Str)

/-- a list (a tuple) that stands and is not written -/
def AtL (K : PySem.W.Frag) (H : Hp) (R : Pr) (a : Addr) (xs : List V) : Prop := (Rd H a (.lst xs) ∧ ¬ R a) ∨
    ∃ (o : Obj) (its : Array Value) (n : Nat), K.lookup a = some o ∧ o.cls = .type "list" ∧ o.dict = none ∧ o.data = .seq its n ∧ its.size ≤ sizeLine ∧ Vals xs its.toList
def AtT (K : PySem.W.Frag) (H : Hp) (R : Pr) (a : Addr) (xs : List V) : Prop := (Rd H a (.tup xs) ∧ ¬ R a) ∨
    ∃ (o : Obj) (its : Array Value) (n : Nat), K.lookup a = some o ∧ o.cls = .type "tuple" ∧ o.data = .seq its n ∧ its.size ≤ sizeLine ∧ Vals xs its.toList
theorem AtL.sq {K : PySem.W.Frag} {H : Hp} {R : Pr} {a : Addr} {xs : List V} (h : AtL K H R a xs) : SqL K H a xs := Or.elim h (fun z => .inl z.1) .inr
theorem AtT.sq {K : PySem.W.Frag} {H : Hp} {R : Pr} {a : Addr} {xs : List V} (h : AtT K H R a xs) : SqT K H a xs := Or.elim h (fun z => .inl z.1) .inr
theorem Rd.lat {R R' : Pr} {H H' : Hp} {a : Addr} {u : HO} (l : Lat R H R' H') (h : Rd H a u) (n : ¬ R a) (nt : NT u) : Rd H' a u ∧ ¬ R' a := by
  rcases h with h | ⟨o, h⟩
  · exact ⟨.inl (l.kp a _ h n nt), fun z => Or.elim (l.nw a z) n fun q => by rw [h] at q; cases q⟩
  · exact ⟨.inr ⟨o, l.kp a _ h n fun _ z => nomatch z⟩, fun z => Or.elim (l.nw a z) n fun q => by rw [h] at q; cases q⟩
theorem AtL.lat {K : PySem.W.Frag} {R R' : Pr} {H H' : Hp} {a : Addr} {xs : List V} (l : Lat R H R' H') (h : AtL K H R a xs) : AtL K H' R' a xs :=
  Or.elim h (fun z => .inl (Rd.lat l z.1 z.2 fun _ z => nomatch z)) .inr
theorem AtT.lat {K : PySem.W.Frag} {R R' : Pr} {H H' : Hp} {a : Addr} {xs : List V} (l : Lat R H R' H') (h : AtT K H R a xs) : AtT K H' R' a xs :=
  Or.elim h (fun z => .inl (Rd.lat l z.1 z.2 fun _ z => nomatch z)) .inr

/-- at a: an exception of the class cls, its own dict d -/
def ExO (a : Addr) (cls : Value) (d : Option Addr) : HO := .ext fun h => ∃ (oe : Obj) (vs : Array Value), h.get? a = some oe ∧ L2.Zc cls d oe ∧ oe.data = .fields vs
theorem nt_exO (a : Addr) (cls : Value) (d : Option Addr) : NT (ExO a cls d) := fun ps z => by unfold ExO at z; cases z
def dctH (kvs : List (Str × Int)) : HO := .dK (kvs.map fun p => ((Sum.inr p.1 : Key), V.int p.2))
theorem nt_dctH (kvs : List (Str × Int)) : NT (dctH kvs) := fun ps z => by unfold dctH at z; cases z
mutual
/-- data as they stand in the heap; dicts (texts to ints) too -/
inductive Dq (K : PySem.W.Frag) (H : Hp) : V → PyData → Prop
  | non : Dq K H .non .none
  | bl (b : Bool) : Dq K H (.bl b) (.bool b)
  | int (i : Int) : Dq K H (.int i) (.int i)
  | str (x : Str) : Dq K H (.str x) (.str x)
  | lst {a : Addr} {xs : List V} {ds : List PyData} : SqL K H a xs → DqAll K H xs ds → Dq K H (.ref a) (.list ds)
  | tup {a : Addr} {xs : List V} {ds : List PyData} : SqT K H a xs → DqAll K H xs ds → Dq K H (.ref a) (.tuple ds)
  | dct {a : Addr} {kvs : List (Str × Int)} : H a = some (dctH kvs) → Dq K H (.ref a) (.dict (kvs.map fun p => (.str p.1, .int p.2)))
inductive DqAll (K : PySem.W.Frag) (H : Hp) : List V → List PyData → Prop
  | nil : DqAll K H [] []
  | cons {v : V} {vs : List V} {d : PyData} {ds : List PyData} : Dq K H v d → DqAll K H vs ds → DqAll K H (v :: vs) (d :: ds)
end
mutual
theorem Dq.plain {K : PySem.W.Frag} {H : Hp} : ∀ {p : PyData} {v : V}, Dq K H v p → p.hasDict = false → Dp K H v p
  | .none, _, h, _ => by cases h; exact .non
  | .bool _, _, h, _ => by cases h; exact .bl _
  | .int _, _, h, _ => by cases h; exact .int _
  | .str _, _, h, _ => by cases h; exact .str _
  | .list ps, _, h, e => by
    cases h with
    | lst a b => simp only [PyData.hasDict] at e; exact .lst a (DqAll.plain b e)
  | .tuple ps, _, h, e => by
    cases h with
    | tup a b => simp only [PyData.hasDict] at e; exact .tup a (DqAll.plain b e)
  | .dict _, _, _, e => by simp only [PyData.hasDict] at e; cases e
theorem DqAll.plain {K : PySem.W.Frag} {H : Hp} : ∀ {ps : List PyData} {vs : List V}, DqAll K H vs ps → PyData.hasDictAll ps = false → DpAll K H vs ps
  | [], _, h, _ => by cases h; exact .nil
  | p :: ps, _, h, e => by
    cases h with
    | cons a b =>
      simp only [PyData.hasDictAll, Bool.or_eq_false_iff] at e
      exact .cons (Dq.plain a e.1) (DqAll.plain b e.2)
end
theorem Dq.shaped {K : PySem.W.Frag} {H : Hp} {p : PyData} {v : V} (h : Dq K H v p) (s : SeqAt.shaped p = true) : Dp K H v p := h.plain (PyData.hasDict_of_canLay p (SeqAt.canLay_of_shaped s))
mutual
inductive Rep (Z : Zc) (H : Hp) (R : Pr) : V → D → Prop
  | non : Rep Z H R .non .non
  | bl (b : Bool) : Rep Z H R (.bl b) (.bl b)
  | int (i : Int) : Rep Z H R (.int i) (.int i)
  | str (x : Str) : Rep Z H R (.str x) (.str x)
  | tup {a : Addr} {xs : List V} {ds : List D} : AtT Z.K H R a xs → RepL Z H R xs ds → Rep Z H R (.ref a) (.tup ds)
  | lst {a : Addr} {xs : List V} {ds : List D} : AtL Z.K H R a xs → RepL Z H R xs ds → Rep Z H R (.ref a) (.lst ds)
  | ins {a dx : Addr} {c : Nat} {xs : List V} {ds : List D} : c < Z.nc → H a = some (SlX.SlO a (Z.C c) dx (xs.map some)) → H dx = some (.xd []) → ¬ R a → ¬ R dx → RepL Z H R xs ds → Rep Z H R (.ref a) (.ins c ds)
  | cls (c : Nat) : Rep Z H R (.ref (Z.C c)) (.cls c)
  | exn {a dx : Addr} {c : Nat} {xs : List V} {ds : List D} : Z.nc ≤ c → c < Z.nx → H a = some (ExO a (.ref (Z.C c)) (some dx)) → H dx = some (.xd ((Z.xf c).zip xs)) → ¬ R a → ¬ R dx → RepL Z H R xs ds → Rep Z H R (.ref a) (.exn c ds)
  | exn0 {a : Addr} {c : Nat} : Z.nc ≤ c → c < Z.nx → H a = some (ExO a (.ref (Z.C c)) none) → ¬ R a → Rep Z H R (.ref a) (.exn c [])
  | dct {a : Addr} {kvs : List (Str × Int)} : H a = some (dctH kvs) → ¬ R a → Rep Z H R (.ref a) (.dct kvs)
inductive RepL (Z : Zc) (H : Hp) (R : Pr) : List V → List D → Prop
  | nil : RepL Z H R [] []
  | cons {v : V} {vs : List V} {d : D} {ds : List D} : Rep Z H R v d → RepL Z H R vs ds → RepL Z H R (v :: vs) (d :: ds)
end
section
variable {Z : Zc} {H H' : Hp} {R R' : Pr}
mutual
theorem Rep.lat (l : Lat R H R' H') : ∀ {d : D} {v : V}, Rep Z H R v d → Rep Z H' R' v d
  | .non, _, h => by cases h; exact .non
  | .bl _, _, h => by cases h; exact .bl _
  | .int _, _, h => by cases h; exact .int _
  | .str _, _, h => by cases h; exact .str _
  | .tup ds, _, h => by
    cases h with
    | tup a b => exact .tup (a.lat l) (RepL.lat l b)
  | .lst ds, _, h => by
    cases h with
    | lst a b => exact .lst (a.lat l) (RepL.lat l b)
  | .ins c ds, _, h => by
    cases h with
    | ins h0 h1 h2 n1 n2 b =>
      refine .ins h0 (l.kp _ _ h1 n1 (nt_slO _ _ _ _)) (l.kp _ _ h2 n2 fun _ z => nomatch z) (fun z => ?_) (fun z => ?_) (RepL.lat l b)
      · exact Or.elim (l.nw _ z) n1 fun q => by rw [h1] at q; cases q
      · exact Or.elim (l.nw _ z) n2 fun q => by rw [h2] at q; cases q
  | .cls _, _, h => by cases h; exact .cls _
  | .exn c ds, _, h => by
    cases h with
    | exn c1 c2 h1 h2 n1 n2 b =>
      refine .exn c1 c2 (l.kp _ _ h1 n1 (nt_exO _ _ _)) (l.kp _ _ h2 n2 fun _ z => nomatch z) (fun z => ?_) (fun z => ?_) (RepL.lat l b)
      · exact Or.elim (l.nw _ z) n1 fun q => by rw [h1] at q; cases q
      · exact Or.elim (l.nw _ z) n2 fun q => by rw [h2] at q; cases q
    | exn0 c1 c2 h1 n1 =>
      refine .exn0 c1 c2 (l.kp _ _ h1 n1 (nt_exO _ _ _)) (fun z => ?_)
      exact Or.elim (l.nw _ z) n1 fun q => by rw [h1] at q; cases q
  | .dct kvs, _, h => by
    cases h with
    | dct h1 n1 =>
      refine .dct (l.kp _ _ h1 n1 (nt_dctH _)) (fun z => ?_)
      exact Or.elim (l.nw _ z) n1 fun q => by rw [h1] at q; cases q
theorem RepL.lat (l : Lat R H R' H') : ∀ {ds : List D} {vs : List V}, RepL Z H R vs ds → RepL Z H' R' vs ds
  | [], _, h => by cases h; exact .nil
  | d :: ds, _, h => by
    cases h with
    | cons a b => exact .cons (Rep.lat l a) (RepL.lat l b)
end
theorem RepL.length : ∀ {ds : List D} {vs : List V}, RepL Z H R vs ds → vs.length = ds.length
  | [], _, h => by cases h; rfl
  | d :: ds, _, h => by
    cases h with
    | cons a b => rw [List.length_cons, List.length_cons, RepL.length b]
theorem RepL.get : ∀ {ds : List D} {vs : List V} {i : Nat} {d : D}, RepL Z H R vs ds → ds[i]? = some d → ∃ v, vs[i]? = some v ∧ Rep Z H R v d
  | [], _, _, _, h, e => by simp at e
  | d :: ds, _, 0, _, h, e => by
    cases h with
    | cons a b => simp at e; subst e; exact ⟨_, rfl, a⟩
  | d :: ds, _, i + 1, _, h, e => by
    cases h with
    | cons a b =>
      obtain ⟨v, h1, h2⟩ := RepL.get (i := i) b (by simpa using e)
      exact ⟨v, by simpa using h1, h2⟩
theorem RepL.append : ∀ {ds es : List D} {vs ws : List V}, RepL Z H R vs ds → RepL Z H R ws es → RepL Z H R (vs ++ ws) (ds ++ es)
  | [], _, _, _, h, g => by cases h; exact g
  | d :: ds, _, _, _, h, g => by
    cases h with
    | cons a b => exact .cons a (RepL.append b g)
theorem RepL.take : ∀ {ds : List D} {vs : List V} (n : Nat), RepL Z H R vs ds → RepL Z H R (vs.take n) (ds.take n)
  | _, _, 0, _ => .nil
  | [], _, _ + 1, h => by cases h; exact .nil
  | d :: ds, _, n + 1, h => by
    cases h with
    | cons a b => exact .cons a (RepL.take n b)
theorem RepL.drop : ∀ {ds : List D} {vs : List V} (n : Nat), RepL Z H R vs ds → RepL Z H R (vs.drop n) (ds.drop n)
  | _, _, 0, h => h
  | [], _, _ + 1, h => by cases h; exact .nil
  | d :: ds, _, n + 1, h => by
    cases h with
    | cons a b => exact RepL.drop n b
theorem RepL.set {v : V} {d : D} (r : Rep Z H R v d) : ∀ {ds : List D} {vs : List V} (n : Nat), RepL Z H R vs ds → RepL Z H R (vs.set n v) (ds.set n d)
  | [], _, _, h => by cases h; exact .nil
  | d :: ds, _, 0, h => by
    cases h with
    | cons a b => exact .cons r b
  | d :: ds, _, n + 1, h => by
    cases h with
    | cons a b => exact .cons a (RepL.set r n b)
theorem RepL.rep {ds : List D} {vs : List V} (h : RepL Z H R vs ds) : ∀ k : Nat, RepL Z H R (List.replicate k vs).flatten (List.replicate k ds).flatten
  | 0 => .nil
  | k + 1 => by
    rw [List.replicate_succ, List.replicate_succ, List.flatten_cons, List.flatten_cons]
    exact h.append (RepL.rep h k)
theorem RepL.ints : ∀ {ds : List D} {vs : List V} {l : List Int}, RepL Z H R vs ds → intsOf ds = some l → vs = l.map V.int
  | [], _, _, h, e => by cases h; cases e; rfl
  | .int i :: ds, _, l, h, e => by
    cases h with
    | cons a b =>
      cases a
      unfold intsOf at e
      cases q : intsOf ds with
      | none => rw [q] at e; cases e
      | some l' => rw [q] at e; cases e; rw [RepL.ints b q]; rfl
  | .non :: _, _, _, _, e => by cases e
  | .bl _ :: _, _, _, _, e => by cases e
  | .str _ :: _, _, _, _, e => by cases e
  | .tup _ :: _, _, _, _, e => by cases e
  | .lst _ :: _, _, _, _, e => by cases e
  | .ins _ _ :: _, _, _, _, e => by cases e
  | .cls _ :: _, _, _, _, e => by cases e
  | .exn _ _ :: _, _, _, _, e => by cases e
  | .dct _ :: _, _, _, _, e => by cases e
theorem RepL.bls : ∀ {ds : List D} {vs : List V} {l : List Bool}, RepL Z H R vs ds → blsOf ds = some l → vs = l.map V.bl
  | [], _, _, h, e => by cases h; cases e; rfl
  | .bl i :: ds, _, l, h, e => by
    cases h with
    | cons a b =>
      cases a
      unfold blsOf at e
      cases q : blsOf ds with
      | none => rw [q] at e; cases e
      | some l' => rw [q] at e; cases e; rw [RepL.bls b q]; rfl
  | .non :: _, _, _, _, e => by cases e
  | .int _ :: _, _, _, _, e => by cases e
  | .str _ :: _, _, _, _, e => by cases e
  | .tup _ :: _, _, _, _, e => by cases e
  | .lst _ :: _, _, _, _, e => by cases e
  | .ins _ _ :: _, _, _, _, e => by cases e
  | .cls _ :: _, _, _, _, e => by cases e
  | .exn _ _ :: _, _, _, _, e => by cases e
  | .dct _ :: _, _, _, _, e => by cases e

mutual
theorem Rep.dp : ∀ {d : D} {v : V} {p : PyData}, Rep Z H R v d → d.py = some p → Dq Z.K H v p
  | .non, _, _, h, e => by cases h; cases e; exact .non
  | .bl _, _, _, h, e => by cases h; cases e; exact .bl _
  | .int _, _, _, h, e => by cases h; cases e; exact .int _
  | .str _, _, _, h, e => by cases h; cases e; exact .str _
  | .tup ds, _, _, h, e => by
    cases h with
    | tup a b =>
      unfold D.py at e
      cases q : D.pys ds with
      | none => rw [q] at e; cases e
      | some l => rw [q] at e; cases e; exact .tup a.sq (RepL.dp b q)
  | .lst ds, _, _, h, e => by
    cases h with
    | lst a b =>
      unfold D.py at e
      cases q : D.pys ds with
      | none => rw [q] at e; cases e
      | some l => rw [q] at e; cases e; exact .lst a.sq (RepL.dp b q)
  | .ins _ _, _, _, _, e => by unfold D.py at e; cases e
  | .cls _, _, _, _, e => by unfold D.py at e; cases e
  | .exn _ _, _, _, _, e => by unfold D.py at e; cases e
  | .dct kvs, _, _, h, e => by
    cases h with
    | dct h1 n1 => unfold D.py at e; cases e; exact .dct h1
theorem RepL.dp : ∀ {ds : List D} {vs : List V} {ps : List PyData}, RepL Z H R vs ds → D.pys ds = some ps → DqAll Z.K H vs ps
  | [], _, _, h, e => by cases h; unfold D.pys at e; cases e; exact .nil
  | d :: ds, _, _, h, e => by
    cases h with
    | cons a b =>
      unfold D.pys at e
      cases q : D.py d with
      | none => rw [q] at e; cases e
      | some p =>
        cases q2 : D.pys ds with
        | none => rw [q, q2] at e; cases e
        | some l => rw [q, q2] at e; cases e; exact .cons (Rep.dp a q) (RepL.dp b q2)
end
end

/-! ### frames -/
/-- the places of the lists that a frame owns -/
def Ow (s : Sg) (q : Fm) : Pr := fun a => ∃ (i : Nat) (b : Bool) (d : D), q[i]? = some (.ow b d) ∧ s[i]? = some (some (.ref a))
def Rt (R0 : Pr) (s : Sg) (q : Fm) : Pr := fun a => R0 a ∨ Ow s q a
/-- an owned list at a -/
def OwnAt (Z : Zc) (H : Hp) (R : Pr) (a : Addr) (d : D) : Prop := ∃ ds xs, d = .lst ds ∧ H a = some (.lst xs) ∧ RepL Z H R xs ds
/-- what the ground leans on: tables, code objects, what is known to the object -/
inductive GO : HO → Prop
  | tbl (ps : Array Value) : GO (.tbl ps)
  | code (c : Addr) (q : Str) : GO (LamX.CodeO c q)
  | frz (o : Obj) (u : HO) : GO (.frz o u)
theorem GO.lst {o : HO} (g : GO o) {xs : List V} (e : o = .lst xs) : False := by
  cases g with
  | tbl ps => cases e
  | code c q => unfold LamX.CodeO at e; cases e
  | frz a b => cases e
theorem GO.ins {o : HO} (g : GO o) {C dx : Addr} {fs : List (Str × V)} (e : o = .ins C dx fs) : False := by
  cases g with
  | tbl ps => cases e
  | code c q => unfold LamX.CodeO at e; cases e
  | frz a b => cases e
theorem GO.own {o : HO} (g : GO o) {x : Addr} (e : o = .own x) : False := by
  cases g with
  | tbl ps => cases e
  | code c q => unfold LamX.CodeO at e; cases e
  | frz a b => cases e
theorem GO.dK {o : HO} (g : GO o) {kvs : List (Key × V)} (e : o = .dK kvs) : False := by
  cases g with
  | tbl ps => cases e
  | code c q => unfold LamX.CodeO at e; cases e
  | frz a b => cases e
theorem GO.xd {o : HO} (g : GO o) {kvs : List (Str × V)} (e : o = .xd kvs) : False := by
  cases g with
  | tbl ps => cases e
  | code c q => unfold LamX.CodeO at e; cases e
  | frz a b => cases e
/-- the ground: the tables; sys.modules is known (so nothing new lies there) -/
structure Grd (Z : Zc) (H : Hp) : Prop where
  t : LamX.Tabs Z.T H
  sy : ∃ o, H sysModules = some (.frz o (.own 0))
  ks : Z.K.lookup sysModules = none
theorem Grd.up {Z : Zc} {H H' : Hp} (g : Grd Z H) (e : ∀ b o, H b = some o → GO o → H' b = some o) : Grd Z H' := by
  refine ⟨fun p hp => ?_, let ⟨o, h⟩ := g.sy; ⟨o, e _ _ h (.frz _ _)⟩, g.ks⟩
  obtain ⟨ps, h1, h2, h3⟩ := g.t p hp
  refine ⟨ps, e _ _ h1 (.tbl _), h2, fun pos cv hc => ?_⟩
  obtain ⟨c, e1, e2⟩ := h3 pos cv hc
  exact ⟨c, e1, e _ _ e2 (.code _ _)⟩
theorem Grd.ext {Z : Zc} {H H' : Hp} (g : Grd Z H) (e : ∀ b o, H b = some o → H' b = some o) : Grd Z H' := g.up fun b o h _ => e b o h
theorem Grd.upd {Z : Zc} {H : Hp} {a : Addr} {xs : List V} {o : HO} (g : Grd Z H) (h : H a = some (.lst xs)) : Grd Z (upd H a o) := g.up fun b u e n => by rw [upd_ne fun z => by rw [z, h] at e; cases e; exact n.lst rfl]; exact e
structure FR (Z : Zc) (R0 : Pr) (s : Sg) (q : Fm) (H : Hp) : Prop where
  len : s.length = q.length
  tb : Grd Z H
  trk : ∀ b, R0 b → H b ≠ none
  sh : ∀ (i : Nat) (b : Bool) (d : D), q[i]? = some (.sh b d) → ∃ v, s[i]? = some (some v) ∧ Rep Z H (Rt R0 s q) v d
  ow : ∀ (i : Nat) (b : Bool) (d : D), q[i]? = some (.ow b d) → ∃ a, s[i]? = some (some (.ref a)) ∧ ¬ R0 a ∧ OwnAt Z H (Rt R0 s q) a d
  sep : ∀ (i j : Nat) (b b' : Bool) (d d' : D) (a : Addr), q[i]? = some (.ow b d) → q[j]? = some (.ow b' d') → s[i]? = some (some (.ref a)) → s[j]? = some (some (.ref a)) → i = j
theorem FR.owT {Z : Zc} {R0 : Pr} {s : Sg} {q : Fm} {H : Hp} (f : FR Z R0 s q H) {a : Addr} (h : Ow s q a) : ∃ xs, H a = some (.lst xs) := by
  obtain ⟨i, b, d, h1, h2⟩ := h
  obtain ⟨a', e, _, ds, xs, _, h3, _⟩ := f.ow i b d h1
  rw [h2] at e; cases e
  exact ⟨xs, h3⟩
theorem FR.rtT {Z : Zc} {R0 : Pr} {s : Sg} {q : Fm} {H : Hp} (f : FR Z R0 s q H) {a : Addr} (h : Rt R0 s q a) : H a ≠ none := by
  rcases h with h | h
  · exact f.trk a h
  · obtain ⟨xs, e⟩ := f.owT h
    rw [e]; exact fun z => nomatch z
theorem OwnAt.lat {Z : Zc} {H H' : Hp} {R R' : Pr} {a : Addr} {d : D} (l : Lat R H R' H') (e : H' a = H a) (h : OwnAt Z H R a d) : OwnAt Z H' R' a d := by
  obtain ⟨ds, xs, h1, h2, h3⟩ := h
  exact ⟨ds, xs, h1, e.trans h2, h3.lat l⟩
/-- fewer places outside -/
theorem FR.fewer {Z : Zc} {R0 R1 : Pr} {s : Sg} {q : Fm} {H : Hp} (f : FR Z R0 s q H) (h : ∀ b, R1 b → R0 b) : FR Z R1 s q H where
  len := f.len
  tb := f.tb
  trk := fun b z => f.trk b (h b z)
  sh := fun i b d e => by
    obtain ⟨v, h1, h2⟩ := f.sh i b d e
    exact ⟨v, h1, h2.lat (Lat.sub fun c z => Or.elim z (fun z => .inl (h c z)) .inr)⟩
  ow := fun i b d e => by
    obtain ⟨a, h1, h2, h3⟩ := f.ow i b d e
    exact ⟨a, h1, fun z => h2 (h a z), h3.lat (Lat.sub fun c z => Or.elim z (fun z => .inl (h c z)) .inr) rfl⟩
  sep := f.sep
/-- the heap goes on, what is owned as it was -/
theorem FR.on {Z : Zc} {R0 R1 : Pr} {s : Sg} {q : Fm} {H H' : Hp} (f : FR Z R0 s q H) (l : Same H H') (h : ∀ b, R1 b → R0 b ∨ H b = none) (ht : ∀ b, R1 b → H' b ≠ none) : FR Z R1 s q H' where
  len := f.len
  tb := f.tb.ext l
  trk := ht
  sh := fun i b d e => by
    obtain ⟨v, h1, h2⟩ := f.sh i b d e
    exact ⟨v, h1, h2.lat ((Lat.same l).less fun c z => Or.elim z (fun z => Or.elim (h c z) (fun z => .inl (.inl z)) .inr) fun z => .inl (.inr z))⟩
  ow := fun i b d e => by
    obtain ⟨a, h1, h2, ds, xs, h3, h4, h5⟩ := f.ow i b d e
    refine ⟨a, h1, fun z => Or.elim (h a z) h2 (fun q => by rw [h4] at q; cases q), ds, xs, h3, l _ _ h4, h5.lat ((Lat.same l).less fun c z => Or.elim z (fun z => Or.elim (h c z) (fun z => .inl (.inl z)) .inr) fun z => .inl (.inr z))⟩
  sep := f.sep
/-- the heap goes on, tables aside -/
theorem Lat.sameN {R : Pr} {H H' : Hp} (s : ∀ b o, H b = some o → NT o → H' b = some o) (tr : ∀ b, H b ≠ none → H' b ≠ none) : Lat R H R H' := ⟨fun b o h _ n => s b o h n, fun _ h => .inl h, tr⟩
theorem FR.onN {Z : Zc} {R0 R1 : Pr} {s : Sg} {q : Fm} {H H' : Hp} (f : FR Z R0 s q H) (l : ∀ b o, H b = some o → NT o → H' b = some o) (tr : ∀ b, H b ≠ none → H' b ≠ none) (g : Grd Z H') (h : ∀ b, R1 b → R0 b ∨ H b = none) (ht : ∀ b, R1 b → H' b ≠ none) : FR Z R1 s q H' where
  len := f.len
  tb := g
  trk := ht
  sh := fun i b d e => by
    obtain ⟨v, h1, h2⟩ := f.sh i b d e
    exact ⟨v, h1, h2.lat ((Lat.sameN l tr).less fun c z => Or.elim z (fun z => Or.elim (h c z) (fun z => .inl (.inl z)) .inr) fun z => .inl (.inr z))⟩
  ow := fun i b d e => by
    obtain ⟨a, h1, h2, ds, xs, h3, h4, h5⟩ := f.ow i b d e
    refine ⟨a, h1, fun z => Or.elim (h a z) h2 (fun q => by rw [h4] at q; cases q), ds, xs, h3, l _ _ h4 (fun _ z => nomatch z), h5.lat ((Lat.sameN l tr).less fun c z => Or.elim z (fun z => Or.elim (h c z) (fun z => .inl (.inl z)) .inr) fun z => .inl (.inr z))⟩
  sep := f.sep
/-- all but x and dx (and tables) stands -/
structure KpN (H H' : Hp) (x dx : Addr) : Prop where
  kp : ∀ b o, H b = some o → b ≠ x → b ≠ dx → NT o → H' b = some o
  tr : ∀ b, H b ≠ none → H' b ≠ none
end M

set_option Elab.async false
set_option linter.all false
set_option maxRecDepth 100000
/-! A2: readings. -/
namespace M
open PySem L2

def XRep (Z : Zc) (H : Hp) (R : Pr) (c : Nat) (ds : List D) (d : Option Addr) : Prop := Z.nc ≤ c ∧ c < Z.nx ∧ match d with
  | some d => ∃ vs, H d = some (.xd ((Z.xf c).zip vs)) ∧ RepL Z H R vs ds ∧ ¬ R d
  | none => ds = []
theorem XRep.lat {Z : Zc} {H H' : Hp} {R R' : Pr} {c : Nat} {ds : List D} (l : Lat R H R' H') {d : Option Addr} (h : XRep Z H R c ds d) : XRep Z H' R' c ds d := by
  obtain ⟨c1, c2, h⟩ := h
  refine ⟨c1, c2, ?_⟩
  cases d with
  | none => exact h
  | some d =>
    obtain ⟨vs, h1, h2, h3⟩ := h
    exact ⟨vs, l.kp _ _ h1 h3 (fun _ z => nomatch z), h2.lat l, fun z => Or.elim (l.nw _ z) h3 fun q => by rw [h1] at q; cases q⟩
def bor (q : Fm) (i : Nat) : Prop := ∃ s, q[i]? = some s ∧ s.isBor = true
def BK (q q' : Fm) : Prop := ∀ i, bor q' i → bor q i
theorem BK.refl (q : Fm) : BK q q := fun _ h => h
theorem BK.trans {q q1 q2 : Fm} (a : BK q q1) (b : BK q1 q2) : BK q q2 := fun i h => a i (b i h)

/-- what is wanted of an answer -/
def An {α W : Type} (Z : Zc) (E : XK) (R0 : Pr) (s : Sg) (q : Fm) (H : Hp) (Po : Fm → Hp → W → α → Prop) (Q : W → Hp → Prop) : Res α → Prop
  | .ok a q' => ∀ w H', Lat (Ow s q) H (Ow s q') H' → BK q q' → Po q' H' w a → Q w H'
  | .exc c ds q' => ∀ d H', Lat (Ow s q) H (Ow s q') H' → BK q q' → FR Z R0 s q' H' → XRep Z H' (Rt R0 s q') c ds d → E (.ref (Z.C c)) d H'
  | .bad => False
/-- the reading of a computation over frames -/
def TR {α W : Type} (Z : Zc) (E : XK) (f : Fm → Res α) (Po : Pr → Sg → Hp → Fm → Hp → W → α → Prop) : Sg → Hp → (W → Hp → Prop) → Prop := fun s H Q =>
  ∃ (R0 : Pr) (q : Fm), FR Z R0 s q H ∧ An Z E R0 s q H (Po R0 s H) Q (f q)
/-- more places outside -/
def P1 (R0 : Pr) (a : Addr) : Pr := fun b => R0 b ∨ b = a
def PoV (Z : Zc) (R0 : Pr) (s : Sg) (H : Hp) (q' : Fm) (H' : Hp) (w : V) : RV → Prop
  | .val d => FR Z R0 s q' H' ∧ Rep Z H' (Rt R0 s q') w d
  | .new d => ∃ a, w = .ref a ∧ H a = none ∧ FR Z (P1 R0 a) s q' H' ∧ OwnAt Z H' (Rt (P1 R0 a) s q') a d
  | .slot i => FR Z R0 s q' H' ∧ s[i]? = some (some w) ∧ ∃ b d, q'[i]? = some (.ow b d)
def RepR (Z : Zc) (H : Hp) (R0 : Pr) (s : Sg) (q : Fm) (w : V) : RV → Prop
  | .val d => Rep Z H (Rt R0 s q) w d
  | .new _ => False
  | .slot i => s[i]? = some (some w)
def RepRs (Z : Zc) (H : Hp) (R0 : Pr) (s : Sg) (q : Fm) : List V → List RV → Prop
  | [], [] => True
  | w :: ws, r :: rs => RepR Z H R0 s q w r ∧ RepRs Z H R0 s q ws rs
  | _, _ => False
def PoVs (Z : Zc) (R0 : Pr) (s : Sg) (H : Hp) (q' : Fm) (H' : Hp) (ws : List V) (rs : List RV) : Prop := FR Z R0 s q' H' ∧ RepRs Z H' R0 s q' ws rs
def PoL (Z : Zc) (R0 : Pr) (s : Sg) (H : Hp) (q' : Fm) (H' : Hp) (ws : List V) (ds : List D) : Prop := FR Z R0 s q' H' ∧ RepL Z H' (Rt R0 s q') ws ds
def PoB (Z : Zc) (R0 : Pr) (s : Sg) (H : Hp) (q' : Fm) (H' : Hp) (w : Bool) (b : Bool) : Prop := FR Z R0 s q' H' ∧ w = b

theorem lat_rt {R0 : Pr} {s : Sg} {q q' : Fm} {H H' : Hp} (l : Lat (Ow s q) H (Ow s q') H') : Lat (Rt R0 s q) H (Rt R0 s q') H' := l.more
theorem RepR.lat {Z : Zc} {H H' : Hp} {R0 : Pr} {s : Sg} {q q' : Fm} {w : V} {r : RV} (l : Lat (Ow s q) H (Ow s q') H') (h : RepR Z H R0 s q w r) : RepR Z H' R0 s q' w r := by
  cases r with
  | val d => exact Rep.lat (lat_rt l) h
  | new d => exact h
  | slot i => exact h
theorem RepRs.lat {Z : Zc} {H H' : Hp} {R0 : Pr} {s : Sg} {q q' : Fm} (l : Lat (Ow s q) H (Ow s q') H') : ∀ {ws : List V} {rs : List RV}, RepRs Z H R0 s q ws rs → RepRs Z H' R0 s q' ws rs
  | [], [], _ => True.intro
  | w :: ws, r :: rs, h => ⟨RepR.lat l h.1, RepRs.lat l h.2⟩
  | [], _ :: _, h => h.elim
  | _ :: _, [], h => h.elim
/-- a new list taken as a shared one -/
theorem new_down {Z : Zc} {R0 : Pr} {s : Sg} {q' : Fm} {H H' : Hp} {a : Addr} {d : D} (ht : ∀ b, R0 b → H b ≠ none) (hn : H a = none) (f : FR Z (P1 R0 a) s q' H') (o : OwnAt Z H' (Rt (P1 R0 a) s q') a d) :
    FR Z R0 s q' H' ∧ Rep Z H' (Rt R0 s q') (.ref a) d := by
  refine ⟨f.fewer fun b z => .inl z, ?_⟩
  obtain ⟨ds, xs, e, h1, h2⟩ := o
  subst e
  refine .lst (.inl ⟨.inl h1, fun z => ?_⟩) (h2.lat (Lat.sub fun c z => Or.elim z (fun z => .inl (.inl z)) .inr))
  rcases z with z | ⟨i, b, d, z1, z2⟩
  · exact ht a z hn
  · obtain ⟨a', e1, n, _⟩ := f.ow i b d z1
    rw [z2] at e1; cases e1
    exact n (.inr rfl)
theorem PoV.down {Z : Zc} {R0 : Pr} {s : Sg} {q q' : Fm} {H H' : Hp} {w : V} {r : RV} (f0 : FR Z R0 s q H) (h : PoV Z R0 s H q' H' w r) : FR Z R0 s q' H' ∧ RepR Z H' R0 s q' w r.down := by
  cases r with
  | val d => exact h
  | new d =>
    obtain ⟨a, rfl, hn, f, o⟩ := h
    exact new_down f0.trk hn f o
  | slot i => exact ⟨h.1, h.2.1⟩
theorem PoV.vd {Z : Zc} {R0 : Pr} {s : Sg} {q q' : Fm} {H H' : Hp} {w : V} {r : RV} {d : D} (f0 : FR Z R0 s q H) (h : PoV Z R0 s H q' H' w r) (e : r.vd = some d) : FR Z R0 s q' H' ∧ Rep Z H' (Rt R0 s q') w d := by
  cases r with
  | val d => cases e; exact h
  | new d =>
    cases e
    obtain ⟨a, rfl, hn, f, o⟩ := h
    exact new_down f0.trk hn f o
  | slot i => cases e
section
variable {α β W W2 : Type} {Z : Zc} {E : XK} {s : Sg} {H : Hp} {R0 : Pr} {q q1 : Fm}
theorem An.mono {Po Po' : Fm → Hp → W → α → Prop} {Q Q' : W → Hp → Prop} : ∀ {r : Res α}, An Z E R0 s q H Po Q r → (∀ q' w H' a, r = .ok a q' → Lat (Ow s q) H (Ow s q') H' → BK q q' → Po' q' H' w a → (Po q' H' w a → Q w H') → Q' w H') → An Z E R0 s q H Po' Q' r
  | .ok a q', h, m => fun w H' l b p => m q' w H' a rfl l b p fun p => h w H' l b p
  | .exc c ds q', h, _ => h
  | .bad, h, _ => h
theorem TR.mono {f : Fm → Res α} {Po : Pr → Sg → Hp → Fm → Hp → W → α → Prop} {Q Q' : W → Hp → Prop} (h : TR Z E f Po s H Q) (m : ∀ w H, Q w H → Q' w H) : TR Z E f Po s H Q' := by
  obtain ⟨R0, q, f0, h⟩ := h
  exact ⟨R0, q, f0, h.mono fun _ _ _ _ _ _ _ p k => m _ _ (k p)⟩
/-- from a later start -/
theorem An.late {Po Po' : Fm → Hp → W → α → Prop} {Q : W → Hp → Prop} {H1 : Hp} (l : Lat (Ow s q) H (Ow s q1) H1) (b : BK q q1) (hp : ∀ q2 H2 w a, Lat (Ow s q1) H1 (Ow s q2) H2 → Po' q2 H2 w a → Po q2 H2 w a) :
    ∀ {r : Res α}, An Z E R0 s q H Po Q r → An Z E R0 s q1 H1 Po' Q r
  | .ok a q', h => fun w H' l2 b2 p => h w H' (l.trans l2) (b.trans b2) (hp q' H' w a l2 p)
  | .exc c ds q', h => fun d H' l2 b2 f x => h d H' (l.trans l2) (b.trans b2) f x
  | .bad, h => h
theorem An.bind {g : α → Fm → Res β} {Po : Fm → Hp → W → α → Prop} {Po2 : Fm → Hp → W2 → β → Prop} {Q : W2 → Hp → Prop} {Q1 : W → Hp → Prop} : ∀ {r : Res α}, An Z E R0 s q H Po2 Q (bindR r g) →
    (∀ q1 w H1 a, r = .ok a q1 → Lat (Ow s q) H (Ow s q1) H1 → BK q q1 → Po q1 H1 w a → An Z E R0 s q H Po2 Q (g a q1) → Q1 w H1) → An Z E R0 s q H Po Q1 r
  | .ok a q1, h, k => fun w H1 l b p => k q1 w H1 a rfl l b p h
  | .exc c ds q', h, _ => h
  | .bad, h, _ => h
/-- two in a row -/
theorem TR.bind {f : Fm → Res α} {g : α → Fm → Res β} {Po : Pr → Sg → Hp → Fm → Hp → W → α → Prop} {Po2 : Pr → Sg → Hp → Fm → Hp → W2 → β → Prop} {Q : W2 → Hp → Prop} {Q1 : W → Hp → Prop}
    (h : TR Z E (fun q => bindR (f q) g) Po2 s H Q)
    (k : ∀ (R0 : Pr) (q q1 : Fm) (a : α) (w : W) (H1 : Hp), FR Z R0 s q H → Lat (Ow s q) H (Ow s q1) H1 → BK q q1 → Po R0 s H q1 H1 w a → An Z E R0 s q H (Po2 R0 s H) Q (g a q1) → Q1 w H1) : TR Z E f Po s H Q1 := by
  obtain ⟨R0, q, f0, h⟩ := h
  exact ⟨R0, q, f0, h.bind fun q1 w H1 a _ l b p z => k R0 q q1 a w H1 f0 l b p z⟩
end
/-- a value's post holds of an earlier start too -/
theorem PoV.early {Z : Zc} {R0 : Pr} {s : Sg} {q q1 q' : Fm} {H H1 H' : Hp} {w : V} {r : RV} (l : Lat (Ow s q) H (Ow s q1) H1) (h : PoV Z R0 s H1 q' H' w r) : PoV Z R0 s H q' H' w r := by
  cases r with
  | val d => exact h
  | new d =>
    obtain ⟨a, e, hn, f, o⟩ := h
    exact ⟨a, e, l.new hn, f, o⟩
  | slot i => exact h
/-- the readings of the tree's parts -/
def tE (Z : Zc) (K : Calls) (ex : XK) (e : E) (pk : Bool) : TE := TR Z ex (ev K e pk) (PoV Z)
def tEs (Z : Zc) (K : Calls) (ex : XK) (e : Es) : TA := TR Z ex (evs K e) (PoVs Z)
def tT (Z : Zc) (K : Calls) (ex : XK) (t : T) : TT := TR Z ex (evT K t) (PoB Z)
def tA (Z : Zc) (K : Calls) (ex : XK) (e : As) : TA := TR Z ex (evA K e) (PoL Z)
section
variable {Z : Zc} {K : Calls} {ex : XK} {s : Sg} {H : Hp}
theorem tEs_nil {Q : List V → Hp → Prop} (h : tEs Z K ex .nil s H Q) : Q [] H := by
  obtain ⟨R0, q, f0, h⟩ := h
  unfold evs at h
  exact h [] H (Lat.refl _ _) (BK.refl _) ⟨f0, True.intro⟩
theorem tEs_cons {e : E} {r : Es} {Q : List V → Hp → Prop} (h : tEs Z K ex (.cons e r) s H Q) : tE Z K ex e true s H fun x H1 => tEs Z K ex r s H1 fun xs H2 => Q (x :: xs) H2 := by
  unfold tEs at h
  simp only [show evs K (.cons e r) = fun q => bindR (ev K e true q) fun x q1 => bindR (evs K r q1) fun xs q2 => .ok (x.down :: xs) q2 from rfl] at h
  refine TR.bind h fun R0 q q1 a w H1 f0 l b p z => ?_
  obtain ⟨f1, p1⟩ := p.down f0
  refine ⟨R0, q1, f1, (An.late (Po' := PoVs Z R0 s H1) l b (fun _ _ _ _ _ p => p) z).bind fun q2 ws H2 rs _ l2 b2 p2 z2 => ?_⟩
  exact z2 (w :: ws) H2 l2 b2 ⟨p2.1, RepR.lat l2 p1, p2.2⟩
theorem tA_nil {Q : List V → Hp → Prop} (h : tA Z K ex .nil s H Q) : Q [] H := by
  obtain ⟨R0, q, f0, h⟩ := h
  unfold evA at h
  exact h [] H (Lat.refl _ _) (BK.refl _) ⟨f0, .nil⟩
theorem tA_one {e : E} {r : As} {Q : List V → Hp → Prop} (h : tA Z K ex (.one e r) s H Q) : tE Z K ex e false s H fun x H1 => tA Z K ex r s H1 fun xs H2 => Q (x :: xs) H2 := by
  unfold tA at h
  rw [show evA K (.one e r) = fun q => bindR (ev K e false q) fun x q1 => match x.vd with
    | some d => bindR (evA K r q1) fun ds q2 => .ok (d :: ds) q2
    | none => .bad from rfl] at h
  refine TR.bind h fun R0 q q1 a w H1 f0 l b p z => ?_
  cases e1 : a.vd with
  | none => rw [e1] at z; exact z.elim
  | some d =>
    rw [e1] at z
    obtain ⟨f1, p1⟩ := p.vd f0 e1
    refine ⟨R0, q1, f1, (An.late (Po' := PoL Z R0 s H1) l b (fun _ _ _ _ _ p => p) z).bind fun q2 ws H2 rs _ l2 b2 p2 z2 => ?_⟩
    exact z2 (w :: ws) H2 l2 b2 ⟨p2.1, .cons (p1.lat (lat_rt l2)) p2.2⟩
/-- an operand's data as they stand -/
theorem RepR.at_ {R0 : Pr} {q : Fm} {w : V} {r : RV} {d : D} (f : FR Z R0 s q H) (h : RepR Z H R0 s q w r) (e : r.at_ q = some d) : (∃ ds a xs, d = .lst ds ∧ w = .ref a ∧ SqL Z.K H a xs ∧ RepL Z H (Rt R0 s q) xs ds ∧ (∃ i b, r = .slot i ∧ q[i]? = some (.ow b d) ∧ H a = some (.lst xs))) ∨ Rep Z H (Rt R0 s q) w d := by
  cases r with
  | val d' => cases e; exact .inr h
  | new d' => exact h.elim
  | slot i =>
    unfold RV.at_ at e
    cases hq : q[i]? with
    | none => simp only [hq] at e; cases e
    | some t =>
      cases t with
      | no => simp only [hq] at e; cases e
      | pin => simp only [hq] at e; cases e
      | sh b x =>
        simp only [hq] at e; cases e
        obtain ⟨v, h1, h2⟩ := f.sh i b _ hq
        rw [show s[i]? = some (some w) from h] at h1; cases h1
        exact .inr h2
      | ow b x =>
        simp only [hq] at e; cases e
        obtain ⟨a, h1, _, ds, xs, e2, h2, h3⟩ := f.ow i b _ hq
        rw [show s[i]? = some (some w) from h] at h1; cases h1
        exact .inl ⟨ds, a, xs, e2, rfl, SqL.of h2, h3, i, b, rfl, hq, h2⟩
theorem tA_star {e : E} {r : As} {Q : List V → Hp → Prop} (h : tA Z K ex (.star e r) s H Q) :
    tE Z K ex e true s H fun x H1 => ∃ p xs, x = V.ref p ∧ (SqT Z.K H1 p xs ∨ SqL Z.K H1 p xs) ∧ tA Z K ex r s H1 fun ys H2 => Q (xs ++ ys) H2 := by
  unfold tA at h
  rw [show evA K (.star e r) = fun q => bindR (ev K e true q) fun x q1 => match starR x q1 with
    | some l => bindR (evA K r q1) fun ds q2 => .ok (l ++ ds) q2
    | none => .bad from rfl] at h
  refine TR.bind h fun R0 q q1 a w H1 f0 l b p z => ?_
  obtain ⟨f1, p1⟩ := p.down f0
  have key : ∀ l0, starR a q1 = some l0 → ∃ p xs, w = V.ref p ∧ (SqT Z.K H1 p xs ∨ SqL Z.K H1 p xs) ∧ RepL Z H1 (Rt R0 s q1) xs l0 := by
    intro l0 e0
    unfold starR at e0
    cases e1 : a.at_ q1 with
    | none => rw [e1] at e0; cases e0
    | some d =>
      rw [e1] at e0
      have e1' : a.down.at_ q1 = some d := by rw [← e1]; cases a <;> rfl
      rcases RepR.at_ f1 p1 e1' with ⟨ds, a', xs, rfl, rfl, h1, h2, _⟩ | h1
      · cases e0; exact ⟨a', xs, rfl, .inr h1, h2⟩
      · cases h1 with
        | tup h1 h2 => cases e0; exact ⟨_, _, rfl, .inl h1.sq, h2⟩
        | lst h1 h2 => cases e0; exact ⟨_, _, rfl, .inr h1.sq, h2⟩
        | _ => cases e0
  cases e1 : starR a q1 with
  | none => rw [e1] at z; exact z.elim
  | some l0 =>
    rw [e1] at z
    obtain ⟨p0, xs, rfl, h1, h2⟩ := key l0 e1
    refine ⟨p0, xs, rfl, h1, R0, q1, f1, (An.late (Po' := PoL Z R0 s H1) l b (fun _ _ _ _ _ p => p) z).bind fun q2 ws H2 rs _ l2 b2 p2 z2 => ?_⟩
    exact z2 (xs ++ ws) H2 l2 b2 ⟨p2.1, (h2.lat (lat_rt l2)).append p2.2⟩
end
end M

set_option Elab.async false
set_option linter.all false
set_option maxRecDepth 100000
/-! A3: the primitives. -/
namespace M
open PySem L2 PyProof.Rows

/-- an operand as it is read -/
def RepP (Z : Zc) (H : Hp) (R : Pr) (v : V) (d : D) : Prop := Rep Z H R v d ∨ ∃ ds a xs, d = .lst ds ∧ v = .ref a ∧ H a = some (.lst xs) ∧ RepL Z H R xs ds
def RepPs (Z : Zc) (H : Hp) (R : Pr) : List V → List D → Prop
  | [], [] => True
  | w :: ws, d :: ds => RepP Z H R w d ∧ RepPs Z H R ws ds
  | _, _ => False
def RepN (Z : Zc) (H H' : Hp) (R : Pr) (w : V) : Bool → D → Prop
  | false, d => Rep Z H' R w d
  | true, d => ∃ a xs ds Hm, w = .ref a ∧ d = .lst ds ∧ Same H Hm ∧ Same Hm H' ∧ Hm a = none ∧ H' a = some (.lst xs) ∧ RepL Z Hm R xs ds
def PrimPost (Z : Zc) (p : P) (vs : List V) (H : Hp) (Q : VK) : Prop := ∃ (R : Pr) (ds : List D), (Grd Z H ∧ ∀ b, R b → H b ≠ none) ∧ RepPs Z H R vs ds ∧
  ∃ nw d, evP p ds = some (nw, d) ∧ ∀ w H', Same H H' → RepN Z H H' R w nw d → Q w H'
section
variable {Z : Zc} {K : Calls} {ex : XK} {s : Sg} {H : Hp} {R : Pr}
theorem RepR.atP {R0 : Pr} {q : Fm} {w : V} {r : RV} {d : D} (f : FR Z R0 s q H) (h : RepR Z H R0 s q w r) (e : r.at_ q = some d) : RepP Z H (Rt R0 s q) w d := by
  rcases RepR.at_ f h e with ⟨ds, a, xs, e1, e2, _, h2, _, _, _, _, h3⟩ | h
  · exact .inr ⟨ds, a, xs, e1, e2, h3, h2⟩
  · exact .inl h
theorem RepRs.atPs {R0 : Pr} {q : Fm} (f : FR Z R0 s q H) : ∀ {ws : List V} {rs : List RV} {ds : List D}, RepRs Z H R0 s q ws rs → atAll q rs = some ds → RepPs Z H (Rt R0 s q) ws ds
  | [], [], _, _, e => by cases e; exact True.intro
  | w :: ws, r :: rs, ds, h, e => by
    unfold atAll at e
    cases e1 : r.at_ q with
    | none => rw [e1] at e; cases e
    | some d =>
      cases e2 : atAll q rs with
      | none => rw [e1, e2] at e; cases e
      | some ds' =>
        rw [e1, e2] at e; cases e
        exact ⟨RepR.atP f h.1 e1, RepRs.atPs f h.2 e2⟩
  | [], _ :: _, _, h, _ => h.elim
  | _ :: _, [], _, h, _ => h.elim
theorem prim_an {p : P} {Q : VK} {R0 : Pr} {q q1 : Fm} {H1 : Hp} {ws : List V} {a : List RV} (l : Lat (Ow s q) H (Ow s q1) H1) (b : BK q q1) (f1 : FR Z R0 s q1 H1) (p1 : RepRs Z H1 R0 s q1 ws a) (z : An Z ex R0 s q H (PoV Z R0 s H) Q (primR p a q1)) : PrimPost Z p ws H1 Q := by
  unfold primR at z
  cases e1 : atAll q1 a with
  | none => rw [e1] at z; exact z.elim
  | some ds =>
    rw [e1] at z
    dsimp only at z
    cases e2 : evP p ds with
    | none => rw [e2] at z; exact z.elim
    | some nd =>
      obtain ⟨nw, d⟩ := nd
      rw [e2] at z
      refine ⟨Rt R0 s q1, ds, ⟨f1.tb, fun b hb => f1.rtT hb⟩, RepRs.atPs f1 p1 e1, nw, d, e2, fun w H' sm rn => ?_⟩
      have l2 : Lat (Ow s q) H (Ow s q1) H' := l.trans (Lat.same sm)
      have trk2 : ∀ b, R0 b → H' b ≠ none := fun b hb => (Lat.same (R := Ow s q) sm).tr b (f1.trk b hb)
      cases nw with
      | false => exact z w H' l2 b ⟨f1.on sm (fun _ h => .inl h) trk2, rn⟩
      | true =>
        obtain ⟨a', xs, ds', Hm, rfl, rfl, s1, s2, hn, ha, rl⟩ := rn
        have hn1 : H1 a' = none := s1.free hn
        refine z (.ref a') H' l2 b ⟨a', rfl, l.new hn1, f1.on sm (fun b hb => Or.elim hb .inl fun e => .inr (e ▸ hn1)) (fun b hb => Or.elim hb (fun hb => trk2 b hb) fun e => ?_), ds', xs, rfl, ha, rl.lat ((Lat.same s2).less fun b hb => ?_)⟩
        · rw [e, ha]; exact fun z => nomatch z
        · rcases hb with (hb | hb) | hb
          · exact .inl (.inl hb)
          · exact .inr (hb ▸ hn)
          · exact .inl (.inr hb)
theorem tE_prm {p : P} {es : Es} {pk : Bool} {Q : VK} (h : tE Z K ex (.prm p es) pk s H Q) : tEs Z K ex es s H fun vs H1 => PrimPost Z p vs H1 Q := by
  unfold tE at h
  rw [show ev K (.prm p es) pk = fun q => bindR (evs K es q) fun rs q1 => primR p rs q1 from rfl] at h
  exact TR.bind h fun R0 q q1 a ws H1 f0 l b pp z => prim_an l b pp.1 pp.2 z
theorem tE_mth {p : P} {a b : E} {pk : Bool} {Q : VK} (h : tE Z K ex (.mth p a b) pk s H Q) : tE Z K ex a false s H fun v H1 => (∃ z, v = V.str z) ∧ tE Z K ex b true s H1 fun u H2 => PrimPost Z p [v, u] H2 Q := by
  unfold tE at h
  rw [show ev K (.mth p a b) pk = fun q => bindR (ev K a false q) fun r q1 => match r with
    | .val (.str z) => bindR (ev K b true q1) fun r2 q2 => primR p [.val (.str z), r2.down] q2
    | _ => .bad from rfl] at h
  refine TR.bind h fun R0 q q1 r w H1 f0 l bk pp z => ?_
  cases r with
  | new d => exact z.elim
  | slot d => exact z.elim
  | val d =>
    cases d with
    | str x =>
      obtain ⟨f1, rp⟩ := pp
      have ew : w = V.str x := by cases rp; rfl
      refine ⟨⟨x, ew⟩, R0, q1, f1, ?_⟩
      have z1 : An Z ex R0 s q1 H1 (PoV Z R0 s H1) Q (bindR (ev K b true q1) fun r2 q2 => primR p [.val (.str x), r2.down] q2) := An.late l bk (fun _ _ _ _ _ p => p.early l) z
      refine An.bind z1 fun q2 u H2 r2 _ l2 b2 p2 z2 => ?_
      obtain ⟨f2, r2'⟩ := p2.down f1
      exact prim_an (a := [.val (.str x), r2.down]) (ws := [w, u]) l2 b2 f2 ⟨Rep.lat (lat_rt l2) rp, r2', True.intro⟩ z2
    | _ => exact z.elim
end
end M

set_option Elab.async false
set_option linter.all false
set_option maxRecDepth 100000
/-! A4: each primitive by its rule. -/
namespace M
open PySem L2 PyProof.Rows
section
variable {Z : Zc} {H : Hp} {R : Pr} {v x y : V} {Q : VK}
theorem RepP.int {i : Int} (h : RepP Z H R v (.int i)) : v = .int i := by
  rcases h with h | ⟨_, _, _, e, _⟩
  · cases h; rfl
  · cases e
theorem RepP.bl {b : Bool} (h : RepP Z H R v (.bl b)) : v = .bl b := by
  rcases h with h | ⟨_, _, _, e, _⟩
  · cases h; rfl
  · cases e
theorem RepP.str {z : Str} (h : RepP Z H R v (.str z)) : v = .str z := by
  rcases h with h | ⟨_, _, _, e, _⟩
  · cases h; rfl
  · cases e
theorem RepP.non (h : RepP Z H R v .non) : v = .non := by
  rcases h with h | ⟨_, _, _, e, _⟩
  · cases h; rfl
  · cases e
theorem RepP.lst {ds : List D} (h : RepP Z H R v (.lst ds)) : ∃ a xs, v = .ref a ∧ SqL Z.K H a xs ∧ RepL Z H R xs ds := by
  rcases h with h | ⟨ds', a, xs, e, e2, h1, h2⟩
  · cases h with
    | lst a b => exact ⟨_, _, rfl, a.sq, b⟩
  · cases e; exact ⟨a, xs, e2, SqL.of h1, h2⟩
theorem RepP.tup {ds : List D} (h : RepP Z H R v (.tup ds)) : ∃ a xs, v = .ref a ∧ AtT Z.K H R a xs ∧ RepL Z H R xs ds := by
  rcases h with h | ⟨_, _, _, e, _⟩
  · cases h with
    | tup a b => exact ⟨_, _, rfl, a, b⟩
  · cases e
theorem RepP.ins {c : Nat} {fs : List D} (h : RepP Z H R v (.ins c fs)) : Rep Z H R v (.ins c fs) := by
  rcases h with h | ⟨_, _, _, e, _⟩
  · exact h
  · cases e
theorem RepP.dp {d : D} {p : PyData} (h : RepP Z H R v d) (e : d.py = some p) : Dq Z.K H v p := by
  rcases h with h | ⟨ds, a, xs, rfl, rfl, h1, h2⟩
  · exact h.dp e
  · unfold D.py at e
    cases q : D.pys ds with
    | none => rw [q] at e; cases e
    | some l => rw [q] at e; cases e; exact .lst (SqL.of h1) (h2.dp q)
theorem repPs1 {ds : List D} (h : RepPs Z H R [x] ds) : ∃ d, ds = [d] ∧ RepP Z H R x d := by
  cases ds with
  | nil => exact h.elim
  | cons d r =>
    cases r with
    | nil => exact ⟨d, rfl, h.1⟩
    | cons _ _ => exact h.2.elim
theorem repPs2 {ds : List D} (h : RepPs Z H R [x, y] ds) : ∃ d e, ds = [d, e] ∧ RepP Z H R x d ∧ RepP Z H R y e := by
  cases ds with
  | nil => exact h.elim
  | cons d r =>
    obtain ⟨e, rfl, h2⟩ := repPs1 h.2
    exact ⟨d, e, rfl, h.1, h2⟩
theorem repPs3 {z : V} {ds : List D} (h : RepPs Z H R [x, y, z] ds) : ∃ d e f, ds = [d, e, f] ∧ RepP Z H R x d ∧ RepP Z H R y e ∧ RepP Z H R z f := by
  cases ds with
  | nil => exact h.elim
  | cons d r =>
    obtain ⟨e, f, rfl, h2, h3⟩ := repPs2 h.2
    exact ⟨d, e, f, rfl, h.1, h2, h3⟩
theorem opI_inv {f : Int → Int → Option Int} {ds : List D} {nw : Bool} {d : D} (h : opI f ds = some (nw, d)) : ∃ a b c, ds = [.int a, .int b] ∧ f a b = some c ∧ nw = false ∧ d = .int c := by
  unfold opI at h
  split at h
  · rename_i a b
    cases e : f a b with
    | none => rw [e] at h; cases h
    | some c => rw [e] at h; cases h; exact ⟨a, b, c, rfl, e, rfl, rfl⟩
  · cases h
theorem cmpI_inv {f : Int → Int → Bool} {ds : List D} {nw : Bool} {d : D} (h : cmpI f ds = some (nw, d)) : ∃ a b, ds = [.int a, .int b] ∧ nw = false ∧ d = .bl (f a b) := by
  unfold cmpI at h
  split at h
  · cases h; exact ⟨_, _, rfl, rfl, rfl⟩
  · cases h
/-- two ints by a function -/
theorem pr_opI {p : P} {f : Int → Int → Option Int} (hp : evP p = opI f) {C : Int → Int → Prop} {g : Int → Int → Int} (hc : ∀ a b c, f a b = some c → C a b ∧ c = g a b) (h : PrimPost Z p [x, y] H Q) : rI C (fun i j => .int (g i j)) x y H Q := by
  obtain ⟨R, ds, ht, hr, nw, d, e, k⟩ := h
  rw [hp] at e
  obtain ⟨a, b, c, rfl, e2, rfl, rfl⟩ := opI_inv e
  obtain ⟨d1, d2, e3, r1, r2⟩ := repPs2 hr
  cases e3
  obtain ⟨h1, rfl⟩ := hc a b c e2
  exact ⟨a, b, r1.int, r2.int, h1, k _ H (Same.refl H) (.int _)⟩
theorem pr_cmpI {p : P} {f : Int → Int → Bool} (hp : evP p = cmpI f) (h : PrimPost Z p [x, y] H Q) : rI0 (fun i j => .bl (f i j)) x y H Q := by
  obtain ⟨R, ds, ht, hr, nw, d, e, k⟩ := h
  rw [hp] at e
  obtain ⟨a, b, rfl, rfl, rfl⟩ := cmpI_inv e
  obtain ⟨d1, d2, e3, r1, r2⟩ := repPs2 hr
  cases e3
  exact ⟨a, b, r1.int, r2.int, k _ H (Same.refl H) (.bl _)⟩
theorem rI_rI0 {g : Int → Int → V} (h : rI (fun _ _ => True) g x y H Q) : rI0 g x y H Q := by
  obtain ⟨i, j, h1, h2, _, q⟩ := h
  exact ⟨i, j, h1, h2, q⟩
theorem pr_sub (h : PrimPost Z .sub [x, y] H Q) : rI0 (fun i j => .int (i - j)) x y H Q := rI_rI0 (pr_opI (p := .sub) (C := fun _ _ => True) (g := fun i j => i - j) rfl (fun a b c e => ⟨trivial, (Option.some.inj e).symm⟩) h)
theorem pr_mod (h : PrimPost Z .mod [x, y] H Q) : rI (fun _ j => j ≠ 0) (fun i j => .int (i.fmod j)) x y H Q := pr_opI (p := .mod) (g := fun i j => i.fmod j) rfl (fun a b c e => by
  split at e
  · rename_i hb; exact ⟨hb, (Option.some.inj e).symm⟩
  · cases e) h
def CDivM (i j : Int) : Prop := j ≠ 0 ∧ (j.natAbs.log2 < 9000 ∨ i.natAbs.log2 < j.natAbs.log2 + 4400)
theorem noPy {x y : Int} (h : y ≠ 0) (k : y.natAbs.log2 < 9000 ∨ x.natAbs.log2 < y.natAbs.log2 + 4400) : Builtin.divisionGoesByPylong x y = false := by
  rcases k with k | k
  · exact PyProof.noPylong_of_log2 k
  · have dx : (if x == 0 then 0 else x.natAbs.log2 / 30 + 1) ≤ x.natAbs.log2 / 30 + 1 := by split <;> omega
    have dy : (if y == 0 then 0 else y.natAbs.log2 / 30 + 1) = y.natAbs.log2 / 30 + 1 := by rw [if_neg (by simpa using h)]
    show (_ && decide ((if x == 0 then 0 else x.natAbs.log2 / 30 + 1) > (if y == 0 then 0 else y.natAbs.log2 / 30 + 1) + 150)) = false
    rw [Bool.and_eq_false_iff]
    exact .inr (decide_eq_false (by rw [dy]; omega))
theorem op_fdivM {X : Cx} : OpR X (binaryOp .FloorDiv) (rI CDivM fun i j => .int (i.fdiv j)) := L2.opI fun i j _ _ _ _ _ hc q => floordiv_int hc.1 q (.inl (noPy hc.1 hc.2))
theorem pr_fdiv (h : PrimPost Z .fdiv [x, y] H Q) : rI CDivM (fun i j => .int (i.fdiv j)) x y H Q := pr_opI (p := .fdiv) (g := fun i j => i.fdiv j) rfl (fun a b c e => by
  split at e
  · rename_i hb; exact ⟨hb, (Option.some.inj e).symm⟩
  · cases e) h
theorem pr_pow (h : PrimPost Z .pow [x, y] H Q) : rI CPow (fun i j => .int (i ^ j.toNat)) x y H Q := pr_opI (p := .pow) (g := fun i j => i ^ j.toNat) rfl (fun a b c e => by
  split at e
  · rename_i hb; exact ⟨hb, (Option.some.inj e).symm⟩
  · cases e) h
theorem pr_max2 (h : PrimPost Z .max2 [x, y] H Q) : ∃ i j, [x, y] = [.int i, .int j] ∧ Q (.int (if j > i then j else i)) H := by
  obtain ⟨i, j, rfl, rfl, _, q⟩ := pr_opI (p := .max2) (C := fun _ _ => True) (g := fun i j => if j > i then j else i) rfl (fun a b c e => ⟨trivial, (Option.some.inj e).symm⟩) h
  exact ⟨i, j, rfl, q⟩
theorem pr_min2 (h : PrimPost Z .min2 [x, y] H Q) : ∃ i j, [x, y] = [.int i, .int j] ∧ Q (.int (if j < i then j else i)) H := by
  obtain ⟨i, j, rfl, rfl, _, q⟩ := pr_opI (p := .min2) (C := fun _ _ => True) (g := fun i j => if j < i then j else i) rfl (fun a b c e => ⟨trivial, (Option.some.inj e).symm⟩) h
  exact ⟨i, j, rfl, q⟩
theorem pr_neg (h : PrimPost Z .neg [x] H Q) : rU (fun i => .int (-i)) x H Q := by
  obtain ⟨R, ds, ht, hr, nw, d, e, k⟩ := h
  obtain ⟨d1, rfl, r1⟩ := repPs1 hr
  cases d1 <;> first | cases e | skip
  rename_i i
  exact ⟨i, r1.int, k _ H (Same.refl H) (.int _)⟩
theorem pr_abs (h : PrimPost Z .abs [x] H Q) : ∃ i, [x] = [V.int i] ∧ Q (.int (if i < 0 then -i else i)) H := by
  obtain ⟨R, ds, ht, hr, nw, d, e, k⟩ := h
  obtain ⟨d1, rfl, r1⟩ := repPs1 hr
  cases d1 <;> first | cases e | skip
  rename_i i
  exact ⟨i, by rw [r1.int], k _ H (Same.refl H) (.int _)⟩
theorem pr_int (h : PrimPost Z .int [x] H Q) : ((∃ i, [x] = [V.int i] ∧ Q (.int i) H) ∨ ∃ k, [x] = [V.bl k] ∧ Q (.int (if k then 1 else 0)) H) ∨ ∃ a n, [x] = [V.str a] ∧ PySem.intText? a = some n ∧ a.length ≤ 640 ∧ Q (.int n) H := by
  obtain ⟨R, ds, ht, hr, nw, d, e, k⟩ := h
  obtain ⟨d1, rfl, r1⟩ := repPs1 hr
  cases d1 <;> first | (cases e; done) | skip
  · rename_i b
    cases e
    exact .inl (.inr ⟨b, by rw [r1.bl], k _ H (Same.refl H) (.int _)⟩)
  · rename_i i
    cases e
    exact .inl (.inl ⟨i, by rw [r1.int], k _ H (Same.refl H) (.int _)⟩)
  · rename_i a
    have e : (match PySem.intText? a with | some n => if a.length ≤ 640 then some (false, D.int n) else none | none => none) = some (nw, d) := e
    cases hn : PySem.intText? a with
    | none => rw [hn] at e; cases e
    | some n =>
      rw [hn] at e
      have e : (if a.length ≤ 640 then some (false, D.int n) else none) = some (nw, d) := e
      by_cases hl : a.length ≤ 640
      · rw [if_pos hl] at e; cases e
        exact .inr ⟨a, n, by rw [r1.str], hn, hl, k _ H (Same.refl H) (.int _)⟩
      · rw [if_neg hl] at e; cases e
theorem isNon_iff {d : D} (h : RepP Z H R v d) : isNon d = decide (v = .non) := by
  rcases h with h | ⟨ds, a, xs, rfl, rfl, _⟩
  · cases h <;> rfl
  · rfl
theorem pr_isN (h : PrimPost Z .isN [x] H Q) : Q (.bl (decide (x = .non))) H := by
  obtain ⟨R, ds, ht, hr, nw, d, e, k⟩ := h
  obtain ⟨d1, rfl, r1⟩ := repPs1 hr
  cases e
  rw [← isNon_iff r1]
  exact k _ H (Same.refl H) (.bl _)
theorem pr_notN (h : PrimPost Z .notN [x] H Q) : Q (.bl (!decide (x = .non))) H := by
  obtain ⟨R, ds, ht, hr, nw, d, e, k⟩ := h
  obtain ⟨d1, rfl, r1⟩ := repPs1 hr
  cases e
  rw [← isNon_iff r1]
  exact k _ H (Same.refl H) (.bl _)
theorem dEq_inv {a b : D} {c : Bool} (h : dEq a b = some c) : ∃ p q, a.py = some p ∧ b.py = some q ∧ SeqAt.shaped p = true ∧ SeqAt.shaped q = true ∧ c = PyData.eqv p q := by
  unfold dEq at h
  split at h
  · rename_i p q h1 h2
    split at h
    · rename_i hs
      cases h
      exact ⟨p, q, h1, h2, (Bool.and_eq_true_iff.mp hs).1, (Bool.and_eq_true_iff.mp hs).2, rfl⟩
    · cases h
  · cases h
theorem pr_eq (h : PrimPost Z .eq [x, y] H Q) : rEqD Z.K x y H Q := by
  obtain ⟨R, ds, ht, hr, nw, d, e, k⟩ := h
  obtain ⟨d1, d2, rfl, r1, r2⟩ := repPs2 hr
  obtain ⟨c, e1, e2⟩ := Option.map_eq_some_iff.mp (show (dEq d1 d2).map _ = _ from e)
  cases e2
  obtain ⟨p, q, h1, h2, h3, h4, rfl⟩ := dEq_inv e1
  exact ⟨p, q, (r1.dp h1).shaped h3, (r2.dp h2).shaped h4, h3, h4, k _ H (Same.refl H) (.bl _)⟩
theorem pr_ne (h : PrimPost Z .ne [x, y] H Q) : rNeD Z.K x y H Q := by
  obtain ⟨R, ds, ht, hr, nw, d, e, k⟩ := h
  obtain ⟨d1, d2, rfl, r1, r2⟩ := repPs2 hr
  obtain ⟨c, e1, e2⟩ := Option.map_eq_some_iff.mp (show (dEq d1 d2).map _ = _ from e)
  cases e2
  obtain ⟨p, q, h1, h2, h3, h4, rfl⟩ := dEq_inv e1
  exact ⟨p, q, (r1.dp h1).shaped h3, (r2.dp h2).shaped h4, h3, h4, k _ H (Same.refl H) (.bl _)⟩
theorem atI_len {α β : Type} {xs : List α} {ys : List β} {i : Int} {d : β} (hl : xs.length = ys.length) (h : atI ys i = some d) : ∃ j : Nat, ys[j]? = some d ∧ ∀ v, xs[j]? = some v → atI xs i = some v := by
  unfold atI at h
  cases e : ixN ys.length i with
  | none => rw [e] at h; cases h
  | some j =>
    rw [e] at h
    refine ⟨j, h, fun v hv => ?_⟩
    unfold atI
    rw [hl, e]
    exact hv
theorem pr_idx (h : PrimPost Z .idx [x, y] H Q) : rIx Z.K x y H Q := by
  obtain ⟨R, ds, ht, hr, nw, d, e, k⟩ := h
  obtain ⟨d1, d2, rfl, r1, r2⟩ := repPs2 hr
  cases d1 <;> first | (cases e; done) | skip
  · cases d2 <;> first | (cases e; done) | skip
    rename_i z i
    simp only [evP] at e
    split at e
    · rename_i hz
      split at e
      · rename_i c hc
        cases e
        exact .inr (.inr ⟨z, i, c, r1.str, r2.int, hz, hc, k _ H (Same.refl H) (.str _)⟩)
      · cases e
    · cases e
  · cases d2 <;> first | (cases e; done) | skip
    rename_i ys i
    simp only [evP] at e
    split at e
    · rename_i c hc
      cases e
      obtain ⟨a, xs, rfl, h1, h2⟩ := r1.tup
      obtain ⟨j, hj, hv⟩ := atI_len h2.length hc
      obtain ⟨v, hv1, hv2⟩ := h2.get hj
      exact .inr (.inl ⟨a, xs, i, v, rfl, r2.int, h1.sq, hv v hv1, k _ H (Same.refl H) hv2⟩)
    · cases e
  · cases d2 <;> first | (cases e; done) | skip
    rename_i ys i
    simp only [evP] at e
    split at e
    · rename_i c hc
      cases e
      obtain ⟨a, xs, rfl, h1, h2⟩ := r1.lst
      obtain ⟨j, hj, hv⟩ := atI_len h2.length hc
      obtain ⟨v, hv1, hv2⟩ := h2.get hj
      exact .inl ⟨a, xs, i, v, rfl, r2.int, h1, hv v hv1, k _ H (Same.refl H) hv2⟩
    · cases e
theorem pr_len (h : PrimPost Z .len [x] H Q) : (∃ p ys, [x] = [V.ref p] ∧ (SqL Z.K H p ys ∨ SqT Z.K H p ys) ∧ Q (.int ys.length) H) ∨ (∃ z, [x] = [V.str z] ∧ z.length ≤ sizeLine ∧ Q (.int z.length) H) := by
  obtain ⟨R, ds, ht, hr, nw, d, e, k⟩ := h
  obtain ⟨d1, rfl, r1⟩ := repPs1 hr
  cases d1 <;> first | (cases e; done) | skip
  · rename_i z
    simp only [evP] at e
    split at e
    · rename_i hz
      cases e
      exact .inr ⟨z, by rw [r1.str], hz, k _ H (Same.refl H) (.int _)⟩
    · cases e
  · cases e
    obtain ⟨a, xs, rfl, h1, h2⟩ := r1.tup
    exact .inl ⟨a, xs, rfl, .inr h1.sq, by rw [h2.length]; exact k _ H (Same.refl H) (.int _)⟩
  · cases e
    obtain ⟨a, xs, rfl, h1, h2⟩ := r1.lst
    exact .inl ⟨a, xs, rfl, .inl h1, by rw [h2.length]; exact k _ H (Same.refl H) (.int _)⟩
theorem same_upd {p : Addr} {o : HO} (hn : H p = none) : Same H (upd H p o) := fun b u e => by rw [upd_ne (ne_of_none e hn)]; exact e
/-- a new tuple -/
theorem rep_new_tup {xs : List V} {ds : List D} {p : Addr} (ht : ∀ b, R b → H b ≠ none) (hn : H p = none) (h : RepL Z H R xs ds) : Rep Z (upd H p (.tup xs)) R (.ref p) (.tup ds) :=
  .tup (.inl ⟨.inl upd_same, fun z => ht p z hn⟩) (h.lat (Lat.same (same_upd hn)))
/-- a new list -/
theorem repN_new_lst {xs : List V} {ds : List D} {p : Addr} (hn : H p = none) (h : RepL Z H R xs ds) : RepN Z H (upd H p (.lst xs)) R (.ref p) true (.lst ds) :=
  ⟨p, xs, ds, H, rfl, rfl, Same.refl H, same_upd hn, hn, upd_same, h⟩
theorem pr_tuple (h : PrimPost Z .tuple [x] H Q) : ∃ p ys, [x] = [V.ref p] ∧ ((SqL Z.K H p ys ∧ ∀ l, H l = none → Q (.ref l) (upd H l (.tup ys))) ∨ (SqT Z.K H p ys ∧ Q (.ref p) H)) := by
  obtain ⟨R, ds, ht, hr, nw, d, e, k⟩ := h
  obtain ⟨d1, rfl, r1⟩ := repPs1 hr
  cases d1 <;> first | (cases e; done) | skip
  · cases e
    obtain ⟨a, xs, rfl, h1, h2⟩ := r1.tup
    exact ⟨a, xs, rfl, .inr ⟨h1.sq, k _ H (Same.refl H) (.tup h1 h2)⟩⟩
  · cases e
    obtain ⟨a, xs, rfl, h1, h2⟩ := r1.lst
    exact ⟨a, xs, rfl, .inl ⟨h1, fun l hl => k _ _ (same_upd hl) (rep_new_tup ht.2 hl h2)⟩⟩
theorem onLst_inv {α : Type} {f : List D → Option α} {g : α → Option (Bool × D)} {ds : List D} {r : Bool × D} (h : onLst f g ds = some r) : ∃ xs l, ds = [.lst xs] ∧ f xs = some l ∧ g l = some r := by
  unfold onLst at h
  split at h
  · rename_i xs
    cases e : f xs with
    | none => rw [e] at h; cases h
    | some l => rw [e] at h; exact ⟨xs, l, rfl, e, h⟩
  · cases h
theorem repL_strs : ∀ {ds : List D} {vs : List V} {l : List Str}, RepL Z H R vs ds → strsOf ds = some l → vs = l.map V.str
  | [], _, _, h, e => by cases h; cases e; rfl
  | .str i :: ds, _, l, h, e => by
    cases h with
    | cons a b =>
      cases a
      unfold strsOf at e
      cases q : strsOf ds with
      | none => rw [q] at e; cases e
      | some l' => rw [q] at e; cases e; rw [repL_strs b q]; rfl
  | .non :: _, _, _, _, e => by cases e
  | .bl _ :: _, _, _, _, e => by cases e
  | .int _ :: _, _, _, _, e => by cases e
  | .tup _ :: _, _, _, _, e => by cases e
  | .lst _ :: _, _, _, _, e => by cases e
  | .ins _ _ :: _, _, _, _, e => by cases e
theorem repL_of_strs : ∀ (l : List Str), RepL Z H R (l.map V.str) (l.map D.str)
  | [] => .nil
  | a :: l => .cons (.str a) (repL_of_strs l)
theorem pr_strI (h : PrimPost Z .strI [x] H Q) : ∃ i : Int, [x] = [V.int i] ∧ i.natAbs.log2 < 1920 ∧ Q (.str (toString i)) H := by
  obtain ⟨R, ds, ht, hr, nw, d, e, k⟩ := h
  obtain ⟨d1, rfl, r1⟩ := repPs1 hr
  cases d1 with
  | int i =>
    by_cases hi : i.natAbs.log2 < 1920
    · have e : (if i.natAbs.log2 < 1920 then some (false, D.str (toString i)) else none) = some (nw, d) := e
      rw [if_pos hi] at e
      cases e
      exact ⟨i, by rw [r1.int], hi, k _ H (Same.refl H) (.str _)⟩
    · have e : (if i.natAbs.log2 < 1920 then some (false, D.str (toString i)) else none) = some (nw, d) := e
      rw [if_neg hi] at e
      cases e
  | _ => cases e
theorem pr_join {y : V} (h : PrimPost Z .join [x, y] H Q) : ∃ a p, ∃ ys : List Str, x = .str a ∧ [y] = [.ref p] ∧ (SqL Z.K H p (ys.map V.str) ∨ SqT Z.K H p (ys.map V.str)) ∧ (ys.map (·.length)).sum + ys.length * a.length ≤ 16777216 ∧ Q (.str (PySem.Txt.join a ys)) H := by
  obtain ⟨R, ds, ht, hr, nw, d, e, k⟩ := h
  obtain ⟨d1, d2, rfl, r1, r2⟩ := repPs2 hr
  have key : ∀ {a : Str} {ys : List D}, joinD a ys = some (nw, d) → ∃ l, strsOf ys = some l ∧ (l.map (·.length)).sum + l.length * a.length ≤ 16777216 ∧ nw = false ∧ d = .str (PySem.Txt.join a l) := by
    intro a ys e
    unfold joinD at e
    cases q : strsOf ys with
    | none => rw [q] at e; cases e
    | some l =>
      rw [q] at e
      dsimp only at e
      by_cases hl : (l.map (·.length)).sum + l.length * a.length ≤ 16777216
      · rw [if_pos hl] at e; cases e; exact ⟨l, rfl, hl, rfl, rfl⟩
      · rw [if_neg hl] at e; cases e
  cases d1 with
  | str a =>
    cases d2 with
    | lst ys =>
      obtain ⟨l, h1, h2, rfl, rfl⟩ := key (show joinD a ys = _ from e)
      obtain ⟨p, xs, rfl, h3, h4⟩ := r2.lst
      obtain rfl := repL_strs h4 h1
      exact ⟨a, p, l, r1.str, rfl, .inl h3, h2, k _ H (Same.refl H) (.str _)⟩
    | tup ys =>
      obtain ⟨l, h1, h2, rfl, rfl⟩ := key (show joinD a ys = _ from e)
      obtain ⟨p, xs, rfl, h3, h4⟩ := r2.tup
      obtain rfl := repL_strs h4 h1
      exact ⟨a, p, l, r1.str, rfl, .inr h3.sq, h2, k _ H (Same.refl H) (.str _)⟩
    | _ => cases e
  | _ => cases e
theorem pr_split {y : V} (h : PrimPost Z .split [x, y] H Q) : ∃ a b : Str, x = .str a ∧ [y] = [.str b] ∧ (b.length == 0) = false ∧ a.length + 2 ≤ sizeLine ∧ rNewStrs (PySem.Txt.split a b) H Q := by
  obtain ⟨R, ds, ht, hr, nw, d, e, k⟩ := h
  obtain ⟨d1, d2, rfl, r1, r2⟩ := repPs2 hr
  cases d1 with
  | str a =>
    cases d2 with
    | str b =>
      have e : (if (b.length == 0) = false ∧ a.length + 2 ≤ sizeLine then some (true, D.lst ((PySem.Txt.split a b).map D.str)) else none) = some (nw, d) := e
      by_cases hc : (b.length == 0) = false ∧ a.length + 2 ≤ sizeLine
      · rw [if_pos hc] at e
        cases e
        exact ⟨a, b, r1.str, by rw [r2.str], hc.1, hc.2, fun p hp => k _ _ (same_upd hp) (repN_new_lst hp (repL_of_strs _))⟩
      · rw [if_neg hc] at e; cases e
    | _ => cases e
  | _ => cases e
theorem pr_all (h : PrimPost Z .all [x] H Q) : rAll Z.K [x] H Q := by
  obtain ⟨R, ds, ht, hr, nw, d, e, k⟩ := h
  obtain ⟨xs, l, rfl, e1, e2⟩ := onLst_inv (show onLst blsOf allL ds = _ from e)
  obtain ⟨d1, e3, r1⟩ := repPs1 hr
  cases e3
  obtain ⟨a, ys, rfl, h1, h2⟩ := r1.lst
  obtain rfl := h2.bls e1
  cases e2
  exact ⟨a, l, rfl, h1, k _ H (Same.refl H) (.bl _)⟩
theorem pr_divmod (h : PrimPost Z .divmod [x, y] H Q) : ∃ i j, [x, y] = [V.int i, V.int j] ∧ CDiv i j ∧ ∀ p, H p = none → Q (.ref p) (upd H p (.tup [.int (i / j), .int (i % j)])) := by
  obtain ⟨R, ds, ht, hr, nw, d, e, k⟩ := h
  obtain ⟨d1, d2, rfl, r1, r2⟩ := repPs2 hr
  cases d1 <;> first | (cases e; done) | skip
  cases d2 <;> first | (cases e; done) | skip
  rename_i i j
  simp only [evP] at e
  split at e
  · rename_i hc
    cases e
    exact ⟨i, j, by rw [r1.int, r2.int], hc, fun p hp => k _ _ (same_upd hp) (rep_new_tup ht.2 hp (.cons (.int _) (.cons (.int _) .nil)))⟩
  · cases e
end
end M

set_option Elab.async false
set_option linter.all false
set_option maxRecDepth 100000
set_option maxHeartbeats 4000000
/-! A5: +, *, slices, isinstance. -/
namespace M
open PySem L2 PyProof.Rows
section
variable {X : Cx}
/-- list + list, whatever they stand in -/
def rCatL (K : PySem.W.Frag) : R2 := fun x y H Q => ∃ l b xs zs, x = .ref l ∧ y = .ref b ∧ SqL K H l xs ∧ SqL K H b zs ∧ xs.length + zs.length ≤ sizeLine ∧ ∀ p, H p = none → Q (.ref p) (upd H p (.lst (xs ++ zs)))
theorem op_catL : OpR X (binaryOp .Add) (rCatL X.K) := by
  intro pins s σ H x y v u Q I rx ry h
  obtain ⟨l, b, xs, zs, rfl, rfl, hH, hB, hz, q⟩ := h
  cases rx
  cases ry
  obtain ⟨its, r, ⟨⟨cls, dd, data, sl⟩, n, ho, hc, hd, he⟩, z⟩ := I.list hH
  obtain ⟨its2, r2, ⟨⟨cls2, dd2, data2, sl2⟩, n2, ho2, hc2, hd2, he2⟩, z2⟩ := I.list hB
  simp only at hc hd he hc2 hd2 he2
  subst hc hd he hc2 hd2 he2
  have e : its.toArray ++ its2.toArray = (its ++ its2).toArray := by simp
  have hl := r.length
  have hl2 := r2.length
  refine concat_meets ⟨_, ho, rfl⟩ ⟨_, ho2, rfl⟩ noFill_list_add seq_list_add PySem.F.slot_list_add PySem.F.entry_list_add (PySem.F.args_list_add_2 _ _) (list_addW l b its.toArray its2.toArray n n2 none none sl sl2 (by rw [List.size_toArray, List.size_toArray]; omega)) ⟨ho, ho2, ?_⟩
  rw [e]
  exact ⟨.ref _, _, I.lnew (t' := s.toks) (r.append r2) (by rw [List.length_append]; omega), rfl, q _ I.fresh⟩
theorem tuple_mul1 (l : Addr) (items : Array Value) (n : Nat) (dd : Option Addr) (sl : Array (Option Value)) (u : Tok) :
    Meets (Builtin.«tuple.__mul__» ⟨[.ref l, .int 1 u], []⟩) (fun _ R s => s.heap.get? l = some { cls := .type "tuple", dict := dd, data := .seq items n, slots := sl } ∧ R (.ok (.ret (Value.ref l))) s) :=
  .of_wp fun prog w A R s h => by
    obtain ⟨hp, g, d, tk, os⟩ := s
    obtain ⟨hl, h⟩ := h
    have f1 := AutoSeq1.idx_int
    wp_walk using wpAny_loadPart' hl
    exact ⟨_, rfl, h⟩
theorem tuple_mul0 (l : Addr) (items : Array Value) (n : Nat) (dd : Option Addr) (sl : Array (Option Value)) (u : Tok) (hi : items.isEmpty = false) :
    Meets (Builtin.«tuple.__mul__» ⟨[.ref l, .int 0 u], []⟩) (fun _ R s => s.heap.get? l = some { cls := .type "tuple", dict := dd, data := .seq items n, slots := sl } ∧
      R (.ok (.ret (Value.ref s.heap.objs.size))) { s with heap := s.heap.push { cls := Value.type "tuple", data := Data.seq #[] }, toks := s.toks }) :=
  .of_wp fun prog w A R s h => by
    obtain ⟨hp, g, d, tk, os⟩ := s
    obtain ⟨hl, h⟩ := h
    have f1 := AutoSeq1.idx_int
    wp_walk using wpAny_loadPart' hl
    exact ⟨_, rfl, h⟩
/-- tuple * int, 0 and 1 too -/
def rRepA (K : PySem.W.Frag) : R2 := fun x y H Q => ∃ l k xs, x = .ref l ∧ y = .int k ∧ SqT K H l xs ∧ xs ≠ [] ∧ 0 ≤ k ∧ k ≤ 1000 ∧ xs.length ≤ 1000 ∧ (k = 1 → Q (.ref l) H) ∧ ∀ p, H p = none → Q (.ref p) (upd H p (.tup (List.replicate k.toNat xs).flatten))
theorem op_repA : OpR X (binaryOp .Mult) (rRepA X.K) := by
  intro pins s σ H x y v u Q I rx ry h
  obtain ⟨l, k, xs, rfl, rfl, hT, hne, h1, h2, hz, q1, q⟩ := h
  by_cases hk : 2 ≤ k
  · exact op_repT pins s σ H _ _ v u Q I rx ry ⟨l, k, xs, rfl, rfl, hT, hne, hk, h2, hz, q⟩
  cases rx
  obtain ⟨t, rfl⟩ := ry
  obtain ⟨its, r, ⟨⟨cls, dd, data, sl⟩, ho, hc, n, hd⟩, hs⟩ := I.tuple hT
  simp only at hc hd
  subst hc hd
  have hle : its.length = xs.length := r.length.symm
  have hi : its.toArray.isEmpty = false := by
    cases its with
    | nil => exact absurd (List.eq_nil_of_length_eq_zero hle.symm) hne
    | cons a b => rfl
  by_cases hk1 : k = 1
  · subst hk1
    refine wpAny_binaryOp_repeat_ref (T := "tuple") (U := "int") (by decide) ⟨_, ho, rfl⟩ (fun s' => typeIs_int s' 1 t) noFill_tuple_mul PySem.F.fills_int_mul PySem.F.slot_int_rmul repeat_tuple PySem.F.slot_int_index.lookup
      (call_meets PySem.F.slot_int_rmul (typeIs_int s 1 t) PySem.F.entry_int_rmul (PySem.F.args_int_rmul_2 _ _) (int_rmul_tuple 1 t l its.toArray n dd sl)
        ⟨ho, rfl, ⟨_, ho, rfl⟩, call_meets PySem.F.slot_tuple_mul ⟨_, ho, rfl⟩ PySem.F.entry_tuple_mul (PySem.F.args_tuple_mul_2 _ _) (tuple_mul1 l its.toArray n dd sl t) ⟨ho, ?_⟩⟩)
    exact ⟨.ref l, H, I, rfl, q1 rfl⟩
  · have hk0 : k = 0 := by omega
    subst hk0
    refine wpAny_binaryOp_repeat_ref (T := "tuple") (U := "int") (by decide) ⟨_, ho, rfl⟩ (fun s' => typeIs_int s' 0 t) noFill_tuple_mul PySem.F.fills_int_mul PySem.F.slot_int_rmul repeat_tuple PySem.F.slot_int_index.lookup
      (call_meets PySem.F.slot_int_rmul (typeIs_int s 0 t) PySem.F.entry_int_rmul (PySem.F.args_int_rmul_2 _ _) (int_rmul_tuple 0 t l its.toArray n dd sl)
        ⟨ho, rfl, ⟨_, ho, rfl⟩, call_meets PySem.F.slot_tuple_mul ⟨_, ho, rfl⟩ PySem.F.entry_tuple_mul (PySem.F.args_tuple_mul_2 _ _) (tuple_mul0 l its.toArray n dd sl t hi) ⟨ho, ?_⟩⟩)
    refine ⟨.ref s.heap.objs.size, _, I.laid (t' := s.toks) (o := .tup []) (fun b ob q => Heap.get?_push_of_some _ q) (Nat.le_refl _) ?_, rfl, q _ (I.hok.fresh (Nat.le_refl _))⟩
    exact ⟨Nat.zero_le _, [], .nil, IsTup.new _ _⟩
theorem list_mulW (l : Addr) (items : Array Value) (n : Nat) (sl : Array (Option Value)) (x : Int) (u : Tok) (hf : ¬(!Builtin.List.listFitsIndex x) = true) (hc : ¬items.size * x.toNat > (2 ^ 63 - 1) / 8) (ht : ¬Builtin.List.listTooLong (items.size * x.toNat) = true) :
    Meets (Builtin.«list.__mul__» ⟨[.ref l, .int x u], []⟩) (fun _ R s =>
      s.heap.get? l = some { cls := .type "list", dict := none, data := .seq items n, slots := sl } ∧
      R (.ok (.ret (Value.ref s.heap.objs.size)))
        { s with heap := s.heap.push { cls := Value.type "list", data := Data.seq (List.foldl (fun a b => a ++ b) #[] (List.replicate (if items.isEmpty = true then 0 else x.toNat) items)) }, toks := s.toks }) :=
  .of_wp fun prog w A R s h => by
    obtain ⟨hp, g, d, tk, os⟩ := s
    obtain ⟨hl, h⟩ := h
    have hz := PySem.AutoListH.joined_fits ht
    wp_walk using wpAny_loadPart' hl
    refine wpAny_ite_false (decide_eq_false (Nat.not_lt.mpr hz)) ?_
    wp_walk
    exact ⟨_, rfl, h⟩
theorem int_rmulW (a : Int) (t : Tok) (l : Addr) (items : Array Value) (n : Nat) (sl : Array (Option Value)) :
    Meets (Builtin.«int.__rmul__» ⟨[.int a t, .ref l], []⟩) (fun _ R s =>
      s.heap.get? l = some { cls := .type "list", dict := none, data := .seq items n, slots := sl } ∧ R (.ok (.ret Value.notImplemented)) s) :=
  .of_wp fun prog w A R s h => by
    obtain ⟨hp, g, d, tk, os⟩ := s
    obtain ⟨hl, h⟩ := h
    wp_walk
    exact ⟨_, rfl, h⟩
def rRepLA (K : PySem.W.Frag) : R2 := fun x y H Q => ∃ l k xs, x = .ref l ∧ y = .int k ∧ SqL K H l xs ∧ 0 ≤ k ∧ k ≤ 300 ∧ xs.length ≤ 300 ∧ ∀ p, H p = none → Q (.ref p) (upd H p (.lst (List.replicate k.toNat xs).flatten))
theorem op_repLA : OpR X (binaryOp .Mult) (rRepLA X.K) := by
  intro pins s σ H x y v u Q I rx ry h
  obtain ⟨l, k, xs, rfl, rfl, hH, h0, h1, hz, q⟩ := h
  cases rx
  obtain ⟨t, rfl⟩ := ry
  obtain ⟨its, r, ⟨⟨cls, dd, data, sl⟩, n, ho, hc, hd, he⟩, z⟩ := I.list hH
  simp only at hc hd he
  subst hc hd he
  have hle := r.length
  have hprod : its.toArray.size * k.toNat ≤ 90000 := by
    rw [List.size_toArray, ← hle]
    exact Nat.mul_le_mul hz (show k.toNat ≤ 300 by omega)
  have hfit : ¬ (!Builtin.List.listFitsIndex k) = true := by
    rw [fitsIndex_both (by omega) (by omega)]
    exact Bool.false_ne_true
  have hlong : ¬ Builtin.List.listTooLong (its.toArray.size * k.toNat) = true := by
    rw [notLongL (Nat.le_trans hprod (by decide))]
    exact Bool.false_ne_true
  have key : ∀ m : Nat, List.foldl (fun a b => a ++ b) #[] (List.replicate m its.toArray) = (List.replicate m its).flatten.toArray := fun m => by
    have e := foldl_rep its m []
    rwa [List.nil_append] at e
  have hnew : List.foldl (fun a b => a ++ b) #[] (List.replicate (if its.toArray.isEmpty = true then 0 else k.toNat) its.toArray) = (List.replicate k.toNat its).flatten.toArray := by
    rw [key]
    cases its with
    | nil => simp
    | cons a b => rw [if_neg (by simp)]
  refine wpAny_binaryOp_repeat_ref (T := "list") (U := "int") (by decide) ⟨_, ho, rfl⟩ (fun s' => typeIs_int s' k t) noFill_list_mul PySem.F.fills_int_mul PySem.F.slot_int_rmul repeat_list PySem.F.slot_int_index.lookup
    (call_meets PySem.F.slot_int_rmul (typeIs_int s k t) PySem.F.entry_int_rmul (PySem.F.args_int_rmul_2 _ _) (int_rmulW k t l its.toArray n sl)
      ⟨ho, rfl, ⟨_, ho, rfl⟩, call_meets PySem.F.slot_list_mul ⟨_, ho, rfl⟩ PySem.F.entry_list_mul (PySem.F.args_list_mul_2 _ _) (list_mulW l its.toArray n sl k t hfit (by omega) hlong) ⟨ho, ?_⟩⟩)
  rw [hnew]
  exact ⟨.ref _, _, I.lnew (t' := s.toks) (r.rep k.toNat) (by rw [PyProof.Rows.lm_len_rep_flat, Nat.mul_comm]; rw [List.size_toArray, ← hle] at hprod; exact Nat.le_trans hprod (by decide)), rfl, q _ I.fresh⟩
theorem op_mulB : OpR X (binaryOp .Mult) (rI (fun i j => mulOk i j = true) fun i j => .int (i * j)) := L2.opI fun i j _ _ _ _ _ hc q => mul_int q (by
  have b : ∀ x : Int, Builtin.Int.intBits x ≤ x.natAbs.log2 + 1 := fun x => by
    unfold Builtin.Int.intBits
    split <;> omega
  have h1 := b i
  have h2 := b j
  have h3 := of_decide_eq_true hc
  have e : bitsLine = 134217728 := by decide
  unfold IntMulOk
  intro z
  rw [Bool.and_eq_true] at z
  have z2 := z.2
  unfold Builtin.Int.intTooBig at z2
  have z3 := of_decide_eq_true z2
  rw [e] at z3
  omega)
end
section
variable {Z : Zc} {H : Hp} {R : Pr} {v x y : V} {Q : VK}
theorem rep_nil' {ds : List D} (h : RepL Z H R [] ds) : ds = [] := by cases h; rfl
theorem pr_add (h : PrimPost Z .add [x, y] H Q) : rI0 (fun i j => .int (i + j)) x y H Q ∨ (∃ i j, x = .str i ∧ y = .str j ∧ i.length + j.length ≤ sizeLine ∧ Q (.str (i ++ j)) H) ∨ rCatA Z.K x y H Q ∨ rCatL Z.K x y H Q := by
  obtain ⟨R, ds, ht, hr, nw, d, e, k⟩ := h
  obtain ⟨d1, d2, rfl, r1, r2⟩ := repPs2 hr
  cases d1 <;> first | (cases e; done) | skip
  · cases d2 <;> first | (cases e; done) | skip
    cases e
    exact .inl ⟨_, _, r1.int, r2.int, k _ H (Same.refl H) (.int _)⟩
  · cases d2 <;> first | (cases e; done) | skip
    rename_i a b
    simp only [evP] at e
    split at e
    · rename_i hz
      cases e
      exact .inr (.inl ⟨_, _, r1.str, r2.str, hz, k _ H (Same.refl H) (.str _)⟩)
    · cases e
  · cases d2 <;> first | (cases e; done) | skip
    rename_i a b
    simp only [evP] at e
    split at e
    · rename_i hz
      cases e
      obtain ⟨p1, xs, rfl, h1, h2⟩ := r1.tup
      obtain ⟨p2, zs, rfl, h3, h4⟩ := r2.tup
      refine .inr (.inr (.inl ⟨p1, p2, xs, zs, rfl, rfl, h1.sq, h3.sq, by rw [h2.length, h4.length]; exact hz, fun e => ?_, fun _ e => ?_, fun _ _ p hp => ?_⟩))
      · subst e
        obtain rfl := rep_nil' h2
        exact k _ H (Same.refl H) (.tup h3 h4)
      · subst e
        obtain rfl := rep_nil' h4
        rw [List.append_nil] at k
        exact k _ H (Same.refl H) (.tup h1 h2)
      · exact k _ _ (same_upd hp) (rep_new_tup ht.2 hp (h2.append h4))
    · cases e
  · cases d2 <;> first | (cases e; done) | skip
    rename_i a b
    simp only [evP] at e
    split at e
    · rename_i hz
      cases e
      obtain ⟨p1, xs, rfl, h1, h2⟩ := r1.lst
      obtain ⟨p2, zs, rfl, h3, h4⟩ := r2.lst
      exact .inr (.inr (.inr ⟨p1, p2, xs, zs, rfl, rfl, h1, h3, by rw [h2.length, h4.length]; exact hz, fun p hp => k _ _ (same_upd hp) (repN_new_lst hp (h2.append h4))⟩))
    · cases e
theorem pr_mul (h : PrimPost Z .mul [x, y] H Q) : rI (fun i j => mulOk i j = true) (fun i j => .int (i * j)) x y H Q ∨ rRepA Z.K x y H Q ∨ rRepLA Z.K x y H Q := by
  obtain ⟨R, ds, ht, hr, nw, d, e, k⟩ := h
  obtain ⟨d1, d2, rfl, r1, r2⟩ := repPs2 hr
  cases d1 <;> first | (cases e; done) | skip
  · cases d2 <;> first | (cases e; done) | skip
    simp only [evP] at e
    split at e
    · rename_i hz
      cases e
      exact .inl ⟨_, _, r1.int, r2.int, hz, k _ H (Same.refl H) (.int _)⟩
    · cases e
  · cases d2 <;> first | (cases e; done) | skip
    rename_i a b
    simp only [evP] at e
    split at e
    · rename_i hz
      cases e
      obtain ⟨p1, xs, rfl, h1, h2⟩ := r1.tup
      refine .inr (.inl ⟨p1, b, xs, rfl, r2.int, h1.sq, fun z => ?_, hz.2.2.2, hz.1, by rw [h2.length]; exact hz.2.1, fun z => ?_, fun p hp => ?_⟩)
      · subst z
        exact hz.2.2.1 (rep_nil' h2)
      · subst z
        have e1 : (List.replicate (1 : Int).toNat a).flatten = a := by simp
        rw [e1] at k
        exact k _ H (Same.refl H) (.tup h1 h2)
      · exact k _ _ (same_upd hp) (rep_new_tup ht.2 hp (h2.rep _))
    · cases e
  · cases d2 <;> first | (cases e; done) | skip
    rename_i a b
    simp only [evP] at e
    split at e
    · rename_i hz
      cases e
      obtain ⟨p1, xs, rfl, h1, h2⟩ := r1.lst
      exact .inr (.inr ⟨p1, b, xs, rfl, r2.int, h1, hz.2.2, hz.1, by rw [h2.length]; exact hz.2.1, fun p hp => k _ _ (same_upd hp) (repN_new_lst hp (h2.rep _))⟩)
    · cases e
/-- slices -/
theorem cutL_cutV {xs : List V} {ds : List D} (h : RepL Z H R xs ds) (lo hi : Option Int) : RepL Z H R (cutV xs lo hi) (cutL ds lo hi) := by
  unfold cutV cutL
  rw [h.length]
  exact (h.drop _).take _
theorem cut_whole {ds : List D} {lo hi : Option Int} (h : HT.sIx ds.length 0 lo = 0 ∧ HT.sIx ds.length ds.length hi = ds.length) : cutL ds lo hi = ds := by
  unfold cutL
  rw [h.1, h.2]
  simp
theorem sloD_ok {d : D} {lo hi : Option Int} {nw : Bool} {r : D} (ht : ∀ b, R b → H b ≠ none) (rp : RepP Z H R x d) (e : sloD d lo hi = some (nw, r)) (k : ∀ w H', Same H H' → RepN Z H H' R w nw r → Q w H') :
    (rSlL Z.K x lo hi H Q ∨ rSlA Z.K x lo hi H Q) ∨ rSlS x lo hi H Q := by
  cases d <;> first | (cases e; done) | skip
  · rename_i z
    have e : (if z.length ≤ sizeLine then some (false, D.str (L2.cutS z lo hi)) else none) = some (nw, r) := e
    by_cases hz : z.length ≤ sizeLine
    · rw [if_pos hz] at e; cases e
      exact .inr ⟨z, rp.str, hz, k _ H (Same.refl H) (.str _)⟩
    · rw [if_neg hz] at e; cases e
  · cases e
    obtain ⟨p, xs, rfl, h1, h2⟩ := rp.tup
    refine .inl (.inr ⟨p, xs, rfl, h1.sq, fun z => ?_, fun z q hq => ?_⟩)
    · rw [h2.length] at z
      rw [cut_whole z] at k
      exact k _ H (Same.refl H) (.tup h1 h2)
    · exact k _ _ (same_upd hq) (rep_new_tup ht hq (cutL_cutV h2 lo hi))
  · cases e
    obtain ⟨p, xs, rfl, h1, h2⟩ := rp.lst
    exact .inl (.inl ⟨p, xs, rfl, h1, fun q hq => k _ _ (same_upd hq) (repN_new_lst hq (cutL_cutV h2 lo hi))⟩)
end
end M

set_option Elab.async false
set_option linter.all false
set_option maxRecDepth 100000
set_option maxHeartbeats 4000000
/-! A6: zip and enumerate over lists and tuples, in any mix. -/
namespace M
open PySem L2 PyProof.Rows
/-- b: a tuple; else a list -/
def SqX (b : Bool) (K : PySem.W.Frag) (H : Hp) (a : Addr) (xs : List V) : Prop := match b with | true => SqT K H a xs | false => SqL K H a xs
def IterX (b : Bool) (h : Heap) (it a : Addr) (i : Nat) : Prop := match b with | true => h.IsTupleIter it a i | false => h.IsListIter it a i
def SeqX (b : Bool) (h : Heap) (a : Addr) (items : Array Value) : Prop := match b with | true => h.IsTuple a items | false => h.IsList a items
theorem IterX.at_ {b : Bool} {h h' : Heap} {it a : Addr} {i : Nat} (x : IterX b h it a i) (k : ∀ o, h.get? it = some o → h'.get? it = some o) : IterX b h' it a i := by
  cases b with
  | true => exact Heap.IsTupleIter.at x k
  | false => exact Heap.IsListIter.at x k
theorem IterX.obj {b : Bool} {h : Heap} {it a : Addr} {i : Nat} (x : IterX b h it a i) : ∃ o, h.get? it = some o ∧ ∀ v, o.data ≠ .cell v := by
  cases b with
  | true => obtain ⟨o, e, _, d⟩ := x; exact ⟨o, e, fun v q => by rw [d] at q; cases q⟩
  | false => obtain ⟨o, e, _, d⟩ := x; exact ⟨o, e, fun v q => by rw [d] at q; cases q⟩
theorem drawsX {prog : Program} {w : World} {A : Around} (b : Bool) (hh : A.handled = none) (it a : Addr) (hne : a ≠ it) (items : Array Value) :
    Draws prog w A it [it, a] items.size (fun i v => items[i]? = some v) (fun i h => IterX b h it a i ∧ SeqX b h a items) := by
  cases b with
  | true => exact Draws.tuple hh it a hne items
  | false => exact Draws.list hh it a hne items
theorem seqX_of {X : Cx} {pins : List (Addr × Obj)} {σ : Sg} {H : Hp} {s : Shared} {a : Addr} {xs : List V} (b : Bool) (I : Inv X pins σ H s) (h : SqX b X.K H a xs) : ∃ its : List Value, Vals xs its ∧ SeqX b s.heap a its.toArray ∧ a < s.heap.objs.size := by
  cases b with
  | true =>
    obtain ⟨its, r, p, _⟩ := I.tuple h
    exact ⟨its, r, p, p.lt⟩
  | false =>
    obtain ⟨its, r, p, _⟩ := I.list h
    exact ⟨its, r, p.isList, p.lt⟩
theorem sqX_inj {X : Cx} {pins : List (Addr × Obj)} {σ : Sg} {H : Hp} {s : Shared} {a : Addr} {xs ys : List V} (b : Bool) (I : Inv X pins σ H s) (h : SqX b X.K H a xs) (h' : SqX b X.K H a ys) : xs = ys := by
  cases b with
  | true => exact I.tuple_inj h h'
  | false => exact I.list_inj h h'
theorem beginsX (b : Bool) (l : Addr) (items : Array Value) : ∃ o, Begins (.ref l) o (fun h => SeqX b h l items) ∧ ∀ (h : Heap) (it : Addr), h.get? it = some o → IterX b h it l 0 := by
  cases b with
  | true => exact ⟨_, begins_tuple l items, fun h it e => ⟨_, e, rfl, rfl⟩⟩
  | false => exact ⟨_, begins_list l items, fun h it e => ⟨_, e, rfl, rfl⟩⟩
/-- enumerate -/
def IteX (b1 : Bool) (K : PySem.W.Frag) (a : Addr) : It :=
  ⟨fun i H => ∃ (xs : List V) (x : V), SqX b1 K H a xs ∧ xs[i]? = some x,
    fun i H v H' => ∃ T x, v = .ref T ∧ H T = none ∧ H' = upd H T (.tup [.int (i : Nat), x]) ∧ ∀ xs, SqX b1 K H a xs → xs[i]? = some x,
    fun i H => ∃ xs : List V, SqX b1 K H a xs ∧ i = xs.length⟩
theorem turn_enumX {P : Program} {w : World} {K : PySem.W.Frag} {elts : List Expr} {kk : Nat} {tpos : Pos} (b1 : Bool) (a e it : Addr) (hae : a ≠ e) (hai : a ≠ it) :
    Turn P w K (.Tuple elts kk tpos) (IteX b1 K a) [e, it] e (fun i h => (∃ old, IsEnum h e it ((i : Nat) : Int) old) ∧ IterX b1 h it a i ∧ e ≠ it) where
  mem := by simp
  obj := fun i h st b hb => by
    obtain ⟨⟨old, he⟩, hi, _⟩ := st
    have e' : b = e ∨ b = it := by simpa using hb
    rcases e' with z | z
    · rw [z]; exact ⟨_, he, fun v q => nomatch q⟩
    · rw [z]; exact hi.obj
  keep := fun i h h' st k => let ⟨⟨old, he⟩, hi, hne⟩ := st; ⟨⟨old, k e (by simp) _ he⟩, hi.at_ fun o q => k it (by simp) o q, hne⟩
  item := by
    intro X hP hw hK hc i pins s σ H E I hf st hg
    subst hP hw hK
    obtain ⟨⟨old, he⟩, hit, hne⟩ := st
    obtain ⟨xs, x, hq, hx⟩ := hg
    obtain ⟨its, rv, p, _⟩ := seqX_of b1 I hq
    obtain ⟨u, hu, ru⟩ := rv.get hx
    have hel : e < s.heap.objs.size := Heap.lt_size he
    have hil : it < s.heap.objs.size := by obtain ⟨_, q, _⟩ := hit.obj; exact Heap.lt_size q
    have l1 : i < its.toArray.size := by
      rw [List.size_toArray]; exact (List.getElem?_eq_some_iff.mp hu).1
    refine wpAny_pyNext_enum_itemC (drawsX (prog := X.prog) (w := X.w) (A := X.A.in1) b1 (I.ok.hd hc) it a hai its.toArray) he ⟨hit, p⟩ l1 hne (by simp [Ne.symm hae, hne]) fun x1 h' tk e1 ho hit' hT hsz hk => ?_
    have e1' : its[i]? = some x1 := by simpa using e1
    obtain rfl : u = x1 := by rw [hu] at e1'; exact Option.some.inj e1'
    refine ⟨_, rfl, wpAny_letOwnedTupleGo_enum (s := { s with heap := h', toks := tk + 1 }) ho fun h'' he' sb => ?_⟩
    have hT2 : h''.get? s.heap.objs.size = some { cls := .type "tuple", data := .seq #[.int i tk, u] } := (sb.2 _ (Nat.ne_of_gt hel)).trans hT
    have new : ObjOk X.prog X.w (upd H s.heap.objs.size (.tup [.int (i : Nat), x])) h'' s.heap.objs.size (.tup [.int (i : Nat), x]) :=
      ⟨by show 2 ≤ sizeLine; decide, [.int i tk, u], .cons ⟨_, rfl⟩ (.cons ru .nil), ⟨_, hT2, rfl, _, rfl⟩⟩
    have I1 : Inv X pins σ (upd H s.heap.objs.size (.tup [.int (i : Nat), x])) { s with heap := h'', toks := tk + 1 } :=
      I.turnedNew (ch := [e, it]) (fun b ob hb q => (sb.2 b (fun z => hb (by simp [z]))).trans (hk b ob (fun z => hb (by simp [z])) (fun z => hb (by simp [z])) q)) hf (Nat.le_refl _) new
    refine ⟨.ref s.heap.objs.size, _, I1, rfl, ⟨_, x, rfl, I.hok.fresh (Nat.le_refl _), rfl, fun ys hy => by rw [sqX_inj b1 I hy hq]; exact hx⟩, ⟨⟨u, ?_⟩, hit'.1.at_ fun o q => (sb.2 it (Ne.symm hne)).trans q, hne⟩, fun b hb => ?_⟩
    · have e1 : ((i + 1 : Nat) : Int) = (i : Int) + 1 := by omega
      rw [e1]; exact he'
    · have hb' : b < s.heap.objs.size := by
        have e' : b = e ∨ b = it := by simpa using hb
        rcases e' with z | z
        · rw [z]; exact hel
        · rw [z]; exact hil
      rw [upd_ne (Nat.ne_of_lt hb')]
      exact (hf b hb).1
  done := by
    intro X hP hw hK hc i pins s σ H E I hf st hg
    subst hP hw hK
    obtain ⟨⟨old, he⟩, hit, hne⟩ := st
    obtain ⟨xs, hq, hx⟩ := hg
    obtain ⟨its, rv, p, _⟩ := seqX_of b1 I hq
    have hl := rv.length
    have hi : i = its.toArray.size := by rw [List.size_toArray]; omega
    subst hi
    refine (WalksT.enumFrom 0 (drawsX (prog := X.prog) (w := X.w) (A := X.A.in1) b1 (I.ok.hd hc) it a hai its.toArray) e hne (by simp [Ne.symm hae, hne]) (by simp)).done s _ _ ⟨⟨old, by simpa using he⟩, hit, p⟩ fun h' tk hk => ⟨rfl, I.turnedL (t' := tk) (ch := [e, it]) (fun b o hb q => hk b o (fun z => hb z) q) hf⟩
  self := fun A i s Q E st h => let ⟨⟨_, he⟩, _⟩ := st; wpAny_pyIter_enum he h
theorem meets_enumerate_newX {v : Value} {o : Obj} {H : Heap → Prop} (B : Begins v o H) :
    Meets (Builtin.«enumerate.__new__» ⟨[.type "enumerate", v], []⟩) (fun _ R s => H s.heap ∧
      R (.ok (.ret (.ref (s.heap.push o).objs.size))) { s with heap := (s.heap.push o).push { cls := .type "enumerate", data := .fields #[.none, .bool false, .ref s.heap.objs.size, rawInt 0, .none, .none] } }) :=
  .of_wp fun prog w A R s h => by
    obtain ⟨hp, g, d, tk, os⟩ := s; obtain ⟨h1, h⟩ := h
    have hsub := sub_enumerate
    have q1 : ∀ {A' : Around} {E : Value → Shared → Prop} {Q : Value → Shared → Prop}, Q (.ref hp.objs.size) ⟨hp.push o, g, d, tk, os⟩ → wpAny (model prog w) A' (pyIter v) Q E ⟨hp, g, d, tk, os⟩ :=
      fun q => B.iter prog w _ _ ⟨hp, g, d, tk, os⟩ _ h1 q
    wp_walk using q1
    refine wpAny_stack_any fun st => wpAny_pure ?_
    split
    · rename_i c _ _ _ _ _
      cases (c == Value.type "enumerate")
      · wp_walk using q1
        exact ⟨_, rfl, h⟩
      · wp_walk using q1
        exact ⟨_, rfl, h⟩
    · wp_walk using q1
      exact ⟨_, rfl, h⟩
def iEnumX (K : PySem.W.Frag) (ta : TA) : TI := fun σ H R => ta σ H fun vs H1 => ∃ a xs b1, vs = [.ref a] ∧ SqX b1 K H1 a xs ∧ R (IteX b1 K a) H1
theorem pi_enumX {X : Cx} {e : Expr} {ta : TA} {p pos tpos : Pos} {elts : List Expr} {kk : Nat} (hg : Gl X "enumerate") (hm : X.mg "enumerate" = none) (ha : PA X [e] ta) (hs : starEach [e] X.env = [(false, eval e X.env)]) :
    PI X (.Tuple elts kk tpos) (.Call (.Name "enumerate" p) [e] [] pos) (iEnumX X.K ta) := by
  refine ⟨fun pins s σ H R I h => ?_⟩
  refine Call_ (ld_blt I hg hm boot_enumerate (PyProof.Rows.callWith_type1 (thn (ha.run pos pins s σ H _ I h) fun us s1 ⟨vs, H1, I1, r1, q1⟩ => ?_) hs rfl))
  obtain ⟨a, xs, b1, ex, hq, q⟩ := q1
  subst ex
  cases r1 with
  | cons r rr =>
    cases rr
    cases r
    obtain ⟨its, rv, p1, la⟩ := seqX_of b1 I1 hq
    obtain ⟨o1, B1, g1⟩ := beginsX b1 a its.toArray
    refine callType_new F.called_enumerate (by decide) (F.typeCall_enumerate_1 _) (F.newCall_enumerate_1 _) (fun obj => F.args_object_init_2 obj _) F.entry_enumerate_new (meets_enumerate_newX B1) ⟨p1, ?_⟩
    have hz : (s1.heap.push o1).objs.size = s1.heap.objs.size + 1 := Heap.size_push ..
    show _ ∧ _
    rw [hz]
    have he : IsEnum ((s1.heap.push o1).push { cls := .type "enumerate", data := .fields #[.none, .bool false, .ref s1.heap.objs.size, rawInt 0, .none, .none] }) (s1.heap.objs.size + 1) s1.heap.objs.size 0 .none := by
      have := Heap.get?_push_size (s1.heap.push o1) (o := { cls := .type "enumerate", data := .fields #[.none, .bool false, .ref s1.heap.objs.size, rawInt 0, .none, .none] }) rfl
      rw [hz] at this; exact this
    refine ⟨⟨_, he, rfl⟩, wpAny_pyIter_enum he ?_⟩
    have hk : ∀ b o, s1.heap.get? b = some o → ((s1.heap.push o1).push { cls := .type "enumerate", data := .fields #[.none, .bool false, .ref s1.heap.objs.size, rawInt 0, .none, .none] }).get? b = some o := fun b o x => Heap.get?_push_of_some _ (Heap.get?_push_of_some _ x)
    have I2 := I1.kept (t' := s1.toks) hk
    refine ⟨s1.heap.objs.size + 1, [s1.heap.objs.size + 1, s1.heap.objs.size], _, _, H1, rfl, I2, turn_enumX b1 a (s1.heap.objs.size + 1) s1.heap.objs.size (Nat.ne_of_lt (Nat.lt_succ_of_lt la)) (Nat.ne_of_lt la), ⟨⟨.none, he⟩, g1 _ _ (Heap.get?_push_of_some _ (Heap.get?_push_size _ B1.free)), Nat.succ_ne_self _⟩, fun b hb => ?_, q⟩
    have e' : b = s1.heap.objs.size + 1 ∨ b = s1.heap.objs.size := by simpa using hb
    have hle : s1.heap.objs.size ≤ b := by
      rcases e' with z | z
      · rw [z]; exact Nat.le_add_right _ _
      · rw [z]; exact Nat.le_refl _
    exact I1.fpOk hle (I1.hok.fresh hle)
end M

set_option Elab.async false
set_option linter.all false
set_option maxRecDepth 100000
set_option maxHeartbeats 4000000
/-! A7: expressions by their parts. -/
namespace M
open PySem L2 PyProof.Rows

theorem _root_.L2.PE.imp {X : Cx} {e : Expr} {t t' : TE} (h : PE X e t) (i : ∀ s H Q, t' s H Q → t s H Q) : PE X e t' := ⟨fun pins s σ H Q I q => h.run pins s σ H Q I (i σ H Q q)⟩
theorem _root_.L2.PT.imp {X : Cx} {e : Expr} {t t' : TT} (h : PT X e t) (i : ∀ s H Q, t' s H Q → t s H Q) : PT X e t' := ⟨fun pins s σ H Q I q => h.run pins s σ H Q I (i σ H Q q)⟩
theorem _root_.L2.PW.imp {X : Cx} {e : Expr} {t t' : TT} (h : PW X e t) (i : ∀ s H Q, t' s H Q → t s H Q) : PW X e t' := ⟨fun wh pins s σ H Q I q => h.run wh pins s σ H Q I (i σ H Q q)⟩
theorem _root_.L2.PA.imp {X : Cx} {e : List Expr} {t t' : TA} (h : PA X e t) (i : ∀ s H Q, t' s H Q → t s H Q) : PA X e t' := ⟨fun pos pins s σ H Q I q => h.run pos pins s σ H Q I (i σ H Q q)⟩

section
variable {Z : Zc} {K : Calls} {ex : XK} {X : Cx} {s : Sg} {H : Hp}
/-- a literal -/
theorem tE_lit {e : E} {pk : Bool} {d : D} {Q : VK} (h : tE Z K ex e pk s H Q) (he : ∀ q, ev K e pk q = .ok (.val d) q) : ∃ R, ∀ w, Rep Z H R w d → Q w H := by
  obtain ⟨R0, q, f0, h⟩ := h
  rw [he q] at h
  exact ⟨Rt R0 s q, fun w r => h w H (Lat.refl _ _) (BK.refl _) ⟨f0, r⟩⟩
theorem ow_demote {q : Fm} {i : Nat} {b : Bool} {d : D} {a : Addr} (h : Ow s (q.set i (.sh b d)) a) : Ow s q a := by
  obtain ⟨j, b', d', h1, h2⟩ := h
  by_cases hj : i = j
  · subst hj
    by_cases hl : i < q.length
    · rw [List.getElem?_set_self hl] at h1; cases h1
    · rw [List.getElem?_eq_none (by simpa using hl)] at h1; cases h1
  · rw [List.getElem?_set_ne hj] at h1
    exact ⟨j, b', d', h1, h2⟩
/-- an owned list becomes a shared one -/
theorem FR.demote {R0 : Pr} {q : Fm} {i : Nat} {b : Bool} {d : D} (f : FR Z R0 s q H) (e : q[i]? = some (.ow b d)) : FR Z R0 s (q.set i (.sh b d)) H ∧ ∃ a, s[i]? = some (some (.ref a)) ∧ Rep Z H (Rt R0 s (q.set i (.sh b d))) (.ref a) d := by
  have hi : i < q.length := (List.getElem?_eq_some_iff.mp e).1
  have lt : Lat (Rt R0 s q) H (Rt R0 s (q.set i (.sh b d))) H := Lat.sub fun c z => Or.elim z .inl fun z => .inr (ow_demote z)
  obtain ⟨a, h1, h2, ds, xs, h3, h4, h5⟩ := f.ow i b d e
  subst h3
  have rp : Rep Z H (Rt R0 s (q.set i (.sh b (.lst ds)))) (.ref a) (.lst ds) := by
    refine .lst (.inl ⟨.inl h4, fun z => ?_⟩) (h5.lat lt)
    rcases z with z | ⟨j, b', d', z1, z2⟩
    · exact h2 z
    · by_cases hj : i = j
      · subst hj
        rw [List.getElem?_set_self hi] at z1; cases z1
      · rw [List.getElem?_set_ne hj] at z1
        exact hj (f.sep i j b b' (.lst ds) d' a e z1 h1 z2)
  refine ⟨⟨by rw [List.length_set]; exact f.len, f.tb, f.trk, fun j b' d' z => ?_, fun j b' d' z => ?_, fun j k b1 b2 d1 d2 c z1 z2 z3 z4 => ?_⟩, a, h1, rp⟩
  · by_cases hj : i = j
    · subst hj
      rw [List.getElem?_set_self hi] at z; cases z
      exact ⟨_, h1, rp⟩
    · rw [List.getElem?_set_ne hj] at z
      obtain ⟨v, e1, e2⟩ := f.sh j b' d' z
      exact ⟨v, e1, e2.lat lt⟩
  · by_cases hj : i = j
    · subst hj
      rw [List.getElem?_set_self hi] at z; cases z
    · rw [List.getElem?_set_ne hj] at z
      obtain ⟨a', e1, e2, e3⟩ := f.ow j b' d' z
      exact ⟨a', e1, e2, e3.lat lt rfl⟩
  · have n1 : i ≠ j := fun e => by
      subst e
      rw [List.getElem?_set_self hi] at z1; cases z1
    have n2 : i ≠ k := fun e => by
      subst e
      rw [List.getElem?_set_self hi] at z2; cases z2
    rw [List.getElem?_set_ne n1] at z1
    rw [List.getElem?_set_ne n2] at z2
    exact f.sep j k b1 b2 d1 d2 c z1 z2 z3 z4
theorem bk_set {q : Fm} {i : Nat} {t t' : Slot} (e : q[i]? = some t) (h : t'.isBor = true → t.isBor = true) : BK q (q.set i t') := by
  intro j ⟨u, h1, h2⟩
  by_cases hj : i = j
  · subst hj
    rw [List.getElem?_set_self (List.getElem?_eq_some_iff.mp e).1] at h1; cases h1
    exact ⟨t, e, h h2⟩
  · rw [List.getElem?_set_ne hj] at h1
    exact ⟨u, h1, h2⟩
theorem tE_var {i : Nat} {pk : Bool} {Q : VK} (h : tE Z K ex (.var i) pk s H Q) : tVar i s H Q := by
  obtain ⟨R0, q, f0, h⟩ := h
  unfold ev at h
  cases e : q[i]? with
  | none => rw [e] at h; exact h.elim
  | some t =>
    rw [e] at h
    cases t with
    | no => exact h.elim
    | pin => exact h.elim
    | sh b d =>
      obtain ⟨v, h1, h2⟩ := f0.sh i b d e
      exact ⟨v, h1, h v H (Lat.refl _ _) (BK.refl _) ⟨f0, h2⟩⟩
    | ow b d =>
      cases pk with
      | true =>
        obtain ⟨a, h1, _⟩ := f0.ow i b d e
        exact ⟨.ref a, h1, h _ H (Lat.refl _ _) (BK.refl _) ⟨f0, h1, b, d, e⟩⟩
      | false =>
        obtain ⟨f1, a, h1, h2⟩ := f0.demote e
        refine ⟨.ref a, h1, h _ H (Lat.sub fun c z => ow_demote z) (bk_set e fun z => z) ⟨f1, h2⟩⟩
theorem tE_tup {es : As} {pk : Bool} {Q : VK} (h : tE Z K ex (.tup es) pk s H Q) : tTup (tA Z K ex es) s H Q := by
  unfold tE at h
  rw [show ev K (.tup es) pk = fun q => bindR (evA K es q) fun ds q1 => if ds.length ≤ sizeLine then .ok (.val (.tup ds)) q1 else .bad from rfl] at h
  refine TR.bind h fun R0 q q1 a ws H1 f0 l b pp z => ?_
  obtain ⟨f1, p1⟩ := pp
  by_cases hz : a.length ≤ sizeLine
  · rw [if_pos hz] at z
    refine ⟨by rw [p1.length]; exact hz, fun p hp => ?_⟩
    have sm : Same H1 (upd H1 p (.tup ws)) := same_upd hp
    refine z _ _ (l.trans (Lat.same sm)) b ⟨f1.on sm (fun _ h => .inl h) fun b hb => (Lat.same (R := Ow s q) sm).tr b (f1.trk b hb), rep_new_tup (fun b hb => f1.rtT hb) hp p1⟩
  · rw [if_neg hz] at z; exact z.elim
theorem tE_lst {es : As} {pk : Bool} {Q : VK} (h : tE Z K ex (.lst es) pk s H Q) : tLst (tA Z K ex es) s H Q := by
  unfold tE at h
  rw [show ev K (.lst es) pk = fun q => bindR (evA K es q) fun ds q1 => if ds.length ≤ sizeLine then .ok (.new (.lst ds)) q1 else .bad from rfl] at h
  refine TR.bind h fun R0 q q1 a ws H1 f0 l b pp z => ?_
  obtain ⟨f1, p1⟩ := pp
  by_cases hz : a.length ≤ sizeLine
  · rw [if_pos hz] at z
    refine ⟨by rw [p1.length]; exact hz, fun p hp => ?_⟩
    have sm : Same H1 (upd H1 p (.lst ws)) := same_upd hp
    refine z _ _ (l.trans (Lat.same sm)) b ⟨p, rfl, l.new hp, f1.on sm (fun b hb => Or.elim hb .inl fun e => .inr (e ▸ hp)) (fun b hb => Or.elim hb (fun hb => (Lat.same (R := Ow s q) sm).tr b (f1.trk b hb)) fun e => ?_), a, ws, rfl, upd_same, p1.lat ((Lat.same sm).less fun b hb => ?_)⟩
    · rw [e, upd_same]; exact fun z => nomatch z
    · rcases hb with (hb | hb) | hb
      · exact .inl (.inl hb)
      · exact .inr (hb ▸ hp)
      · exact .inl (.inr hb)
  · rw [if_neg hz] at z; exact z.elim
theorem An.lateV {R0 : Pr} {q q1 : Fm} {H1 : Hp} {Q : VK} {r : Res RV} (l : Lat (Ow s q) H (Ow s q1) H1) (b : BK q q1) (h : An Z ex R0 s q H (PoV Z R0 s H) Q r) : An Z ex R0 s q1 H1 (PoV Z R0 s H1) Q r :=
  An.late l b (fun _ _ _ _ l2 p => p.early l) h
theorem tE_ife {t : T} {a b : E} {pk : Bool} {Q : VK} (h : tE Z K ex (.ife t a b) pk s H Q) : tIf (tT Z K ex t) (tE Z K ex a false) (tE Z K ex b false) s H Q := by
  unfold tE at h
  rw [show ev K (.ife t a b) pk = fun q => bindR (evT K t q) fun c q1 => if c then ev K a false q1 else ev K b false q1 from rfl] at h
  refine TR.bind h fun R0 q q1 c w H1 f0 l bk pp z => ?_
  obtain ⟨f1, rfl⟩ := pp
  cases w with
  | true => exact ⟨R0, q1, f1, An.lateV l bk z⟩
  | false => exact ⟨R0, q1, f1, An.lateV l bk z⟩
theorem rep_bl {R : Pr} {w : V} {b : Bool} (h : Rep Z H R w (.bl b)) : w = .bl b := by cases h; rfl
theorem tE_andV {a b : E} {pk : Bool} {Q : VK} (h : tE Z K ex (.andV a b) pk s H Q) : tAndV (tE Z K ex a true) (tE Z K ex b false) s H Q := by
  unfold tE at h
  rw [show ev K (.andV a b) pk = fun q => bindR (ev K a true q) fun r q1 => match r with
    | .val (.bl true) => ev K b false q1
    | .val (.bl false) => .ok (.val (.bl false)) q1
    | _ => .bad from rfl] at h
  refine TR.bind h fun R0 q q1 c w H1 f0 l bk pp z => ?_
  cases c with
  | val d =>
    cases d with
    | bl k =>
      obtain ⟨f1, r⟩ := pp
      cases k with
      | true => exact ⟨true, rep_bl r, ⟨R0, q1, f1, An.lateV l bk z⟩⟩
      | false => exact ⟨false, rep_bl r, z _ H1 l bk ⟨f1, .bl _⟩⟩
    | _ => exact z.elim
  | _ => exact z.elim
theorem tru_of {R : Pr} {w : V} {d : D} {c : Bool} (h : RepP Z H R w d) (e : truD d = some c) : TruV Z.K w H c := by
  cases d <;> first | (cases e; done) | skip
  · cases e; rw [h.non]; rfl
  · cases e; rw [h.bl]; rfl
  · cases e; rw [h.int]; rfl
  · rename_i z
    simp only [truD] at e
    split at e
    · rename_i hz
      cases e
      rw [h.str]
      refine ⟨hz, ?_⟩
      cases hl : z.length with
      | zero => rfl
      | succ n =>
        have : ((n + 1 : Nat) : Int) ≠ 0 := by omega
        rw [show ((n + 1 : Nat) != 0) = true from rfl]
        exact (bne_iff_ne.mpr this).symm
    · cases e
  · cases e
    obtain ⟨a, xs, rfl, h1, h2⟩ := h.tup
    refine .inr (.inl ⟨xs, h1.sq, ?_⟩)
    cases h2 <;> rfl
  · cases e
    obtain ⟨a, xs, rfl, h1, h2⟩ := h.lst
    refine .inl ⟨xs, h1, ?_⟩
    cases h2 <;> rfl
/-- a value's truth -/
theorem pov_tru {R0 : Pr} {q q1 : Fm} {w : V} {r : RV} {d : D} {H1 : Hp} (f0 : FR Z R0 s q H) (p : PoV Z R0 s H q1 H1 w r) (e : r.at_ q1 = some d) : FR Z R0 s q1 H1 ∧ RepP Z H1 (Rt R0 s q1) w d := by
  obtain ⟨f1, p1⟩ := p.down f0
  refine ⟨f1, RepR.atP f1 p1 ?_⟩
  rw [← e]
  cases r <;> rfl
theorem tE_notV {a : E} {pk : Bool} {Q : VK} (h : tE Z K ex (.notV a) pk s H Q) : tNotT Z.K (tE Z K ex a true) s H Q := by
  unfold tE at h
  rw [show ev K (.notV a) pk = fun q => bindR (ev K a true q) fun r q1 => match r.at_ q1 with
    | some d => match truD d with
      | some c => .ok (.val (.bl (!c))) q1
      | none => .bad
    | none => .bad from rfl] at h
  refine TR.bind h fun R0 q q1 c w H1 f0 l bk pp z => ?_
  cases e : c.at_ q1 with
  | none => rw [e] at z; exact z.elim
  | some d =>
    rw [e] at z
    dsimp only at z
    cases e2 : truD d with
    | none => rw [e2] at z; exact z.elim
    | some k =>
      rw [e2] at z
      obtain ⟨f1, rp⟩ := pov_tru f0 pp e
      exact ⟨k, tru_of rp e2, z _ H1 l bk ⟨f1, .bl _⟩⟩
theorem tT_val {e : E} {Q : Bool → Hp → Prop} (h : tT Z K ex (.val e) s H Q) : tE Z K ex e true s H fun x H' => ∃ k, TruV Z.K x H' k ∧ Q k H' := by
  unfold tT at h
  rw [show evT K (.val e) = fun q => bindR (ev K e true q) fun r q1 => match r.at_ q1 with
    | some d => match truD d with
      | some c => .ok c q1
      | none => .bad
    | none => .bad from rfl] at h
  refine TR.bind h fun R0 q q1 c w H1 f0 l bk pp z => ?_
  cases e : c.at_ q1 with
  | none => rw [e] at z; exact z.elim
  | some d =>
    rw [e] at z
    dsimp only at z
    cases e2 : truD d with
    | none => rw [e2] at z; exact z.elim
    | some k =>
      rw [e2] at z
      obtain ⟨f1, rp⟩ := pov_tru f0 pp e
      exact ⟨k, tru_of rp e2, z k H1 l bk ⟨f1, rfl⟩⟩
theorem tT_yes {Q : Bool → Hp → Prop} (h : tT Z K ex .yes s H Q) : Q true H := by
  obtain ⟨R0, q, f0, h⟩ := h
  exact h true H (Lat.refl _ _) (BK.refl _) ⟨f0, rfl⟩
theorem tT_all {a b : T} {Q : Bool → Hp → Prop} (h : tT Z K ex (.all a b) s H Q) : tAnd (tT Z K ex a) (tT Z K ex b) s H Q := by
  unfold tT at h
  rw [show evT K (.all a b) = fun q => bindR (evT K a q) fun c q1 => if c then evT K b q1 else .ok false q1 from rfl] at h
  refine TR.bind h fun R0 q q1 c w H1 f0 l bk pp z => ?_
  obtain ⟨f1, rfl⟩ := pp
  cases w with
  | true => exact ⟨R0, q1, f1, An.late (Po' := PoB Z R0 s H1) l bk (fun _ _ _ _ _ p => p) z⟩
  | false => exact z false H1 l bk ⟨f1, rfl⟩
theorem tT_any {a b : T} {Q : Bool → Hp → Prop} (h : tT Z K ex (.any a b) s H Q) : tOr (tT Z K ex a) (tT Z K ex b) s H Q := by
  unfold tT at h
  rw [show evT K (.any a b) = fun q => bindR (evT K a q) fun c q1 => if c then .ok true q1 else evT K b q1 from rfl] at h
  refine TR.bind h fun R0 q q1 c w H1 f0 l bk pp z => ?_
  obtain ⟨f1, rfl⟩ := pp
  cases w with
  | false => exact ⟨R0, q1, f1, An.late (Po' := PoB Z R0 s H1) l bk (fun _ _ _ _ _ p => p) z⟩
  | true => exact z true H1 l bk ⟨f1, rfl⟩
theorem tT_not {a : T} {Q : Bool → Hp → Prop} (h : tT Z K ex (.not a) s H Q) : tNot (tT Z K ex a) s H Q := by
  unfold tT at h
  rw [show evT K (.not a) = fun q => bindR (evT K a q) fun c q1 => .ok (!c) q1 from rfl] at h
  refine TR.bind h fun R0 q q1 c w H1 f0 l bk pp z => ?_
  obtain ⟨f1, rfl⟩ := pp
  exact z (!w) H1 l bk ⟨f1, rfl⟩
/-- the operands of one, two, three places -/
theorem tEs1 {a : E} {Q : List V → Hp → Prop} (h : tEs Z K ex (.cons a .nil) s H Q) : tE Z K ex a true s H fun x H1 => Q [x] H1 :=
  (tEs_cons h).mono fun _ _ z => tEs_nil z
theorem tEs2 {a b : E} {Q : List V → Hp → Prop} (h : tEs Z K ex (.cons a (.cons b .nil)) s H Q) : tE Z K ex a true s H fun x H1 => tE Z K ex b true s H1 fun y H2 => Q [x, y] H2 :=
  (tEs_cons h).mono fun _ _ z => tEs1 z
theorem tEs3 {a b c : E} {Q : List V → Hp → Prop} (h : tEs Z K ex (.cons a (.cons b (.cons c .nil))) s H Q) : tE Z K ex a true s H fun x H1 => tE Z K ex b true s H1 fun y H2 => tE Z K ex c true s H2 fun z H3 => Q [x, y, z] H3 :=
  (tEs_cons h).mono fun _ _ z => tEs2 z
end
end M

set_option Elab.async false
set_option linter.all false
set_option maxRecDepth 100000
set_option maxHeartbeats 4000000
/-! A8: calls: arguments, what is lent and given back. -/
namespace M
open PySem L2 PyProof.Rows

/-- what a def promises: that it does what the evaluator tells -/
def spF (Z : Zc) (K : Calls) (f : Nat) : Sp := fun vs H Q E => TR Z E (fun q => noSlot (K.fn f q)) (PoV Z) (vs.map some) H Q
def GaR (Z : Zc) (H : Hp) (R0 : Pr) (s : Sg) (q : Fm) : List V → List Ga → Prop
  | [], [] => True
  | w :: ws, .v d :: gs => Rep Z H (Rt R0 s q) w d ∧ GaR Z H R0 s q ws gs
  | w :: ws, .b i :: gs => s[i]? = some (some w) ∧ GaR Z H R0 s q ws gs
  | _, _ => False
def PoG (Z : Zc) (R0 : Pr) (s : Sg) (H : Hp) (q' : Fm) (H' : Hp) (ws : List V) (gs : List Ga) : Prop := FR Z R0 s q' H' ∧ GaR Z H' R0 s q' ws gs
def tGs (Z : Zc) (K : Calls) (ex : XK) (g : Gs) : TA := TR Z ex (evG K g) (PoG Z)
theorem GaR.lat {Z : Zc} {H H' : Hp} {R0 : Pr} {s : Sg} {q q' : Fm} (l : Lat (Ow s q) H (Ow s q') H') : ∀ {ws : List V} {gs : List Ga}, GaR Z H R0 s q ws gs → GaR Z H' R0 s q' ws gs
  | [], [], _ => True.intro
  | w :: ws, .v d :: gs, h => ⟨Rep.lat (lat_rt l) h.1, GaR.lat l h.2⟩
  | w :: ws, .b i :: gs, h => ⟨h.1, GaR.lat l h.2⟩
  | [], _ :: _, h => h.elim
  | _ :: _, [], h => h.elim
section
variable {Z : Zc} {K : Calls} {ex : XK} {s : Sg} {H : Hp}
theorem tGs_nil {Q : List V → Hp → Prop} (h : tGs Z K ex .nil s H Q) : tNil s H Q := by
  obtain ⟨R0, q, f0, h⟩ := h
  unfold evG at h
  exact h [] H (Lat.refl _ _) (BK.refl _) ⟨f0, True.intro⟩
theorem tGs_v {e : E} {r : Gs} {Q : List V → Hp → Prop} (h : tGs Z K ex (.v e r) s H Q) : tCons (tE Z K ex e false) (tGs Z K ex r) s H Q := by
  unfold tGs at h
  rw [show evG K (.v e r) = fun q => bindR (ev K e false q) fun x q1 => match x.vd with
    | some d => bindR (evG K r q1) fun l q2 => .ok (.v d :: l) q2
    | none => .bad from rfl] at h
  refine TR.bind h fun R0 q q1 a w H1 f0 l b p z => ?_
  cases e1 : a.vd with
  | none => rw [e1] at z; exact z.elim
  | some d =>
    rw [e1] at z
    obtain ⟨f1, p1⟩ := p.vd f0 e1
    refine ⟨R0, q1, f1, (An.late (Po' := PoG Z R0 s H1) l b (fun _ _ _ _ _ p => p) z).bind fun q2 ws H2 rs _ l2 b2 p2 z2 => ?_⟩
    exact z2 (w :: ws) H2 l2 b2 ⟨p2.1, p1.lat (lat_rt l2), p2.2⟩
theorem tGs_b {i : Nat} {r : Gs} {Q : List V → Hp → Prop} (h : tGs Z K ex (.b i r) s H Q) : tCons (tVar i) (tGs Z K ex r) s H Q := by
  obtain ⟨R0, q, f0, h⟩ := h
  rw [show evG K (.b i r) q = (match q[i]? with
    | some (.ow _ _) => bindR (evG K r q) fun l q1 => .ok (.b i :: l) q1
    | _ => .bad) from rfl] at h
  cases e : q[i]? with
  | none => rw [e] at h; exact h.elim
  | some t =>
    rw [e] at h
    cases t with
    | no => exact h.elim
    | pin => exact h.elim
    | sh _ _ => exact h.elim
    | ow b d =>
      obtain ⟨a, h1, _⟩ := f0.ow i b d e
      refine ⟨.ref a, h1, R0, q, f0, h.bind fun q1 ws H1 rs _ l b p z => ?_⟩
      exact z (.ref a :: ws) H1 l b ⟨p.1, h1, p.2⟩
end
/-! ### giving back -/
theorem gb_len : ∀ {gs : List Ga} {as q : Fm}, (giveBack gs as q).length = q.length
  | [], _, _ => rfl
  | .v _ :: r, [], _ => rfl
  | .v _ :: r, _ :: l, _ => gb_len (gs := r)
  | .b _ :: r, [], _ => rfl
  | .b _ :: r, _ :: l, q => by rw [giveBack, gb_len (gs := r), List.length_set]
theorem gb_other : ∀ {gs : List Ga} {as q : Fm} {i : Nat}, i ∉ lentIx gs → (giveBack gs as q)[i]? = q[i]?
  | [], _, _, _, _ => rfl
  | .v _ :: r, [], _, _, _ => rfl
  | .v _ :: r, _ :: l, q, i, h => by rw [giveBack]; exact gb_other (gs := r) h
  | .b _ :: r, [], _, _, _ => rfl
  | .b j :: r, t :: l, q, i, h => by
    have h1 : i ≠ j ∧ i ∉ lentIx r := by simpa [lentIx] using h
    rw [giveBack, gb_other (gs := r) h1.2, List.getElem?_set_ne (Ne.symm h1.1)]
theorem gb_at : ∀ {gs : List Ga} {as q : Fm} {k i : Nat} {t : Slot}, (lentIx gs).Nodup → gs[k]? = some (.b i) → as[k]? = some t → i < q.length → (giveBack gs as q)[i]? = some (t.bors (q.getD i .no).isBor)
  | [], _, _, _, _, _, _, h, _, _ => by simp at h
  | .v _ :: r, [], _, _, _, _, _, _, h, _ => by simp at h
  | .v d :: r, u :: l, q, k, i, t, nd, h1, h2, hi => by
    cases k with
    | zero => simp at h1
    | succ k =>
      rw [giveBack]
      exact gb_at (gs := r) nd (by simpa using h1) (by simpa using h2) hi
  | .b _ :: r, [], _, _, _, _, _, _, h, _ => by simp at h
  | .b j :: r, u :: l, q, k, i, t, nd, h1, h2, hi => by
    have nd' : j ∉ lentIx r ∧ (lentIx r).Nodup := by simpa [lentIx] using nd
    rw [giveBack]
    cases k with
    | zero =>
      have e1 : j = i := by simpa using h1
      have e2 : u = t := by simpa using h2
      subst e1 e2
      rw [gb_other nd'.1, List.getElem?_set_self hi]
    | succ k =>
      have h1' : r[k]? = some (.b i) := by simpa using h1
      have hj : j ≠ i := by
        rintro rfl
        exact nd'.1 (lentIx_mem h1')
      rw [gb_at (gs := r) nd'.2 h1' (by simpa using h2) (by rw [List.length_set]; exact hi)]
      have : List.getD (List.set q j (u.bors (List.getD q j Slot.no).isBor)) i Slot.no = List.getD q i Slot.no := by
        simp only [List.getD_eq_getElem?_getD, List.getElem?_set_ne hj]
      rw [this]
where
  lentIx_mem : ∀ {r : List Ga} {k i : Nat}, r[k]? = some (.b i) → i ∈ lentIx r
    | [], _, _, h => by simp at h
    | .v _ :: r, 0, _, h => by simp at h
    | .v _ :: r, k + 1, i, h => by
      rw [lentIx]; exact lentIx_mem (by simpa using h)
    | .b j :: r, 0, i, h => by
      have e : j = i := by simpa using h
      subst e; simp [lentIx]
    | .b j :: r, k + 1, i, h => by
      have := lentIx_mem (r := r) (k := k) (i := i) (by simpa using h)
      simp [lentIx, this]
theorem lentIx_mem {r : List Ga} {k i : Nat} (h : r[k]? = some (Ga.b i)) : i ∈ lentIx r := gb_at.lentIx_mem h
theorem lentIx_at : ∀ {r : List Ga} {i : Nat}, i ∈ lentIx r → ∃ k : Nat, r[k]? = some (Ga.b i)
  | [], _, h => by simp [lentIx] at h
  | .v _ :: r, i, h => by
    obtain ⟨k, hk⟩ := lentIx_at (r := r) (by simpa [lentIx] using h)
    exact ⟨k + 1, by simpa using hk⟩
  | .b j :: r, i, h => by
    have h' : i = j ∨ i ∈ lentIx r := by simpa [lentIx] using h
    rcases h' with rfl | h'
    · exact ⟨0, by simp⟩
    · obtain ⟨k, hk⟩ := lentIx_at h'
      exact ⟨k + 1, by simpa using hk⟩
theorem lent_len : ∀ {gs : List Ga} {q as : Fm}, lent q gs = some as → as.length = gs.length
  | [], _, _, h => by cases h; rfl
  | .v d :: r, q, as, h => by
    unfold lent at h
    cases e : lent q r with
    | none => rw [e] at h; cases h
    | some l => rw [e] at h; cases h; simp [lent_len e]
  | .b i :: r, q, as, h => by
    unfold lent at h
    split at h
    · rename_i b d l e1 e2
      cases h; simp [lent_len e2]
    · cases h
/-- what is lent, place by place -/
theorem lent_at : ∀ {gs : List Ga} {q as : Fm} {k : Nat} {t : Slot}, lent q gs = some as → as[k]? = some t → (∃ d, gs[k]? = some (.v d) ∧ t = .sh false d) ∨ (∃ i b d, gs[k]? = some (.b i) ∧ q[i]? = some (.ow b d) ∧ t = .ow true d)
  | [], _, _, _, _, h, e => by cases h; simp at e
  | .v d :: r, q, as, k, t, h, e => by
    unfold lent at h
    cases e2 : lent q r with
    | none => rw [e2] at h; cases h
    | some l =>
      rw [e2] at h; cases h
      cases k with
      | zero => exact .inl ⟨d, by simp, by simpa using e.symm⟩
      | succ k => simpa using lent_at (k := k) e2 (by simpa using e)
  | .b i :: r, q, as, k, t, h, e => by
    unfold lent at h
    split at h
    · rename_i b d l e1 e2
      cases h
      cases k with
      | zero => exact .inr ⟨i, b, d, by simp, e1, by simpa using e.symm⟩
      | succ k => simpa using lent_at (k := k) e2 (by simpa using e)
    · cases h
theorem GaR.len {Z : Zc} {H : Hp} {R0 : Pr} {s : Sg} {q : Fm} : ∀ {ws : List V} {gs : List Ga}, GaR Z H R0 s q ws gs → ws.length = gs.length
  | [], [], _ => rfl
  | w :: ws, .v d :: gs, h => by simp [GaR.len h.2]
  | w :: ws, .b i :: gs, h => by simp [GaR.len h.2]
  | [], _ :: _, h => h.elim
  | _ :: _, [], h => h.elim
theorem GaR.at_v {Z : Zc} {H : Hp} {R0 : Pr} {s : Sg} {q : Fm} : ∀ {ws : List V} {gs : List Ga} {k : Nat} {d : D}, GaR Z H R0 s q ws gs → gs[k]? = some (.v d) → ∃ w, ws[k]? = some w ∧ Rep Z H (Rt R0 s q) w d
  | [], [], _, _, _, e => by simp at e
  | w :: ws, .v d :: gs, 0, _, h, e => by simp at e; subst e; exact ⟨w, rfl, h.1⟩
  | w :: ws, .v d :: gs, k + 1, _, h, e => by simpa using GaR.at_v (k := k) h.2 (by simpa using e)
  | w :: ws, .b i :: gs, 0, _, h, e => by simp at e
  | w :: ws, .b i :: gs, k + 1, _, h, e => by simpa using GaR.at_v (k := k) h.2 (by simpa using e)
  | [], _ :: _, _, _, h, _ => h.elim
  | _ :: _, [], _, _, h, _ => h.elim
theorem GaR.at_b {Z : Zc} {H : Hp} {R0 : Pr} {s : Sg} {q : Fm} : ∀ {ws : List V} {gs : List Ga} {k i : Nat}, GaR Z H R0 s q ws gs → gs[k]? = some (.b i) → ∃ w, ws[k]? = some w ∧ s[i]? = some (some w)
  | [], [], _, _, _, e => by simp at e
  | w :: ws, .v d :: gs, 0, _, h, e => by simp at e
  | w :: ws, .v d :: gs, k + 1, _, h, e => by simpa using GaR.at_b (k := k) h.2 (by simpa using e)
  | w :: ws, .b i :: gs, 0, _, h, e => by simp at e; subst e; exact ⟨w, rfl, h.1⟩
  | w :: ws, .b i :: gs, k + 1, _, h, e => by simpa using GaR.at_b (k := k) h.2 (by simpa using e)
  | [], _ :: _, _, _, h, _ => h.elim
  | _ :: _, [], _, _, h, _ => h.elim
/-- what the callee may not lean on -/
def R0c (R0 : Pr) (s : Sg) (q : Fm) (gs : List Ga) : Pr := fun b => R0 b ∨ ∃ (i : Nat) (b' : Bool) (d : D), i ∉ lentIx gs ∧ q[i]? = some (.ow b' d) ∧ s[i]? = some (some (.ref b))
theorem mget {vs : List V} {k : Nat} {v : V} (h : vs[k]? = some v) : (vs.map some)[k]? = some (some v) := by rw [List.getElem?_map, h]; rfl
theorem mget' {vs : List V} {k : Nat} {v : V} (h : (vs.map some)[k]? = some (some v)) : vs[k]? = some v := by
  rw [List.getElem?_map] at h
  cases e : vs[k]? with
  | none => rw [e] at h; cases h
  | some x => rw [e] at h; cases h; rfl
section
variable {Z : Zc} {K : Calls} {ex : XK} {s : Sg} {H H' : Hp} {R0 : Pr} {q : Fm} {gs : List Ga} {ws : List V} {as : Fm}
/-- the callee's frame at the start -/
theorem lend (f : FR Z R0 s q H) (g : GaR Z H R0 s q ws gs) (nd : (lentIx gs).Nodup) (hl : lent q gs = some as) : FR Z (R0c R0 s q gs) (ws.map some) as H := by
  have lt : Lat (Rt R0 s q) H (Rt (R0c R0 s q gs) (ws.map some) as) H := Lat.sub fun b z => by
    rcases z with (z | ⟨i, b', d, _, z1, z2⟩) | ⟨k, b', d, z1, z2⟩
    · exact .inl z
    · exact .inr ⟨i, b', d, z1, z2⟩
    · rcases lent_at hl z1 with ⟨d', e1, e2⟩ | ⟨i, b2, d2, e1, e2, e3⟩
      · cases e2
      · obtain ⟨w, h1, h2⟩ := g.at_b e1
        have := mget' z2
        rw [h1] at this; cases this
        exact .inr ⟨i, b2, d2, e2, h2⟩
  refine ⟨by rw [List.length_map, g.len, lent_len hl], f.tb, fun b z => ?_, fun k b d e => ?_, fun k b d e => ?_, fun k k' b b' d d' a e e' h1 h2 => ?_⟩
  · rcases z with z | ⟨i, b', d, _, z1, z2⟩
    · exact f.trk b z
    · obtain ⟨xs, e⟩ := f.owT ⟨i, b', d, z1, z2⟩
      rw [e]; exact fun z => nomatch z
  · rcases lent_at hl e with ⟨d', e1, e2⟩ | ⟨i, b2, d2, e1, e2, e3⟩
    · cases e2
      obtain ⟨w, h1, h2⟩ := g.at_v e1
      exact ⟨w, mget h1, h2.lat lt⟩
    · cases e3
  · rcases lent_at hl e with ⟨d', e1, e2⟩ | ⟨i, b2, d2, e1, e2, e3⟩
    · cases e2
    · cases e3
      obtain ⟨w, h1, h2⟩ := g.at_b e1
      obtain ⟨a, z1, z2, z3⟩ := f.ow i b2 d e2
      rw [h2] at z1; cases z1
      refine ⟨a, mget h1, fun z => ?_, z3.lat lt rfl⟩
      rcases z with z | ⟨j, b3, d3, nj, y1, y2⟩
      · exact z2 z
      · exact nj ((f.sep j i b3 b2 d3 d a y1 e2 y2 h2) ▸ lentIx_mem e1)
  · rcases lent_at hl e with ⟨_, _, e2⟩ | ⟨i, b2, d2, e1, e2, e3⟩
    · cases e2
    · rcases lent_at hl e' with ⟨_, _, e2'⟩ | ⟨i', b2', d2', e1', e2', e3'⟩
      · cases e2'
      · obtain ⟨w, y1, y2⟩ := g.at_b e1
        obtain ⟨w', y1', y2'⟩ := g.at_b e1'
        have t1 := mget' h1
        have t2 := mget' h2
        rw [y1] at t1; cases t1
        rw [y1'] at t2; cases t2
        have ei := f.sep i i' b2 b2' d2 d2' a e2 e2' y2 y2'
        subst ei
        exact nodup_lent nd e1 e1'
where
  nodup_lent : ∀ {gs : List Ga} {k k' i : Nat}, (lentIx gs).Nodup → gs[k]? = some (.b i) → gs[k']? = some (.b i) → k = k'
    | [], _, _, _, _, h, _ => by simp at h
    | .v _ :: r, 0, _, _, _, h, _ => by simp at h
    | .v _ :: r, _ + 1, 0, _, _, _, h => by simp at h
    | .v _ :: r, k + 1, k' + 1, i, nd, h, h' => by
      have := nodup_lent (gs := r) (k := k) (k' := k') nd (by simpa using h) (by simpa using h')
      omega
    | .b j :: r, 0, 0, i, nd, h, h' => rfl
    | .b j :: r, 0, k' + 1, i, nd, h, h' => by
      have nd' : j ∉ lentIx r ∧ (lentIx r).Nodup := by simpa [lentIx] using nd
      have e : j = i := by simpa using h
      subst e
      exact absurd (lentIx_mem (r := r) (k := k') (by simpa using h')) nd'.1
    | .b j :: r, k + 1, 0, i, nd, h, h' => by
      have nd' : j ∉ lentIx r ∧ (lentIx r).Nodup := by simpa [lentIx] using nd
      have e : j = i := by simpa using h'
      subst e
      exact absurd (lentIx_mem (r := r) (k := k) (by simpa using h)) nd'.1
    | .b j :: r, k + 1, k' + 1, i, nd, h, h' => by
      have nd' : j ∉ lentIx r ∧ (lentIx r).Nodup := by simpa [lentIx] using nd
      have := nodup_lent (gs := r) (k := k) (k' := k') nd'.2 (by simpa using h) (by simpa using h')
      omega
/-- behind the call: the caller's frame -/
theorem gb_cases {q1 : Fm} (nd : (lentIx gs).Nodup) (g : GaR Z H R0 s q ws gs) (hl : lent q gs = some as) (la : q1.length = ws.length) {i : Nat} {t : Slot} (h : (giveBack gs q1 q)[i]? = some t) :
    (i ∉ lentIx gs ∧ q[i]? = some t) ∨ (∃ (k : Nat) (t0 : Slot) (b : Bool) (w : V) (d : D) (b0 : Bool), gs[k]? = some (Ga.b i) ∧ as[k]? = some (Slot.ow true d) ∧ q1[k]? = some t0 ∧ t = t0.bors b ∧ ws[k]? = some w ∧ s[i]? = some (some w) ∧ q[i]? = some (.ow b0 d) ∧ b = b0) := by
  by_cases hi : i ∈ lentIx gs
  · obtain ⟨k, hk⟩ := lentIx_at hi
    have hlt : k < gs.length := (List.getElem?_eq_some_iff.mp hk).1
    have e1 : k < q1.length := by rw [la, g.len]; exact hlt
    have hiq : i < q.length := by
      have := (List.getElem?_eq_some_iff.mp h).1
      rwa [gb_len] at this
    have e2 := gb_at (q := q) nd hk (show q1[k]? = some q1[k] by simp [e1]) hiq
    rw [h] at e2; cases e2
    obtain ⟨w, y1, y2⟩ := g.at_b hk
    have e3 : k < as.length := by rw [lent_len hl]; exact hlt
    rcases lent_at hl (show as[k]? = some as[k] by simp [e3]) with ⟨d, z1, _⟩ | ⟨i', b, d, z1, z2, z3⟩
    · rw [hk] at z1; cases z1
    · rw [hk] at z1; cases z1
      refine .inr ⟨k, _, _, w, d, b, hk, by rw [← z3]; simp [e3], by simp [e1], rfl, y1, y2, z2, ?_⟩
      rw [List.getD_eq_getElem?_getD, z2]; rfl
  · rw [gb_other hi] at h
    exact .inl ⟨hi, h⟩
theorem bors_ow {t : Slot} {b b' : Bool} {d : D} (h : t.bors b = .ow b' d) : ∃ b2, t = .ow b2 d := by
  cases t with
  | no => cases h
  | pin => cases h
  | sh _ _ => cases h
  | ow b2 _ => cases h; exact ⟨b2, rfl⟩
theorem bors_sh {t : Slot} {b b' : Bool} {d : D} (h : t.bors b = .sh b' d) : ∃ b2, t = .sh b2 d := by
  cases t with
  | no => cases h
  | pin => cases h
  | sh b2 _ => cases h; exact ⟨b2, rfl⟩
  | ow _ _ => cases h
theorem gb_ow {q1 : Fm} (nd : (lentIx gs).Nodup) (g : GaR Z H R0 s q ws gs) (hl : lent q gs = some as) (la : q1.length = ws.length) {b : Addr} (h : Ow s (giveBack gs q1 q) b) :
    (∃ (i : Nat) (b' : Bool) (d : D), i ∉ lentIx gs ∧ q[i]? = some (.ow b' d) ∧ s[i]? = some (some (.ref b))) ∨ Ow (ws.map some) q1 b := by
  obtain ⟨i, b', d, h1, h2⟩ := h
  rcases gb_cases nd g hl la h1 with ⟨n, e⟩ | ⟨k, t0, bb, w, d0, b0, e1, e2, e3, e4, e5, e6, e7, _⟩
  · exact .inl ⟨i, b', d, n, e, h2⟩
  · obtain ⟨b2, rfl⟩ := bors_ow e4.symm
    rw [h2] at e6; cases e6
    exact .inr ⟨k, b2, d, e3, mget e5⟩
theorem gb_lat {q1 : Fm} (f : FR Z R0 s q H) (nd : (lentIx gs).Nodup) (g : GaR Z H R0 s q ws gs) (hl : lent q gs = some as) (la : q1.length = ws.length) (l : Lat (Ow (ws.map some) as) H (Ow (ws.map some) q1) H') : Lat (Ow s q) H (Ow s (giveBack gs q1 q)) H' := by
  refine ⟨fun b o h n => l.kp b o h fun z => n (ow_up z), fun b z => ?_, l.tr⟩
  rcases gb_ow nd g hl la z with ⟨i, b', d, _, z1, z2⟩ | z
  · exact .inl ⟨i, b', d, z1, z2⟩
  · exact Or.elim (l.nw b z) (fun z => .inl (ow_up z)) .inr
where
  ow_up : ∀ {b : Addr}, Ow (ws.map some) as b → Ow s q b := fun {b} z => by
    obtain ⟨k, b', d, z1, z2⟩ := z
    rcases lent_at hl z1 with ⟨_, _, e2⟩ | ⟨i, b2, d2, e1, e2, e3⟩
    · cases e2
    · obtain ⟨w, y1, y2⟩ := g.at_b e1
      have := mget' z2
      rw [y1] at this; cases this
      exact ⟨i, b2, d2, e2, y2⟩
/-- xa: new places that the callee's answer owns -/
theorem gb_fr {q1 : Fm} {R1 R1c : Pr} (f : FR Z R0 s q H) (nd : (lentIx gs).Nodup) (g : GaR Z H R0 s q ws gs) (hl : lent q gs = some as) (l : Lat (Ow (ws.map some) as) H (Ow (ws.map some) q1) H')
    (fc : FR Z R1c (ws.map some) q1 H') (h0 : ∀ b, R1 b → R0 b ∨ H b = none) (hc : ∀ b, R1 b → R1c b) (hcc : ∀ b, R0c R0 s q gs b → R1c b) :
    FR Z R1 s (giveBack gs q1 q) H' ∧ ∀ b, Rt R1 s (giveBack gs q1 q) b → Rt R1c (ws.map some) q1 b := by
  have la : q1.length = ws.length := by rw [← fc.len, List.length_map]
  have up : ∀ b, Rt R1 s (giveBack gs q1 q) b → Rt R1c (ws.map some) q1 b := fun b z => by
    rcases z with z | z
    · exact .inl (hc b z)
    · rcases gb_ow nd g hl la z with z | z
      · exact .inl (hcc b (.inr z))
      · exact .inr z
  have lg := gb_lat f nd g hl la l
  have lr : Lat (Rt R0 s q) H (Rt R1 s (giveBack gs q1 q)) H' := (lg.more (S := R0)).less fun b z => by
    rcases z with z | z
    · exact Or.elim (h0 b z) (fun z => .inl (.inl z)) .inr
    · exact .inl (.inr z)
  have lu : Lat (Rt R1c (ws.map some) q1) H' (Rt R1 s (giveBack gs q1 q)) H' := Lat.sub up
  refine ⟨⟨by rw [gb_len]; exact f.len, fc.tb, fun b z => fc.trk b (hc b z), fun i b d e => ?_, fun i b d e => ?_, fun i j b b' d d' a e e' h1 h2 => ?_⟩, up⟩
  · rcases gb_cases nd g hl la e with ⟨n, e⟩ | ⟨k, t0, bb, w, d0, b0, e1, e2, e3, e4, e5, e6, e7, _⟩
    · obtain ⟨v, y1, y2⟩ := f.sh i b d e
      exact ⟨v, y1, y2.lat lr⟩
    · obtain ⟨b2, rfl⟩ := bors_sh e4.symm
      obtain ⟨v, y1, y2⟩ := fc.sh k b2 d e3
      have := mget' y1
      rw [e5] at this; cases this
      exact ⟨w, e6, y2.lat lu⟩
  · rcases gb_cases nd g hl la e with ⟨n, e⟩ | ⟨k, t0, bb, w, d0, b0, e1, e2, e3, e4, e5, e6, e7, _⟩
    · obtain ⟨a, y1, y2, ds, xs, y3, y4, y5⟩ := f.ow i b d e
      refine ⟨a, y1, fun z => Or.elim (h0 a z) y2 (fun z => by rw [y4] at z; cases z), ds, xs, y3, l.kp a _ y4 (fun z => ?_) (fun _ z => nomatch z), y5.lat lr⟩
      obtain ⟨k, b', d', z1, z2⟩ := z
      rcases lent_at hl z1 with ⟨_, _, e2⟩ | ⟨i', b2, d2, e1, e2, e3⟩
      · cases e2
      · obtain ⟨w, x1, x2⟩ := g.at_b e1
        have := mget' z2
        rw [x1] at this; cases this
        exact n ((f.sep i i' b b2 d d2 a e e2 y1 x2) ▸ lentIx_mem e1)
    · obtain ⟨b2, rfl⟩ := bors_ow e4.symm
      obtain ⟨a, y1, y2, y3⟩ := fc.ow k b2 d e3
      have := mget' y1
      rw [e5] at this; cases this
      exact ⟨a, e6, fun z => y2 (hc a z), y3.lat lu rfl⟩
  · rcases gb_cases nd g hl la e with ⟨n, e⟩ | ⟨k, t0, bb, w, d0, b0, e1, e2, e3, e4, e5, e6, e7, _⟩
    · rcases gb_cases nd g hl la e' with ⟨n', e'⟩ | ⟨k', t0', bb', w', d0', b0', e1', e2', e3', e4', e5', e6', e7', _⟩
      · exact f.sep i j b b' d d' a e e' h1 h2
      · obtain ⟨b2, rfl⟩ := bors_ow e4'.symm
        rw [h2] at e6'; cases e6'
        obtain ⟨a', y1, y2, _⟩ := fc.ow k' b2 d' e3'
        have := mget' y1
        rw [e5'] at this; cases this
        exact absurd (hcc a (.inr ⟨i, b, d, n, e, h1⟩)) y2
    · obtain ⟨b2, rfl⟩ := bors_ow e4.symm
      rw [h1] at e6; cases e6
      rcases gb_cases nd g hl la e' with ⟨n', e'⟩ | ⟨k', t0', bb', w', d0', b0', e1', e2', e3', e4', e5', e6', e7', _⟩
      · obtain ⟨a', y1, y2, _⟩ := fc.ow k b2 d e3
        have := mget' y1
        rw [e5] at this; cases this
        exact absurd (hcc a (.inr ⟨j, b', d', n', e', h2⟩)) y2
      · obtain ⟨b2', rfl⟩ := bors_ow e4'.symm
        rw [h2] at e6'; cases e6'
        have := fc.sep k k' b2 b2' d d' a e3 e3' (mget e5) (mget e5')
        subst this
        rw [e1] at e1'; cases e1'; rfl
theorem gb_bk {q1 : Fm} (nd : (lentIx gs).Nodup) (g : GaR Z H R0 s q ws gs) (hl : lent q gs = some as) (la : q1.length = ws.length) : BK q (giveBack gs q1 q) := by
  intro i ⟨t, h1, h2⟩
  rcases gb_cases nd g hl la h1 with ⟨n, e⟩ | ⟨k, t0, bb, w, d0, b0, e1, e2, e3, e4, e5, e6, e7, e8⟩
  · exact ⟨t, e, h2⟩
  · refine ⟨_, e7, ?_⟩
    subst e8 e4
    cases t0 with
    | no => cases h2
    | pin => cases h2
    | sh _ _ => exact h2
    | ow _ _ => exact h2
/-- a call: from the caller's answer to the promise's -/
theorem call_an {f : Nat} {Q : VK} (f0 : FR Z R0 s q H) (g : GaR Z H R0 s q ws gs) (h : An Z ex R0 s q H (PoV Z R0 s H) Q (callR K f gs q)) : spF Z K f ws H Q ex := by
  unfold callR at h
  by_cases nd : (lentIx gs).Nodup
  · rw [if_pos nd] at h
    cases hl : lent q gs with
    | none => rw [hl] at h; exact h.elim
    | some as =>
      rw [hl] at h
      dsimp only at h
      refine ⟨R0c R0 s q gs, as, lend f0 g nd hl, ?_⟩
      show An Z ex _ _ as H _ Q (noSlot (K.fn f as))
      cases hr : noSlot (K.fn f as) with
      | bad => rw [hr] at h; exact h.elim
      | exc c ds q1 =>
        rw [hr] at h
        intro d H1 l b fc x
        have la : q1.length = ws.length := by rw [← fc.len, List.length_map]
        obtain ⟨f1, up⟩ := gb_fr (R1 := R0) f0 nd g hl l fc (fun _ z => .inl z) (fun _ z => .inl z) (fun _ z => z)
        exact h d H1 (gb_lat f0 nd g hl la l) (gb_bk nd g hl la) f1 (x.lat (Lat.sub up))
      | ok r q1 =>
        rw [hr] at h
        intro w H1 l b p
        cases r with
        | slot i => 
          cases e : K.fn f as with
          | ok r2 q2 => rw [e] at hr; cases r2 <;> cases hr
          | exc _ _ _ => rw [e] at hr; cases hr
          | bad => rw [e] at hr; cases hr
        | val d =>
          obtain ⟨fc, rp⟩ := p
          have la : q1.length = ws.length := by rw [← fc.len, List.length_map]
          obtain ⟨f1, up⟩ := gb_fr (R1 := R0) f0 nd g hl l fc (fun _ z => .inl z) (fun _ z => .inl z) (fun _ z => z)
          exact h w H1 (gb_lat f0 nd g hl la l) (gb_bk nd g hl la) ⟨f1, rp.lat (Lat.sub up)⟩
        | new d =>
          obtain ⟨a, ew, hn, fc, o⟩ := p
          have la : q1.length = ws.length := by rw [← fc.len, List.length_map]
          obtain ⟨f1, up⟩ := gb_fr (R1 := P1 R0 a) f0 nd g hl l fc (fun _ z => Or.elim z .inl fun e => .inr (e ▸ hn)) (fun _ z => Or.elim z (fun z => .inl (.inl z)) .inr) (fun _ z => .inl z)
          exact h w H1 (gb_lat f0 nd g hl la l) (gb_bk nd g hl la) ⟨a, ew, hn, f1, o.lat (Lat.sub up) rfl⟩
  · rw [if_neg nd] at h; exact h.elim
end
section
variable {Z : Zc} {K : Calls} {ex : XK} {s : Sg} {H : Hp}
theorem lateV' {R0 : Pr} {q q1 : Fm} {H1 : Hp} {Q : VK} {r : Res RV} (l : Lat (Ow s q) H (Ow s q1) H1) (b : BK q q1) (h : An Z ex R0 s q H (PoV Z R0 s H) Q r) : An Z ex R0 s q1 H1 (PoV Z R0 s H1) Q r :=
  An.late l b (fun _ _ _ _ l2 p => p.early l) h
theorem tE_call {f : Nat} {gs : Gs} {pk : Bool} {Q : VK} (h : tE Z K ex (.call f gs) pk s H Q) : tGs Z K ex gs s H fun vs H1 => spF Z K f vs H1 Q ex := by
  unfold tE at h
  rw [show ev K (.call f gs) pk = fun q => bindR (evG K gs q) fun l q1 => callR K f l q1 from rfl] at h
  refine TR.bind h fun R0 q q1 a w H1 f0 l b p z => ?_
  exact call_an p.1 p.2 (lateV' l b z)
theorem gaR_ins {c : Nat} : ∀ {ws : List V} {gs : List Ga}, GaR Z H R0 s q ws gs → insL c gs = true → ∀ v ∈ ws, ∃ R ds, Rep Z H R v (.ins c ds)
  | [], [], _, _, v, hv => by simp at hv
  | w :: ws, .v (.ins k ds) :: gs, h, hi, v, hv => by
    have hi : (k == c && insL c gs) = true := hi
    rw [Bool.and_eq_true, beq_iff_eq] at hi
    obtain ⟨rfl, hi⟩ := hi
    rcases List.mem_cons.1 hv with rfl | hv
    · exact ⟨_, _, h.1⟩
    · exact gaR_ins h.2 hi v hv
  | _ :: _, .b _ :: _, _, hi, _, _ => by cases hi
  | _ :: _, .v .non :: _, _, hi, _, _ => by cases hi
  | _ :: _, .v (.bl _) :: _, _, hi, _, _ => by cases hi
  | _ :: _, .v (.int _) :: _, _, hi, _, _ => by cases hi
  | _ :: _, .v (.str _) :: _, _, hi, _, _ => by cases hi
  | _ :: _, .v (.tup _) :: _, _, hi, _, _ => by cases hi
  | _ :: _, .v (.lst _) :: _, _, hi, _, _ => by cases hi
  | _ :: _, .v (.cls _) :: _, _, hi, _, _ => by cases hi
  | _ :: _, .v (.exn _ _) :: _, _, hi, _, _ => by cases hi
  | _ :: _, .v (.dct _) :: _, _, hi, _, _ => by cases hi
  | [], _ :: _, h, _, _, _ => h.elim
  | _ :: _, [], h, _, _, _ => h.elim
theorem tE_callI {c f : Nat} {gs : Gs} {pk : Bool} {Q : VK} (h : tE Z K ex (.callI c f gs) pk s H Q) : tGs Z K ex gs s H fun vs H1 => (∀ v ∈ vs, ∃ R ds, Rep Z H1 R v (.ins c ds)) ∧ spF Z K f vs H1 Q ex := by
  unfold tE at h
  rw [show ev K (.callI c f gs) pk = fun q => bindR (evG K gs q) fun l q1 => if insL c l then callR K f l q1 else .bad from rfl] at h
  refine TR.bind h fun R0 q q1 a w H1 f0 l b p z => ?_
  by_cases hi : insL c a = true
  · rw [if_pos hi] at z
    exact ⟨gaR_ins p.2 hi, call_an p.1 p.2 (lateV' l b z)⟩
  · rw [if_neg hi] at z
    exact z.elim
/-- with one new list, handed over -/
theorem after_own {R0 R2 : Pr} {q1 : Fm} {H1 H2 : Hp} {a : Addr} (f1 : FR Z (P1 R0 a) s q1 H1) (kp : ∀ b o, H1 b = some o → b ≠ a → NT o → H2 b = some o) (tr : ∀ b, H1 b ≠ none → H2 b ≠ none) (tb : Grd Z H2)
    (h2 : ∀ b, R2 b → R0 b ∨ H1 b = none) (ht : ∀ b, R2 b → H2 b ≠ none) : FR Z R2 s q1 H2 := by
  have lt : Lat (Rt (P1 R0 a) s q1) H1 (Rt R2 s q1) H2 := ⟨fun b o hb n => kp b o hb fun e => n (.inl (.inr e)), fun b y => by
    rcases y with y | y
    · exact Or.elim (h2 b y) (fun y => .inl (.inl (.inl y))) .inr
    · exact .inl (.inr y), tr⟩
  refine ⟨f1.len, tb, ht, fun i b d e => ?_, fun i b d e => ?_, f1.sep⟩
  · obtain ⟨v, e1, e2⟩ := f1.sh i b d e
    exact ⟨v, e1, e2.lat lt⟩
  · obtain ⟨a', e1, n, ds', xs', e2, e3, e4⟩ := f1.ow i b d e
    exact ⟨a', e1, fun y => Or.elim (h2 a' y) (fun y => n (.inl y)) (fun y => by rw [e3] at y; cases y), ds', xs', e2, kp _ _ e3 (fun e => n (.inr e)) (fun _ z => nomatch z), e4.lat lt⟩
theorem os1 {a b : Addr} {q : Fm} (y : Ow [some (.ref a)] q b) : b = a := by
  obtain ⟨i, b', d', y1, y2⟩ := y
  cases i with
  | zero => simpa using y2.symm
  | succ i => simp at y2
/-- with one new list, handed over -/
theorem tE_callO {f : Nat} {e : E} {pk : Bool} {Q : VK} (h : tE Z K ex (.callO f e) pk s H Q) : tE Z K ex e false s H fun v H1 => spF Z K f [v] H1 Q ex := by
  unfold tE at h
  rw [show ev K (.callO f e) pk = fun q => bindR (ev K e false q) fun r q1 => match r with
    | .new d => match noSlot (K.fn f [.ow false d]) with
      | .ok r' _ => .ok r' q1
      | .exc c ds _ => .exc c ds q1
      | .bad => .bad
    | _ => .bad from rfl] at h
  refine TR.bind h fun R0 q q1 r w H1 f0 l b p z => ?_
  cases r with
  | val d => exact z.elim
  | slot d => exact z.elim
  | new d =>
    dsimp only at z
    obtain ⟨a, rfl, hn, f1, ds, xs, hd, ha, hr⟩ := p
    have nw : ¬ Rt R0 s q1 a := fun y => by
      rcases y with y | ⟨i, b', d', y1, y2⟩
      · exact f0.trk a y hn
      · obtain ⟨a', e1, n, _⟩ := f1.ow i b' d' y1
        rw [y2] at e1; cases e1
        exact n (.inr rfl)
    have fc : FR Z (Rt R0 s q1) [some (.ref a)] [.ow false d] H1 := by
      refine ⟨rfl, f1.tb, fun b hb => (f1.fewer fun _ y => .inl y).rtT hb, fun i b d e => ?_, fun i b d e => ?_, fun i j b b' d d' a' e e' h1 h2 => ?_⟩
      · cases i with
        | zero => simp at e
        | succ i => simp at e
      · cases i with
        | zero =>
          simp at e
          obtain ⟨rfl, rfl⟩ := e
          refine ⟨a, rfl, nw, ds, xs, hd, ha, hr.lat (Lat.sub fun b y => ?_)⟩
          rcases y with (y | y) | y
          · exact .inl (.inl y)
          · exact .inr y
          · exact .inl (.inr (os1 y))
        | succ i => simp at e
      · cases i with
        | zero =>
          cases j with
          | zero => rfl
          | succ j => simp at e'
        | succ i => simp at e
    refine ⟨Rt R0 s q1, [.ow false d], fc, ?_⟩
    show An Z ex _ _ _ H1 _ Q (noSlot (K.fn f [.ow false d]))
    have lc : ∀ {q2 : Fm} {H2 : Hp}, Lat (Ow [some (.ref a)] [.ow false d]) H1 (Ow [some (.ref a)] q2) H2 → Lat (Ow s q) H (Ow s q1) H2 := fun {q2 H2} l2 => by
      refine ⟨fun b o hb n t => l2.kp b o (l.kp b o hb n t) (fun y => ?_) t, l.nw, fun b hb => l2.tr b (l.tr b hb)⟩
      have e := os1 y
      subst e
      rw [hb] at hn; cases hn
    have kp : ∀ {q2 : Fm} {H2 : Hp}, Lat (Ow [some (.ref a)] [.ow false d]) H1 (Ow [some (.ref a)] q2) H2 → ∀ b o, H1 b = some o → b ≠ a → NT o → H2 b = some o := fun {q2 H2} l2 b o hb n => l2.kp b o hb fun y => n (os1 y)
    cases hr : noSlot (K.fn f [.ow false d]) with
    | bad => rw [hr] at z; exact z.elim
    | exc c ds q2 =>
      rw [hr] at z
      intro d2 H2 l2 b2 f2 x
      refine z d2 H2 (lc l2) b (after_own f1 (kp l2) l2.tr f2.tb (fun _ y => .inl y) fun b y => f2.trk b (.inl y)) (x.lat (Lat.sub fun b y => .inl y))
    | ok r2 q2 =>
      rw [hr] at z
      intro w H2 l2 b2 p2
      cases r2 with
      | slot i =>
        cases e : K.fn f [.ow false d] with
        | ok r3 q3 => rw [e] at hr; cases r3 <;> cases hr
        | exc _ _ _ => rw [e] at hr; cases hr
        | bad => rw [e] at hr; cases hr
      | val d2 =>
        obtain ⟨f2, rp⟩ := p2
        exact z w H2 (lc l2) b ⟨after_own f1 (kp l2) l2.tr f2.tb (fun _ y => .inl y) fun b y => f2.trk b (.inl y), rp.lat (Lat.sub fun b y => .inl y)⟩
      | new d2 =>
        obtain ⟨a2, ew, hn2, f2, o⟩ := p2
        refine z w H2 (lc l2) b ⟨a2, ew, l.new hn2, after_own f1 (kp l2) l2.tr f2.tb (fun _ y => Or.elim y .inl fun e => .inr (e ▸ hn2)) (fun b y => f2.trk b (Or.elim y (fun y => .inl (.inl y)) .inr)), o.lat (Lat.sub fun b y => ?_) rfl⟩
        rcases y with (y | y) | y
        · exact .inl (.inl (.inl y))
        · exact .inl (.inr y)
        · exact .inl (.inl (.inr y))
/-- a property -/
theorem tE_prop {c f : Nat} {e : E} {pk : Bool} {Q : VK} (h : tE Z K ex (.prop c f e) pk s H Q) : tE Z K ex e false s H fun v H1 => (∃ R ds, Rep Z H1 R v (.ins c ds)) ∧ spF Z K f [v] H1 Q E0 := by
  unfold tE at h
  rw [show ev K (.prop c f e) pk = fun q => bindR (ev K e false q) fun r q1 => match r with
    | .val (.ins c' fs) => if c' = c then match noSlot (K.fn f [.sh false (.ins c fs)]) with
        | .ok r' _ => .ok r' q1
        | _ => .bad
      else .bad
    | _ => .bad from rfl] at h
  refine TR.bind h fun R0 q q1 r w H1 f0 l b p z => ?_
  cases r with
  | new d => exact z.elim
  | slot d => exact z.elim
  | val d =>
    cases d with
    | ins c' fs =>
      dsimp only at z
      by_cases hc : c' = c
      case neg => rw [if_neg hc] at z; exact z.elim
      rw [if_pos hc] at z
      have hc2 := hc.symm
      subst hc2
      refine ⟨⟨_, fs, p.2⟩, ?_⟩
      have z1 : An Z ex R0 s q H (PoV Z R0 s H) Q (match noSlot (K.fn f [.sh false (.ins c fs)]) with
        | .ok r' _ => .ok r' q1
        | _ => .bad) := z
      refine call_an (ex := E0) (gs := [.v (.ins c fs)]) (ws := [w]) (f := f) (H := H1) p.1 ⟨p.2, True.intro⟩ (lateV' l b ?_)
      have : callR K f [.v (.ins c fs)] q1 = (match noSlot (K.fn f [.sh false (.ins c fs)]) with
        | .ok r' _ => .ok r' q1
        | .exc c ds _ => .exc c ds q1
        | .bad => .bad) := by
        unfold callR
        rw [if_pos (show (lentIx [Ga.v (.ins c fs)]).Nodup from List.nodup_nil)]
        show (match noSlot (K.fn f [.sh false (.ins c fs)]) with
          | .ok r as' => Res.ok r (giveBack [.v (.ins c fs)] as' q1)
          | .exc c' ds as' => .exc c' ds (giveBack [.v (.ins c fs)] as' q1)
          | .bad => .bad) = _
        have gb : ∀ as' : Fm, giveBack [.v (.ins c fs)] as' q1 = q1 := fun as' => by cases as' <;> rfl
        simp only [gb]
      rw [this]
      cases hr : noSlot (K.fn f [.sh false (.ins c fs)]) with
      | bad => rw [hr] at z1; exact z1.elim
      | exc _ _ _ => rw [hr] at z1; exact z1.elim
      | ok r' q2 => rw [hr] at z1; exact z1
    | _ => exact z.elim
theorem gaR_get {R0 : Pr} {q : Fm} : ∀ {ws : List V} {gs : List Ga} (i : Nat), GaR Z H R0 s q ws gs → (ws[i]? = none ∧ gs[i]? = none) ∨ ∃ w g, ws[i]? = some w ∧ gs[i]? = some g ∧ GaR Z H R0 s q [w] [g]
  | [], [], i, _ => .inl ⟨by simp, by simp⟩
  | w :: ws, .v d :: gs, 0, h => .inr ⟨w, .v d, rfl, rfl, h.1, True.intro⟩
  | w :: ws, .b d :: gs, 0, h => .inr ⟨w, .b d, rfl, rfl, h.1, True.intro⟩
  | w :: ws, .v d :: gs, i + 1, h => by simpa using gaR_get i h.2
  | w :: ws, .b d :: gs, i + 1, h => by simpa using gaR_get i h.2
  | [], _ :: _, _, h => h.elim
  | _ :: _, [], _, h => h.elim
theorem gaR_pick {R0 : Pr} {q : Fm} {ws : List V} {gs : List Ga} (h : GaR Z H R0 s q ws gs) : ∀ pm : List Nat, GaR Z H R0 s q (pick pm ws) (pick pm gs)
  | [] => True.intro
  | i :: pm => by
    have ih := gaR_pick h pm
    unfold pick at ih ⊢
    rw [List.filterMap_cons, List.filterMap_cons]
    rcases gaR_get i h with ⟨e1, e2⟩ | ⟨w, g, e1, e2, r⟩
    · rw [e1, e2]; exact ih
    · rw [e1, e2]
      cases g with
      | v d => exact ⟨r.1, ih⟩
      | b d => exact ⟨r.1, ih⟩
end
end M

set_option Elab.async false
set_option linter.all false
set_option maxRecDepth 100000
set_option maxHeartbeats 4000000
/-! G1: defs called where nothing is being shown (repr wants to know it); positional values, keywords, classes. -/
namespace M
open PySem L2 PyProof.Rows SlX

/-- nothing is being shown -/
def Qu (A : Around) : Prop := A.guards = some []
theorem Qu.deeper {A : Around} {env : Env} (q : Qu A) : Qu (A.deeper env) := q
theorem Qu.in1 {A : Around} (q : Qu A) : Qu A.in1 := q
theorem Qu.make {A : Around} {C : Addr} {us : List Value} {kw : List (Str × Value)} (q : Qu A) : Qu (A.under (.builtin "type.__call__" ⟨.ref C :: us, kw⟩)) := by
  unfold Qu at q ⊢
  show pushGuards (Code.guards (.builtin "type.__call__" ⟨.ref C :: us, kw⟩)) A.guards = _
  rw [q]
  rfl
section
variable (P : Program) (w : World) (K : PySem.W.Frag) (mg : Str → Option Value) (base : Heap) (CX : CXT) (k : Nat) (f : Addr)
/-- the promise of a def, whatever the call's form -/
structure FnA (fd : FuncData) (ps : List Str) (sp : Sp) : Prop where
  len : ∀ vs H Q E, sp vs H Q E → vs.length = ps.length
  run : ∀ (A : Around) (below : List Env) (s0 : Shared) (H : Hp) (gv : Args) (us : List Value) (vs : List V) (Q : VK) (E : XK), Qu A → Room k A → Env0 P w K mg base A below s0 H → BindsTo s0 fd gv (ps.zip us) → Vals vs us → sp vs H Q E →
    codeAny (model P w) A (.call (.ref f) gv) (CR CX below P w H s0 Q E) s0
/-- .. by position -/
def FnG (sp : Sp) : Prop := ∀ (A : Around) (below : List Env) (s0 : Shared) (H : Hp) (us : List Value) (vs : List V) (Q : VK) (E : XK), Qu A → Room k A → Env0 P w K mg base A below s0 H → Vals vs us → sp vs H Q E →
  codeAny (model P w) A (.call (.ref f) ⟨us, []⟩) (CR CX below P w H s0 Q E) s0
/-- .. n values by position, then the names ks; pm: how they come into the parameters' order -/
def FnK (n : Nat) (ks : List Str) (pm : List Nat) (sp : Sp) : Prop := ∀ (A : Around) (below : List Env) (s0 : Shared) (H : Hp) (us ws : List Value) (vs zs : List V) (Q : VK) (E : XK), Qu A → Room k A → Env0 P w K mg base A below s0 H → Vals vs us → Vals zs ws →
  vs.length = n → zs.length = ks.length → sp (pick pm (vs ++ zs)) H Q E → codeAny (model P w) A (.call (.ref f) ⟨us, ks.zip ws⟩) (CR CX below P w H s0 Q E) s0
end
theorem vals_get {vs : List V} {us : List Value} (h : Vals vs us) : ∀ i : Nat, (vs[i]? = none ∧ us[i]? = none) ∨ ∃ v u, vs[i]? = some v ∧ us[i]? = some u ∧ RelV v u := by
  induction h with
  | nil => exact fun i => .inl ⟨by simp, by simp⟩
  | cons r _ ih =>
    intro i
    cases i with
    | zero => exact .inr ⟨_, _, rfl, rfl, r⟩
    | succ i => simpa using ih i
theorem vals_pick {vs : List V} {us : List Value} (h : Vals vs us) : ∀ pm : List Nat, Vals (M.pick pm vs) (M.pick pm us)
  | [] => .nil
  | i :: pm => by
    unfold M.pick
    rw [List.filterMap_cons, List.filterMap_cons]
    rcases vals_get h i with ⟨e1, e2⟩ | ⟨v, u, e1, e2, r⟩
    · rw [e1, e2]; exact vals_pick h pm
    · rw [e1, e2]; exact .cons r (vals_pick h pm)
/-- how a call with names binds -/
def KB (K : PySem.W.Frag) (fd : FuncData) (ps : List Str) (n : Nat) (ks : List Str) (pm : List Nat) : Prop :=
  ∀ (s0 : Shared) (us ws : List Value), K.In s0.heap → us.length = n → ws.length = ks.length → BindsTo s0 fd ⟨us, ks.zip ws⟩ (ps.zip (pick pm (us ++ ws)))
section
variable {P : Program} {w : World} {K : PySem.W.Frag} {mg : Str → Option Value} {base : Heap} {CX : CXT} {j k n : Nat} {f : Addr} {fd : FuncData} {ps ks : List Str} {pm : List Nat} {sp sp' : Sp}
theorem FnG.mono (F : FnG P w K mg base CX j f sp) (h : j ≤ k) : FnG P w K mg base CX k f sp := fun A b s0 H us vs Q E q r => F A b s0 H us vs Q E q (r.mono h)
theorem FnA.pos (F : FnA P w K mg base CX k f fd ps sp) (hb : Binds K fd ps []) : FnG P w K mg base CX k f sp := fun A below s0 H us vs Q E q hr e0 r h => by
  have l : us.length = ps.length := by rw [← r.length]; exact F.len _ _ _ _ h
  have z := hb s0 us (e0.mod.kin.keeps fun b o e => (e0.bs b o e).1) (by rw [List.append_nil]; exact l)
  rw [List.append_nil] at z
  exact F.run A below s0 H ⟨us, []⟩ us vs Q E q hr e0 z r h
theorem FnA.kws (F : FnA P w K mg base CX k f fd ps sp) (hb : KB K fd ps n ks pm) : FnK P w K mg base CX k f n ks pm sp := fun A below s0 H us ws vs zs Q E q hr e0 r rz l1 l2 h => by
  have kin : K.In s0.heap := e0.mod.kin.keeps fun b o e => (e0.bs b o e).1
  exact F.run A below s0 H ⟨us, ks.zip ws⟩ (pick pm (us ++ ws)) (pick pm (vs ++ zs)) Q E q hr e0 (hb s0 us ws kin (r.length.symm.trans l1) (rz.length.symm.trans l2)) (vals_pick (r.append rz) pm) h
/-- from the walk of a def's body -/
theorem fnA_of {x qual : Str} {st : Stmt} {N : List Str} (Fu : L2.Fun K x qual st f fd) (S : FnScope N ps (defScope st)) (len : ∀ vs H Q E, sp vs H Q E → vs.length = ps.length)
    (walk : ∀ (cdv : Value) (A : Around) (below : List Env) (s0 : Shared) (H : Hp) (vs : List V) (Q : VK) (E : XK), Qu A → Room k (A.deeper (envOfC qual (defScope st) s0.heap.objs.size f cdv)) → sp vs H Q E →
      ∃ t, PSs (cxOf CX P w K mg base N qual (defScope st) f cdv A below s0 H E) (defBody st) t ∧ t { nx := fun _ H2 => Q .non H2, rt := Q } (L2.start N vs) H) : FnA P w K mg base CX (k + 1) f fd ps sp := by
  obtain ⟨oc, od, kV, doc, pm, an, cdv, ct, osl, rfl, lk, hcd⟩ := Fu.ex
  refine ⟨len, fun A below s0 H gv us vs Q E qu room e0 hb rv hs => ?_⟩
  have kin : K.In s0.heap := e0.mod.kin.keeps fun b o e => (e0.bs b o e).1
  have lim : s0.heap.NoLimit := e0.mod.nolimit.keeps fun b o e => (e0.bs b o e).1
  refine codeAny_call_function room.depth (kin _ _ lk) rfl S.co S.gen rfl (PySem.W.codeRec_of kin hcd) (hb _ _ _ _ ?_)
  refine wpAny_newFunctionEnv_cells S.kind (fun y hy => ?_) fun env he s1 inn => ?_
  · rcases S.par y.1 (List.of_mem_zip (show (y.1, y.2) ∈ ps.zip us from hy)).1 with z | z
    · exact .inl z
    · exact .inr ⟨z, PySem.W.cellsFrom_some _ _ _ (.inl z)⟩
  · subst he
    obtain ⟨t, ht, hz⟩ := walk cdv A below s0 H vs Q E qu (room.deeper _) hs
    have I := inv_start (CX := CX) (f := f) (cd := cdv) (E := E) S room.hd e0 (len _ _ _ _ hs) rv inn
    refine ⟨lim.keeps inn.toInCall.keep, codeAny_func (wpAny_mono (ht.run [] s1 (L2.start N vs) H _ I hz) (fun fl s2 z => ?_) fun e s2 z => z)⟩
    cases fl with
    | ret u => obtain ⟨v, σ2, H2, J, r2, z⟩ := z; exact ⟨v, H2, J.os, J.bare, J.base, J.hok, r2, z⟩
    | next => obtain ⟨σ2, H2, J, z⟩ := z; exact ⟨.non, H2, J.os, J.bare, J.base, J.hok, rfl, z⟩
    | brk => obtain ⟨_, _, _, z⟩ := z; exact z.elim
    | cont => obtain ⟨_, _, _, z⟩ := z; exact z.elim
end
section
variable {X : Cx} {CX : CXT} {k n : Nat} {f C : Addr} {sp : Sp} {E : XK} {Q : VK} {pins : List (Addr × Obj)} {σ : Sg} {H : Hp} {s : Shared} {us ws : List Value} {vs zs : List V} {ks : List Str} {pm : List Nat}
/-- behind a call: what the callee's end is to the caller -/
def Came (X : Cx) (pins : List (Addr × Obj)) (σ : Sg) (Q : VK) (r : Result) (s2 : Shared) : Prop := match r with
  | .ok (.ret v) => EP X pins σ Q v s2
  | .ok _ => False
  | .error e => X.xe e s2
theorem came {r : Result} {s2 : Shared} (hx : Passes CX X E) (I : Inv X pins σ H s) (h : CR CX X.stack X.prog X.w H s Q E r s2) : Came X pins σ Q r s2 := by
  cases r with
  | error e => exact hx pins σ H s e s2 I h
  | ok fl =>
    cases fl with
    | ret u => exact I.after h
    | next => exact h
    | brk => exact h
    | cont => exact h
theorem run_G {A : Around} (F : FnG X.prog X.w X.K X.mg X.base CX k f sp) (q : Qu A) (hr : Room k A) (e0 : Env0 X.prog X.w X.K X.mg X.base A X.stack s H) (hx : Passes CX X E) (I : Inv X pins σ H s) (r : Vals vs us) (h : sp vs H Q E) :
    codeAny (model X.prog X.w) A (.call (.ref f) ⟨us, []⟩) (Came X pins σ Q) s := codeAny_mono (F A X.stack s H us vs Q E q hr e0 r h) fun _ _ z => came hx I z
theorem run_K {A : Around} (F : FnK X.prog X.w X.K X.mg X.base CX k f n ks pm sp) (q : Qu A) (hr : Room k A) (e0 : Env0 X.prog X.w X.K X.mg X.base A X.stack s H) (hx : Passes CX X E) (I : Inv X pins σ H s) (r : Vals vs us) (rz : Vals zs ws) (l1 : vs.length = n) (l2 : zs.length = ks.length) (h : sp (pick pm (vs ++ zs)) H Q E) :
    codeAny (model X.prog X.w) A (.call (.ref f) ⟨us, ks.zip ws⟩) (Came X pins σ Q) s := codeAny_mono (F A X.stack s H us ws vs zs Q E q hr e0 r rz l1 l2 h) fun _ _ z => came hx I z
/-- a new instance: its __init__ has been run -/
def MadeE (X : Cx) (pins : List (Addr × Obj)) (σ : Sg) (Q2 : VK) (x : Addr) (r : Result) (s2 : Shared) : Prop := match r with
  | .ok (.ret v) => v = .none ∧ EP X pins σ Q2 (.ref x) s2
  | .ok _ => False
  | .error e => X.xe e s2
theorem made_end {r : Result} {s2 : Shared} {x : Addr} {Q2 : VK} (h : Came X pins σ (fun v H2 => v = .non ∧ Q2 (.ref x) H2) r s2) : MadeE X pins σ Q2 x r s2 := by
  cases r with
  | error e => exact h
  | ok fl =>
    cases fl with
    | ret u =>
      obtain ⟨v, H2, I2, rv, ev, z⟩ := h
      subst ev
      exact ⟨rv, .ref x, H2, I2, rfl, z⟩
    | next => exact h
    | brk => exact h
    | cont => exact h
theorem run_makeG (M : Mk X.K C f) (F : FnG X.prog X.w X.K X.mg X.base CX k f sp) (q : Qu X.A) (hr : Room (k + 1) X.A) (hx : Passes CX X E) (I : Inv X pins σ H s) (r : Vals vs us)
    (h : ∀ x dx, H x = none → H dx = none → dx ≠ x → sp (.ref x :: vs) (upd (upd H dx (.own x)) x (.ins C dx [])) (fun v H2 => v = .non ∧ Q (.ref x) H2) E) : wpAny (model X.prog X.w) X.A (call (.ref C) us) (EP X pins σ Q) X.xe s := by
  have z := h (s.heap.objs.size + 1) s.heap.objs.size (I.hok.fresh (Nat.le_succ _)) (I.hok.fresh (Nat.le_refl _)) (Nat.ne_of_lt (Nat.lt_succ_self _))
  have I2 := Inv.made (C := C) I
  refine wpAny_call (make_map (f := f) I.kIn M.makes M.init (beq_iff_eq.mp M.fn) (codeAny_mono (run_G (us := .ref (s.heap.objs.size + 1) :: us) (vs := .ref (s.heap.objs.size + 1) :: vs) F q.make (hr.make C us []) (I2.env0.make C us []) hx I2 (.cons rfl r) z) fun rr s2 y => ?_))
  have y2 := made_end y
  cases rr with
  | error e => exact y2
  | ok fl => cases fl <;> exact y2
theorem run_makeKw (M : Mk X.K C f) (F : FnK X.prog X.w X.K X.mg X.base CX k f (n + 1) ks pm sp) (q : Qu X.A) (hr : Room (k + 1) X.A) (hx : Passes CX X E) (I : Inv X pins σ H s) (r : Vals vs us) (rz : Vals zs ws) (l1 : vs.length = n) (l2 : zs.length = ks.length)
    (h : ∀ x dx, H x = none → H dx = none → dx ≠ x → sp (pick pm (.ref x :: vs ++ zs)) (upd (upd H dx (.own x)) x (.ins C dx [])) (fun v H2 => v = .non ∧ Q (.ref x) H2) E) : wpAny (model X.prog X.w) X.A (call (.ref C) us (ks.zip ws)) (EP X pins σ Q) X.xe s := by
  have z := h (s.heap.objs.size + 1) s.heap.objs.size (I.hok.fresh (Nat.le_succ _)) (I.hok.fresh (Nat.le_refl _)) (Nat.ne_of_lt (Nat.lt_succ_self _))
  have I2 := Inv.made (C := C) I
  refine wpAny_call (make_map (f := f) I.kIn M.makes M.init (beq_iff_eq.mp M.fn) (codeAny_mono (run_K (us := .ref (s.heap.objs.size + 1) :: us) (vs := .ref (s.heap.objs.size + 1) :: vs) F q.make (hr.make C us (ks.zip ws)) (I2.env0.make C us (ks.zip ws)) hx I2 (.cons rfl r) rz (by rw [List.length_cons, l1]) l2 z) fun rr s2 y => ?_))
  have y2 := made_end y
  cases rr with
  | error e => exact y2
  | ok fl => cases fl <;> exact y2
end
end M

set_option Elab.async false
set_option linter.all false
set_option maxRecDepth 100000
set_option maxHeartbeats 4000000
/-! A9: the program's expressions and our trees. -/
namespace M
open PySem L2 PyProof.Rows

/-- the world that stays -/
structure Wo where
  P : Program
  w : World
  mg : Str → Option Value
  base : Heap
  Z : Zc
  K : Calls
  hot : Bool
structure Gd (W : Wo) (n : Nat) (X : Cx) (ex : XK) : Prop where
  hP : X.prog = W.P
  hw : X.w = W.w
  hK : X.K = W.Z.K
  hm : X.mg = W.mg
  hb : X.base = W.base
  calm1 : W.hot = false → X.calm = true
  nd : X.N.Nodup
  rm : L2H.RoomH n X.A
  hd1 : W.hot = false → X.A.handled = none
  ps : Passes (L2.CX X.prog X.w) X ex
  qu : Qu X.A
/-- nothing is handled -/
class Calm (W : Wo) : Prop where
  h : W.hot = false
theorem Gd.calm {W : Wo} [c : Calm W] {n : Nat} {X : Cx} {ex : XK} (g : Gd W n X ex) : X.calm = true := g.calm1 c.h
theorem Gd.room {W : Wo} [c : Calm W] {n : Nat} {X : Cx} {ex : XK} (g : Gd W n X ex) : Room n X.A := ⟨g.hd1 c.h, g.rm.dp, g.rm.un⟩
theorem Gd.units {W : Wo} {n : Nat} {X : Cx} {ex : XK} (g : Gd W n X ex) : X.A.units + 64 < cLine := by have := g.rm.un; omega
theorem Gd.un {W : Wo} {n : Nat} {X : Cx} {ex : XK} (g : Gd W n X ex) : X.A.units + 65 < cLine := by have := g.rm.un; omega
def ME (W : Wo) (X : Cx) (ex : XK) (e : Expr) (t : E) : Prop := ∀ pk, PE X e (tE W.Z W.K ex t pk)
def MT (W : Wo) (X : Cx) (ex : XK) (e : Expr) (t : T) : Prop := PT X e (tT W.Z W.K ex t)
def MW (W : Wo) (X : Cx) (ex : XK) (e : Expr) (t : T) : Prop := PW X e (tT W.Z W.K ex t)
def MA (W : Wo) (X : Cx) (ex : XK) (es : List Expr) (t : As) : Prop := PA X es (tA W.Z W.K ex t)
def MG (W : Wo) (X : Cx) (ex : XK) (es : List Expr) (t : Gs) : Prop := PA X es (tGs W.Z W.K ex t)
/-- a def by its name -/
structure Fd (W : Wo) (n : Nat) (x : Str) (f : Nat) : Prop where
  ex : ∃ a, FnG W.P W.w W.Z.K W.mg W.base (L2.CX W.P W.w) n a (spF W.Z W.K f) ∧ W.mg x = some (.ref a) ∧ PySem.W.keepIn W.Z.K (.ref a) = true
section
variable {W : Wo} {X : Cx} {ex : XK} {n : Nat} {pos p1 p2 p3 p4 : Pos} {a b c : Expr} {A B C : E} {x : Str}
theorem opr_or {f : Value → Value → Sem Value} {r r' : R2} (h : OpR X f r) (h' : OpR X f r') : OpR X f (fun x y H Q => r x y H Q ∨ r' x y H Q) := by
  intro pins s σ H x y v u Q I r1 r2 q
  rcases q with q | q
  · exact h pins s σ H x y v u Q I r1 r2 q
  · exact h' pins s σ H x y v u Q I r1 r2 q
theorem callr_or {f : Value} {r r' : List V → Hp → VK → Prop} (h : CallR X f r) (h' : CallR X f r') : CallR X f (fun x H Q => r x H Q ∨ r' x H Q) := by
  intro pins s σ H x v Q I r1 q
  rcases q with q | q
  · exact h pins s σ H x v Q I r1 q
  · exact h' pins s σ H x v Q I r1 q
theorem me_var (i : Nat) (hN : X.N[i]? = some x := by rfl) (hv : Vis X.env.scope x := by first | exact Or.inl rfl | exact Or.inr (Or.inl rfl) | exact Or.inr (Or.inr rfl)) (hd : (x == ("__debug__" : Str)) = false := by decide)
    (hcd : (x == ("__classdict__" : Str)) = false := by decide) : ME W X ex (.Name x pos) (.var i) := fun pk => (pe_var hN hv hd hcd).imp fun _ _ _ h => tE_var h
theorem lit_of {e : E} {pk : Bool} {d : D} {s : Sg} {H : Hp} {Q : VK} {v : V} (hv : ∀ R, Rep W.Z H R v d) (he : ∀ q, ev W.K e pk q = .ok (.val d) q) (h : tE W.Z W.K ex e pk s H Q) : Q v H := by
  obtain ⟨R, k⟩ := tE_lit h he
  exact k v (hv R)
theorem me_int {i : Int} {j : Nat} : ME W X ex (.Constant (.int i) j pos) (.con (.int i)) := fun pk => pe_int.imp fun _ _ _ h => lit_of (fun _ => .int i) (fun _ => rfl) h
theorem me_bl {i : Bool} {j : Nat} : ME W X ex (.Constant (.bool i) j pos) (.con (.bl i)) := fun pk => pe_bl.imp fun _ _ _ h => lit_of (fun _ => .bl i) (fun _ => rfl) h
theorem me_non {j : Nat} : ME W X ex (.Constant .none j pos) (.con .non) := fun pk => pe_non.imp fun _ _ _ h => lit_of (fun _ => .non) (fun _ => rfl) h
theorem me_str {i : Str} {j : Nat} : ME W X ex (.Constant (.str i) j pos) (.con (.str i)) := fun pk => pe_str.imp fun _ _ _ h => lit_of (fun _ => .str i) (fun _ => rfl) h
theorem me_gInt (g : Gd W n X ex) {i : Int} {t : Tok} (hm : W.mg x = some (.int i t)) (hg : Gl X x := by rfl) (hd : (x == ("__debug__" : Str)) = false := by decide) : ME W X ex (.Name x pos) (.glo x (.int i)) :=
  fun pk => (pe_glob (v := .int i) hg (by rw [g.hm]; exact hm) ⟨t, rfl⟩ hd).imp fun _ _ _ h => lit_of (fun _ => .int i) (fun _ => rfl) h
theorem me_gStr (g : Gd W n X ex) {i : Str} {t : Tok} (hm : W.mg x = some (.str i t)) (hg : Gl X x := by rfl) (hd : (x == ("__debug__" : Str)) = false := by decide) : ME W X ex (.Name x pos) (.glo x (.str i)) :=
  fun pk => (pe_glob (v := .str i) hg (by rw [g.hm]; exact hm) ⟨t, rfl⟩ hd).imp fun _ _ _ h => lit_of (fun _ => .str i) (fun _ => rfl) h
/-! two operands -/
theorem me_op {op : Operator} {p : P} {r : R2} (ho : OpR X (binaryOp op) r) (hp : ∀ x y H Q, PrimPost W.Z p [x, y] H Q → r x y H Q) (ha : ME W X ex a A) (hb : ME W X ex b B) :
    ME W X ex (.BinOp a op b pos) (.prm p (.cons A (.cons B .nil))) := fun pk => (pe_op ho (ha true) (hb true)).imp fun s H Q h => by
  exact (tEs2 (tE_prm h)).mono fun x H1 z => z.mono fun y H2 z => hp x y H2 Q z
theorem me_add (ha : ME W X ex a A) (hb : ME W X ex b B) (g : Gd W n X ex) : ME W X ex (.BinOp a .Add b pos) (.prm .add (.cons A (.cons B .nil))) :=
  me_op (opr_or op_add (opr_or op_add_str (opr_or op_catA op_catL))) (fun x y H Q h => by rw [g.hK]; exact pr_add h) ha hb
theorem me_sub (ha : ME W X ex a A) (hb : ME W X ex b B) : ME W X ex (.BinOp a .Sub b pos) (.prm .sub (.cons A (.cons B .nil))) := me_op op_sub (fun x y H Q h => pr_sub h) ha hb
theorem me_mul (ha : ME W X ex a A) (hb : ME W X ex b B) (g : Gd W n X ex) : ME W X ex (.BinOp a .Mult b pos) (.prm .mul (.cons A (.cons B .nil))) :=
  me_op (opr_or op_mulB (opr_or op_repA op_repLA)) (fun x y H Q h => by rw [g.hK]; exact pr_mul h) ha hb
theorem me_mod (ha : ME W X ex a A) (hb : ME W X ex b B) : ME W X ex (.BinOp a .Mod b pos) (.prm .mod (.cons A (.cons B .nil))) := me_op op_modN (fun x y H Q h => pr_mod h) ha hb
theorem me_fdiv (ha : ME W X ex a A) (hb : ME W X ex b B) : ME W X ex (.BinOp a .FloorDiv b pos) (.prm .fdiv (.cons A (.cons B .nil))) := me_op op_fdivM (fun x y H Q h => pr_fdiv h) ha hb
theorem me_pow (ha : ME W X ex a A) (hb : ME W X ex b B) : ME W X ex (.BinOp a .Pow b pos) (.prm .pow (.cons A (.cons B .nil))) := me_op op_pow (fun x y H Q h => pr_pow h) ha hb
theorem me_neg (ha : ME W X ex a A) : ME W X ex (.UnaryOp .USub a pos) (.prm .neg (.cons A .nil)) := fun pk => (pe_un un_neg (ha true)).imp fun s H Q h =>
  (tEs1 (tE_prm h)).mono fun x H1 z => pr_neg z
theorem me_idx (ha : ME W X ex a A) (hb : ME W X ex b B) (g : Gd W n X ex) (hs : PlainIx b := by intro _ _; rfl) : ME W X ex (.Subscript a b pos) (.prm .idx (.cons A (.cons B .nil))) := fun pk =>
  (pe_ix ix_seq (ha true) (hb true) hs).imp fun s H Q h => (tEs2 (tE_prm h)).mono fun x H1 z => z.mono fun y H2 z => by rw [g.hK]; exact pr_idx z
/-! slices -/
theorem slr_ok (g : Gd W n X ex) {s : Sg} {H : Hp} {Q : VK} {x : V} {d : D} {R : Pr} {lo hi : Option Int} {nw : Bool} {r : D} (ht : ∀ b, R b → H b ≠ none) (rp : RepP W.Z H R x d) (e : sloD d lo hi = some (nw, r)) (k : ∀ w H', Same H H' → RepN W.Z H H' R w nw r → Q w H') :
    (rSlL X.K x lo hi H Q ∨ rSlA X.K x lo hi H Q) ∨ rSlS x lo hi H Q := by rw [g.hK]; exact sloD_ok ht rp e k
theorem me_slo10 (ha : ME W X ex a A) (hb : ME W X ex b B) (g : Gd W n X ex) : ME W X ex (.Subscript a (.Slice (some b) none none p1) pos) (.prm (.slo true false) (.cons A (.cons B .nil))) := fun pk =>
  (pe_slice ((sl_list.or sl_tupA).or sl_str) (ha true) (po_some (hb true)) po_none).imp fun s H Q h => (tEs2 (tE_prm h)).mono fun x H1 z => z.mono fun y H2 z => by
    obtain ⟨R, ds, ht, rq, nw, d, e, k⟩ := z
    obtain ⟨d0, d1, rfl, rp, ri⟩ := repPs2 rq
    simp only [evP] at e
    cases d1 <;> first | (cases e; done) | skip
    exact ⟨_, ri.int, slr_ok (s := s) g ht.2 rp e k⟩
theorem me_slo01 (ha : ME W X ex a A) (hb : ME W X ex b B) (g : Gd W n X ex) : ME W X ex (.Subscript a (.Slice none (some b) none p1) pos) (.prm (.slo false true) (.cons A (.cons B .nil))) := fun pk =>
  (pe_slice ((sl_list.or sl_tupA).or sl_str) (ha true) po_none (po_some (hb true))).imp fun s H Q h => (tEs2 (tE_prm h)).mono fun x H1 z => z.mono fun y H2 z => by
    obtain ⟨R, ds, ht, rq, nw, d, e, k⟩ := z
    obtain ⟨d0, d1, rfl, rp, ri⟩ := repPs2 rq
    simp only [evP] at e
    cases d1 <;> first | (cases e; done) | skip
    exact ⟨_, ri.int, slr_ok (s := s) g ht.2 rp e k⟩
theorem pe_slice2 {r : V → Option Int → Option Int → Hp → VK → Prop} {ta tb tc : TE} (hr : SlR X r) (he : PE X a ta) (hl : PE X b tb) (hu : PE X c tc) :
    PE X (.Subscript a (.Slice (some b) (some c) none p2) pos) (fun σ H Q => ta σ H fun x H1 => tb σ H1 fun l H2 => tc σ H2 fun u H3 => ∃ i j, l = .int i ∧ u = .int j ∧ r x (some i) (some j) H3 Q) := by
  refine ⟨fun pins s σ H Q I h => ?_⟩
  refine Subscript_ (thn (he.run pins s σ H _ I h) fun v s1 ⟨x, H1, I1, r1, q1⟩ => ?_)
  refine wpAny_Slice ?_
  rw [evalPart_some, evalPart_some]
  refine thn (hl.run pins s1 σ H1 _ I1 q1) fun vl s2 ⟨l, H2, I2, pl, q2⟩ => thn (hu.run pins s2 σ H2 _ I2 q2) fun vu s3 ⟨u, H3, I3, pu, i, j, el, eu, q3⟩ => ?_
  subst el eu
  obtain ⟨t1, rfl⟩ := pl
  obtain ⟨t2, rfl⟩ := pu
  rw [evalPart_none]
  refine wpAny_pure ?_
  have I4 : Inv X pins σ H3 { s3 with heap := s3.heap.push { cls := .type "slice", data := .fields #[.int i t1, .int j t2, .none] } } := I3.kept (t' := s3.toks) fun b ob q => Heap.get?_push_of_some _ q
  obtain ⟨T, id, hT, ht, hg⟩ := hr pins { s3 with heap := s3.heap.push { cls := .type "slice", data := .fields #[.int i t1, .int j t2, .none] } } σ H3 x v (.int i t1) (.int j t2) (some i) (some j) s3.heap.objs.size Q I4 r1 (Heap.IsSliceOf.new ..) (.int i t1) (.int j t2) q3
  show wpAny (model X.prog X.w) X.A (subscriptTail a (.Slice (some b) (some c) none p2) v (.ref s3.heap.objs.size)) (EP X pins σ Q) X.xe { s3 with heap := s3.heap.push { cls := .type "slice", data := .fields #[.int i t1, .int j t2, .none] } }
  exact tail_any (ops := [.ref s3.heap.objs.size, v]) ht hT hg (by with_unfolding_all rfl)
theorem me_slo11 (ha : ME W X ex a A) (hb : ME W X ex b B) (hc : ME W X ex c C) (g : Gd W n X ex) : ME W X ex (.Subscript a (.Slice (some b) (some c) none p1) pos) (.prm (.slo true true) (.cons A (.cons B (.cons C .nil)))) := fun pk =>
  (pe_slice2 ((sl_list.or sl_tupA).or sl_str) (ha true) (hb true) (hc true)).imp fun s H Q h => (tEs3 (tE_prm h)).mono fun x H1 z => z.mono fun y H2 z => z.mono fun u H3 z => by
    obtain ⟨R, ds, ht, rq, nw, d, e, k⟩ := z
    obtain ⟨d0, d1, d2, rfl, rp, ri, rj⟩ := repPs3 rq
    simp only [evP] at e
    cases d1 <;> first | (cases e; done) | skip
    cases d2 <;> first | (cases e; done) | skip
    exact ⟨_, _, ri.int, rj.int, slr_ok (s := s) g ht.2 rp e k⟩
/-! displays -/
theorem ma_nil : MA W X ex [] .nil := pa_nil.imp fun _ _ _ h => tA_nil h
theorem ma_one {es : List Expr} {r : As} (ha : ME W X ex a A) (hr : MA W X ex es r) (hs : starEach (a :: es) X.env = (false, eval a X.env) :: starEach es X.env := by rfl) : MA W X ex (a :: es) (.one A r) :=
  (pa_cons (ha false) hr hs).imp fun _ _ _ h => tA_one h
theorem ma_star {es : List Expr} {r : As} (g : Gd W n X ex) (ha : ME W X ex a A) (hr : MA W X ex es r) (hs : starEach (.Starred a p1 :: es) X.env = (true, eval a X.env) :: starEach es X.env := by rfl) : MA W X ex (.Starred a p1 :: es) (.star A r) :=
  (StX.pa_star (ha true) hr hs).imp fun _ _ _ h => by
    refine (tA_star h).mono fun x H1 z => ?_
    obtain ⟨p, xs, e1, e2, k⟩ := z
    rw [← g.hK] at e2
    exact ⟨p, xs, e1, e2, k⟩
theorem me_tup {es : List Expr} {r : As} {k : Nat} (h : MA W X ex es r) : ME W X ex (.Tuple es k pos) (.tup r) := fun pk => (pe_tup h).imp fun _ _ _ h => tE_tup h
theorem me_lst {es : List Expr} {r : As} (h : MA W X ex es r) : ME W X ex (.List es pos) (.lst r) := fun pk => (pe_lst h).imp fun _ _ _ h => tE_lst h
/-! tests and choices -/
theorem me_ife {t : T} (hc : MT W X ex c t) (ha : ME W X ex a A) (hb : ME W X ex b B) : ME W X ex (.IfExp c a b pos) (.ife t A B) := fun pk => (pe_ifExp hc (ha false) (hb false)).imp fun _ _ _ h => tE_ife h
theorem me_one {op : PySem.BoolOp} (ha : ME W X ex a A) : ME W X ex (.BoolOp op [a] pos) A := fun pk => pe_one (ha pk)
theorem me_and {rest : List Expr} (ha : ME W X ex a A) (hb : ME W X ex (.BoolOp .And (b :: rest) pos) B) : ME W X ex (.BoolOp .And (a :: b :: rest) pos) (.andV A B) := fun pk => (pe_and (ha true) (hb false)).imp fun _ _ _ h => tE_andV h
theorem me_not (g : Gd W n X ex) (ha : ME W X ex a A) : ME W X ex (.UnaryOp .Not a pos) (.notV A) := fun pk => (pe_notT (ha true)).imp fun _ _ _ h => by rw [g.hK]; exact tE_notV h
theorem mt_val (g : Gd W n X ex) (ha : ME W X ex a A) (he : ∀ whole, isTrue a X.env whole = (do let v ← whole; standAt a.pos; holding [v] (truthy v)) := by intro _; rfl) : MT W X ex a (.val A) :=
  (pt_truth (ha true) he).imp fun _ _ _ h => by rw [g.hK]; exact tT_val h
theorem mt_not {t : T} (h : MT W X ex a t) : MT W X ex (.UnaryOp .Not a pos) (.not t) := (pt_not h).imp fun _ _ _ h => tT_not h
theorem mt_w {t : T} (h : MW W X ex a t) : MT W X ex a t := h.pt
theorem mw_and1 {t : T} (h : MT W X ex a t) : MW W X ex (.BoolOp .And [a] pos) t := pw_and1 h
theorem mw_or1 {t : T} (h : MT W X ex a t) : MW W X ex (.BoolOp .Or [a] pos) t := pw_or1 h
theorem mw_and {t u : T} {rest : List Expr} (h : MT W X ex a t) (h2 : MW W X ex (.BoolOp .And (b :: rest) pos) u) : MW W X ex (.BoolOp .And (a :: b :: rest) pos) (.all t u) := (pw_and h h2).imp fun _ _ _ h => tT_all h
theorem mw_or {t u : T} {rest : List Expr} (h : MT W X ex a t) (h2 : MW W X ex (.BoolOp .Or (b :: rest) pos) u) : MW W X ex (.BoolOp .Or (a :: b :: rest) pos) (.any t u) := (pw_or h h2).imp fun _ _ _ h => tT_any h
/-- a comparison: its value is a bool -/
structure Cm (W : Wo) (X : Cx) (op : CmpOp) (p : P) where
  r : R2
  ho : OpR X (compareOp op) r
  hp : ∀ x y H Q, PrimPost W.Z p [x, y] H Q → r x y H Q
  hb : ∀ x y H (Q Q' : VK), r x y H Q → (∀ k H', Q (.bl k) H' → Q' (.bl k) H') → r x y H Q'
theorem me_cmp {op : CmpOp} {p : P} (m : Cm W X op p) (ha : ME W X ex a A) (hb : ME W X ex b B) (h1 : behindInMarks op b = false := by rfl) : ME W X ex (.Compare a [op] [b] pos) (.prm p (.cons A (.cons B .nil))) := fun pk =>
  (pe_cmpR m.ho (ha true) (hb true) h1).imp fun s H Q h => (tEs2 (tE_prm h)).mono fun x H1 z => z.mono fun y H2 z => m.hp x y H2 Q z
theorem mt_cmp {op : CmpOp} {p : P} (m : Cm W X op p) (ha : ME W X ex a A) (hb : ME W X ex b B) (h1 : behindInMarks op b = false := by rfl) : MT W X ex (.Compare a [op] [b] pos) (.val (.prm p (.cons A (.cons B .nil)))) :=
  (pt_cmpR m.ho (ha true) (hb true) h1).imp fun s H Q h => (tEs2 (tE_prm (tT_val h))).mono fun x H1 z => z.mono fun y H2 z =>
    m.hb _ _ _ _ _ (m.hp x y H2 _ z) fun k H' q => by
      obtain ⟨k', e, q⟩ := q
      cases (show k' = k from e)
      exact ⟨_, rfl, q⟩
def cm_int {op : CmpOp} {p : P} {f : Int → Int → Bool} (ho : OpR X (compareOp op) (rI0 fun i j => .bl (f i j))) (hp : evP p = cmpI f) : Cm W X op p where
  r := rI0 fun i j => .bl (f i j)
  ho := ho
  hp := fun x y H Q h => pr_cmpI hp h
  hb := fun x y H Q Q' h k => by
    obtain ⟨i, j, e1, e2, q⟩ := h
    exact ⟨i, j, e1, e2, k _ _ q⟩
def cm_lt : Cm W X .Lt .lt := cm_int op_lt rfl
def cm_le : Cm W X .LtE .le := cm_int op_le rfl
def cm_gt : Cm W X .Gt .gt := cm_int op_gt rfl
def cm_ge : Cm W X .GtE .ge := cm_int op_ge rfl
def cm_eq (g : Gd W n X ex) : Cm W X .Eq .eq where
  r := rEqD X.K
  ho := op_eqD g.units
  hp := fun x y H Q h => by rw [g.hK]; exact pr_eq h
  hb := fun x y H Q Q' h k => by
    obtain ⟨p, q, h1, h2, h3, h4, z⟩ := h
    exact ⟨p, q, h1, h2, h3, h4, k _ _ z⟩
def cm_ne (g : Gd W n X ex) : Cm W X .NotEq .ne where
  r := rNeD X.K
  ho := op_neD g.units
  hp := fun x y H Q h => by rw [g.hK]; exact pr_ne h
  hb := fun x y H Q Q' h k => by
    obtain ⟨p, q, h1, h2, h3, h4, z⟩ := h
    exact ⟨p, q, h1, h2, h3, h4, k _ _ z⟩
theorem mt_isN {j : Nat} (ha : ME W X ex a A) : MT W X ex (.Compare a [.Is] [.Constant .none j p1] pos) (.val (.prm .isN (.cons A .nil))) :=
  (pt_cmpR op_isN (ha true) pe_non rfl).imp fun s H Q h => (tEs1 (tE_prm (tT_val h))).mono fun x H1 z => ⟨rfl, by
    obtain ⟨k, e, q⟩ := pr_isN z
    cases (show k = _ from e)
    exact ⟨_, rfl, q⟩⟩
theorem mt_notN {j : Nat} (ha : ME W X ex a A) : MT W X ex (.Compare a [.IsNot] [.Constant .none j p1] pos) (.val (.prm .notN (.cons A .nil))) :=
  (pt_cmpR op_notN (ha true) pe_non rfl).imp fun s H Q h => (tEs1 (tE_prm (tT_val h))).mono fun x H1 z => ⟨rfl, by
    obtain ⟨k, e, q⟩ := pr_notN z
    cases (show k = _ from e)
    exact ⟨_, rfl, q⟩⟩
/-! a op b op c, ints -/
theorem tE_chain {Z : Zc} {K : Calls} {s : Sg} {H : Hp} {o1 o2 : P} {f1 f2 : Int → Int → Bool} (h1 : evP o1 = cmpI f1) (h2 : evP o2 = cmpI f2) {pk : Bool} {Q : VK} (h : tE Z K ex (.chain o1 o2 A B C) pk s H Q) :
    tChain (rI0 fun i j => .bl (f1 i j)) (rI0 fun i j => .bl (f2 i j)) (tE Z K ex A false) (tE Z K ex B false) (tE Z K ex C false) s H Q := by
  unfold tE at h
  rw [show ev K (.chain o1 o2 A B C) pk = fun q => bindR (ev K A false q) fun r1 q1 => bindR (ev K B false q1) fun r2 q2 => match r1.vd, r2.vd with
    | some x, some y => match evP o1 [x, y] with
      | some (_, .bl true) => bindR (ev K C false q2) fun r3 q3 => match r3.vd with
        | some z => match evP o2 [y, z] with
          | some (false, d) => .ok (.val d) q3
          | _ => .bad
        | none => .bad
      | some (_, .bl false) => .ok (.val (.bl false)) q2
      | _ => .bad
    | _, _ => .bad from rfl] at h
  refine TR.bind h fun R0 q q1 r w H1 f0 l b p z => ?_
  have fr1 : FR Z R0 s q1 H1 := (p.down f0).1
  refine ⟨R0, q1, fr1, (lateV' l b z).bind fun q2 w2 H2 r2 _ l2 b2 p2 z2 => ?_⟩
  have fr2 : FR Z R0 s q2 H2 := (p2.down fr1).1
  cases e1 : r.vd with
  | none => rw [e1] at z2; exact z2.elim
  | some x =>
    cases e2 : r2.vd with
    | none => rw [e1, e2] at z2; exact z2.elim
    | some y =>
      rw [e1, e2] at z2
      dsimp only at z2
      obtain ⟨_, v1⟩ := p.vd f0 e1
      obtain ⟨_, v2⟩ := p2.vd fr1 e2
      cases e3 : evP o1 [x, y] with
      | none => rw [e3] at z2; exact z2.elim
      | some nd =>
        obtain ⟨nw, d⟩ := nd
        rw [e3] at z2
        rw [h1] at e3
        obtain ⟨i, j, ei, rfl, rfl⟩ := cmpI_inv e3
        cases ei
        cases v1
        cases v2
        refine ⟨i, j, rfl, rfl, f1 i j, rfl, ?_⟩
        cases e4 : f1 i j with
        | false =>
          rw [e4] at z2
          exact iteF (z2 _ H2 l2 b2 ⟨fr2, .bl _⟩)
        | true =>
          rw [e4] at z2
          refine iteT ?_
          refine ⟨R0, q2, fr2, (lateV' l2 b2 z2).bind fun q3 w3 H3 r3 _ l3 b3 p3 z3 => ?_⟩
          cases e5 : r3.vd with
          | none => rw [e5] at z3; exact z3.elim
          | some zz =>
            rw [e5] at z3
            dsimp only at z3
            obtain ⟨fr3, v3⟩ := p3.vd fr2 e5
            cases e6 : evP o2 [.int j, zz] with
            | none => rw [e6] at z3; exact z3.elim
            | some nd =>
              obtain ⟨nw, d⟩ := nd
              rw [e6] at z3
              rw [h2] at e6
              obtain ⟨i', j', ei, rfl, rfl⟩ := cmpI_inv e6
              cases ei
              cases v3
              exact ⟨_, _, rfl, rfl, z3 _ H3 l3 b3 ⟨fr3, .bl _⟩⟩
/-- an int comparison -/
structure Ci (X : Cx) (op : CmpOp) (p : P) where
  f : Int → Int → Bool
  ho : OpR X (compareOp op) (rI0 fun i j => .bl (f i j))
  hp : evP p = cmpI f
def ci_le : Ci X .LtE .le := ⟨_, op_le, rfl⟩
theorem rI0_bl {f : Int → Int → Bool} {x y : V} {H : Hp} {Q Q' : VK} (h : rI0 (fun i j => .bl (f i j)) x y H Q) (k : ∀ b H', Q (.bl b) H' → Q' (.bl b) H') : rI0 (fun i j => .bl (f i j)) x y H Q' := by
  obtain ⟨i, j, e1, e2, q⟩ := h
  exact ⟨i, j, e1, e2, k _ _ q⟩
theorem mt_chain {o1 o2 : CmpOp} {p q : P} (m1 : Ci X o1 p) (m2 : Ci X o2 q) (ha : ME W X ex a A) (hb : ME W X ex b B) (hc : ME W X ex c C) (hm : lastMarks [o1, o2] [b, c] = false := by with_unfolding_all rfl) :
    MT W X ex (.Compare a [o1, o2] [b, c] pos) (.val (.chain p q A B C)) := (pt_chain m1.ho m2.ho (ha false) (hb false) (hc false) hm).imp fun s H Q h => by
  refine (tE_chain m1.hp m2.hp (tT_val h)).mono fun x H1 z => z.mono fun y H2 z => rI0_bl z fun k H3 ⟨k', e, z⟩ => ⟨k', e, ?_⟩
  cases k' with
  | false =>
    obtain ⟨k, e, z⟩ := z
    cases (show k = false from e)
    exact iteF ⟨_, rfl, z⟩
  | true => exact iteT (z.mono fun w H4 z => rI0_bl z fun k H5 ⟨k', e, z⟩ => ⟨k, rfl, (show k' = k from e) ▸ z⟩)
end
end M

set_option Elab.async false
set_option linter.all false
set_option maxRecDepth 100000
set_option maxHeartbeats 4000000
/-! A10: calls, builtins, classes. -/
namespace M
open PySem L2 PyProof.Rows SlX

section
variable {W : Wo} {X : Cx} {ex : XK} {n k : Nat} {pos p1 p2 p3 p4 : Pos} {a b c : Expr} {A B C : E} {x : Str} {es : List Expr}
theorem mg_nil : MG W X ex [] .nil := pa_nil.imp fun _ _ _ h => tGs_nil h
theorem mg_v {r : Gs} (ha : ME W X ex a A) (hr : MG W X ex es r) (hs : starEach (a :: es) X.env = (false, eval a X.env) :: starEach es X.env := by rfl) : MG W X ex (a :: es) (.v A r) :=
  (pa_cons (ha false) hr hs).imp fun _ _ _ h => tGs_v h
theorem mg_b (i : Nat) {r : Gs} (hr : MG W X ex es r) (hN : X.N[i]? = some x := by rfl) (hv : Vis X.env.scope x := by first | exact Or.inl rfl | exact Or.inr (Or.inl rfl) | exact Or.inr (Or.inr rfl)) (hd : (x == ("__debug__" : Str)) = false := by decide)
    (hcd : (x == ("__classdict__" : Str)) = false := by decide) : MG W X ex (.Name x pos :: es) (.b i r) :=
  (pa_cons (pe_var hN hv hd hcd) hr rfl).imp fun _ _ _ h => tGs_b h
/-- a call by a promise of positional values -/
theorem pe_callF {CX : CXT} {f : Addr} {sp : Sp} {E : XK} {e : Expr} {t : TA} (F : FnG X.prog X.w X.K X.mg X.base CX k f sp) (qu : Qu X.A) (hr : Room k X.A) (hg : Gl X x) (hm : X.mg x = some (.ref f)) (hk : PySem.W.keepIn X.K (.ref f) = true) (hx : Passes CX X E)
    (ha : PA X (e :: es) t) (hdb : (x == ("__debug__" : Str)) = false := by decide) (he : starEach (e :: es) X.env = (false, eval e X.env) :: starEach es X.env := by rfl) (hpl : (backTo pos (starEach es X.env)).any (·.1) = false := by rfl) :
    PE X (.Call (.Name x p1) (e :: es) [] pos) (fun σ H Q => t σ H fun vs H1 => sp vs H1 Q E) := by
  refine ⟨fun pins s σ H Q I h => ?_⟩
  refine wpAny_Call_Name_kw (ld_glob I hg hm ?_ hdb)
  refine PySem.W.callWith_K (h₀ := X.base) I.ok.mod.kin hk (thn (ha.run pos pins s σ H _ I h) fun us s1 ⟨vs, H1, I1, r, q⟩ => ⟨I1.kIn, ?_⟩) he hpl
  exact wpAny_call (run_G F qu hr I1.env0 hx I1 r q)
/-- a property, a class -/
theorem pe_propG {CX : CXT} {te : TE} {C p h : Addr} {y : Str} {o : Expr} {sp : Sp} {E : XK} (he : PE X o te) (c : SCls X.K C) (at_ : PySem.W.findIn X.K (.ref C) y = some (some (.ref p))) (get : PySem.W.specialIn X.K (.ref p) "__get__" = some (some (.builtin "property.__get__")))
    (tk : PySem.W.takesIn X.K (.ref p) = some true) (rc : ∃ rest, PySem.W.recIn X.K p "property" = some (.ref h :: rest)) (F : FnG X.prog X.w X.K X.mg X.base CX k h sp) (qu : Qu X.A) (hr : Room (k + 1) X.A)
    (no : ∀ (H : Hp) (s : Shared) (e : Value) (s2 : Shared), CX X.stack H s E e s2 → False) (hb : attributeBase o y X.env (eval o X.env) = eval o X.env := by rfl) : PE X (.Attribute o y pos) (tPropSl C sp E te) := by
  refine ⟨fun pins s σ H Q I z => attr_of hb (thn (he.run pins s σ H _ I z) fun v s1 ⟨x, H1, I1, rx, a, dx, vs, ex, hs, q⟩ => ?_)⟩
  subst ex
  obtain rfl : v = Value.ref a := rx
  obtain ⟨sl, od, _, J, _⟩ := slt_inst I1 hs
  obtain ⟨rest, hrec⟩ := rc
  have I2 : Inv X pins σ H1 { s1 with toks := s1.toks + 1 } := I1.tok (s1.toks + 1)
  refine PySem.W.get_bind I1.kIn J (PySem.W.plainGet_of (c.get y)).1 (PySem.W.findObj_data c.ic at_ get tk) (PySem.W.plainGet_of (c.get y)).2 (wpAny_call (PySem.W.prop_get (s := { s1 with toks := s1.toks + 1 }) I1.kIn hrec ?_))
  refine codeAny_mono (F X.A.in1 X.stack _ H1 [.ref a] [.ref a] Q E qu.in1 hr.in1 I2.env0.in1 (.cons rfl .nil) q) fun r s2 w => ?_
  cases r with
  | error e => exact (no _ _ _ _ w).elim
  | ok fl =>
    cases fl with
    | ret u =>
      obtain ⟨v2, H2, I3, rv, q2⟩ := I2.after w
      exact wpAny_of_eq (PySem.W.handedOut_of (handed_of rv)) ⟨v2, H2, I3, rv, q2⟩
    | next => exact w.elim
    | brk => exact w.elim
    | cont => exact w.elim
theorem pe_makeG {CX : CXT} {C f : Addr} {sp : Sp} {E : XK} {e : Expr} {t : TA} (mk : Mk X.K C f) (F : FnG X.prog X.w X.K X.mg X.base CX k f sp) (qu : Qu X.A) (hr : Room (k + 1) X.A) (hg : Gl X x) (hm : X.mg x = some (.ref C)) (hx : Passes CX X E) (ha : PA X (e :: es) t) (hdb : (x == ("__debug__" : Str)) = false := by decide)
    (he : starEach (e :: es) X.env = (false, eval e X.env) :: starEach es X.env := by rfl) (hpl : (backTo pos (starEach es X.env)).any (·.1) = false := by rfl) : PE X (.Call (.Name x p1) (e :: es) [] pos) (StX.tMakeR C sp E t) := by
  refine ⟨fun pins s σ H Q I h => wpAny_Call_Name_kw (ld_glob I hg hm ?_ hdb)⟩
  exact PySem.W.callWith_K (h₀ := X.base) I.ok.mod.kin mk.kp (thn (ha.run pos pins s σ H _ I h) fun us s1 ⟨vs, H1, I1, r, q⟩ => ⟨I1.kIn, run_makeG mk F qu hr hx I1 r q⟩) he hpl
theorem Gd.fn (g : Gd W n X ex) {f : Addr} {sp : Sp} (F : FnG W.P W.w W.Z.K W.mg W.base (L2.CX W.P W.w) k f sp) : FnG X.prog X.w X.K X.mg X.base (L2.CX X.prog X.w) k f sp := by
  rw [g.hP, g.hw, g.hK, g.hm, g.hb]; exact F
theorem me_call [Calm W] {f : Nat} {gs : Gs} {e : Expr} (g : Gd W n X ex) (F : Fd W k x f) (ha : MG W X ex (e :: es) gs) (hk : k ≤ n := by omega) (hg : Gl X x := by rfl) (hdb : (x == ("__debug__" : Str)) = false := by decide) (he : starEach (e :: es) X.env = (false, eval e X.env) :: starEach es X.env := by rfl) (hpl : (backTo pos (starEach es X.env)).any (·.1) = false := by rfl) :
    ME W X ex (.Call (.Name x p1) (e :: es) [] pos) (.call f gs) := fun pk => by
  obtain ⟨a, h1, h2, h3⟩ := F.ex
  exact (pe_callF (g.fn h1) g.qu (g.room.mono hk) hg (by rw [g.hm]; exact h2) (by rw [g.hK]; exact h3) g.ps ha hdb he hpl).imp fun _ _ _ h => tE_call h
theorem me_callO [Calm W] {f : Nat} {e : Expr} (g : Gd W n X ex) (F : Fd W k x f) (ha : ME W X ex e A) (hk : k ≤ n := by omega) (hg : Gl X x := by rfl) (hdb : (x == ("__debug__" : Str)) = false := by decide) (he : starEach [e] X.env = (false, eval e X.env) :: starEach [] X.env := by rfl) (hpl : (backTo pos (starEach [] X.env)).any (·.1) = false := by rfl) :
    ME W X ex (.Call (.Name x p1) [e] [] pos) (.callO f A) := fun pk => by
  obtain ⟨a, h1, h2, h3⟩ := F.ex
  exact (pe_callF (g.fn h1) g.qu (g.room.mono hk) hg (by rw [g.hm]; exact h2) (by rw [g.hK]; exact h3) g.ps (pa_cons (ha false) pa_nil he) hdb he hpl).imp fun _ _ _ h => tE_callO h
/-! builtins -/
theorem me_b1 {p : P} {r : List V → Hp → VK → Prop} {id : String} (hc : CallR X (.builtin id) r) (hp : ∀ x H Q, PrimPost W.Z p [x] H Q → r [x] H Q) (hv : bootBuiltins x = some (.builtin id)) (hm : X.mg x = none) (ha : ME W X ex a A) (hg : Gl X x) (hn : x ≠ "__name__" := by decide)
    (hdb : (x == ("__debug__" : Str)) = false := by decide) (he : starEach [a] X.env = (false, eval a X.env) :: starEach [] X.env := by rfl) : ME W X ex (.Call (.Name x p1) [a] [] pos) (.prm p (.cons A .nil)) := fun pk =>
  (pe_callB hc hg hm hv (pa_cons (ha true) pa_nil he) hn hdb he rfl).imp fun s H Q h => (tEs1 (tE_prm h)).mono fun y H1 z => hp y H1 Q z
theorem me_t1 {p : P} {r : List V → Hp → VK → Prop} {id : String} (hc : CallR X (.type id) r) (hp : ∀ x H Q, PrimPost W.Z p [x] H Q → r [x] H Q) (hv : bootBuiltins x = some (.type id)) (hm : X.mg x = none) (ha : ME W X ex a A) (hg : Gl X x) (hn : x ≠ "__name__" := by decide)
    (hdb : (x == ("__debug__" : Str)) = false := by decide) (he : starEach [a] X.env = (false, eval a X.env) :: starEach [] X.env := by rfl) : ME W X ex (.Call (.Name x p1) [a] [] pos) (.prm p (.cons A .nil)) := fun pk =>
  (pe_callTy hc hg hm hv (pa_cons (ha true) pa_nil he) hn hdb he rfl).imp fun s H Q h => (tEs1 (tE_prm h)).mono fun y H1 z => hp y H1 Q z
theorem me_b2 {p : P} {r : List V → Hp → VK → Prop} {id : String} (hc : CallR X (.builtin id) r) (hp : ∀ x y H Q, PrimPost W.Z p [x, y] H Q → r [x, y] H Q) (hv : bootBuiltins x = some (.builtin id)) (hm : X.mg x = none) (ha : ME W X ex a A) (hb : ME W X ex b B) (hg : Gl X x) (hn : x ≠ "__name__" := by decide)
    (hdb : (x == ("__debug__" : Str)) = false := by decide) (he : starEach [a, b] X.env = (false, eval a X.env) :: starEach [b] X.env := by rfl) (he2 : starEach [b] X.env = (false, eval b X.env) :: starEach [] X.env := by rfl) (hpl : (backTo pos (starEach [b] X.env)).any (·.1) = false := by rfl) : ME W X ex (.Call (.Name x p1) [a, b] [] pos) (.prm p (.cons A (.cons B .nil))) := fun pk =>
  (pe_callB hc hg hm hv (pa_cons (ha true) (pa_cons (hb true) pa_nil he2) he) hn hdb he hpl).imp fun s H Q h => (tEs2 (tE_prm h)).mono fun y H1 z => z.mono fun u H2 z => hp y u H2 Q z
theorem me_len (g : Gd W n X ex) (hm : W.mg "len" = none) (ha : ME W X ex a A) (hg : Gl X "len" := by rfl) (he : starEach [a] X.env = (false, eval a X.env) :: starEach [] X.env := by rfl) : ME W X ex (.Call (.Name "len" p1) [a] [] pos) (.prm .len (.cons A .nil)) :=
  me_b1 (callr_or call_len_seq call_len_str) (fun x H Q h => by rw [g.hK]; exact pr_len h) boot_len (by rw [g.hm]; exact hm) ha hg (he := he)
theorem me_abs (g : Gd W n X ex) (hm : W.mg "abs" = none) (ha : ME W X ex a A) (hg : Gl X "abs" := by rfl) (he : starEach [a] X.env = (false, eval a X.env) :: starEach [] X.env := by rfl) : ME W X ex (.Call (.Name "abs" p1) [a] [] pos) (.prm .abs (.cons A .nil)) :=
  me_b1 call_abs (fun x H Q h => pr_abs h) boot_abs (by rw [g.hm]; exact hm) ha hg (he := he)
theorem me_all [Calm W] (g : Gd W n X ex) (hm : W.mg "all" = none) (ha : ME W X ex a A) (hg : Gl X "all" := by rfl) (he : starEach [a] X.env = (false, eval a X.env) :: starEach [] X.env := by rfl) : ME W X ex (.Call (.Name "all" p1) [a] [] pos) (.prm .all (.cons A .nil)) :=
  me_b1 (cr_all g.calm) (fun x H Q h => by rw [g.hK]; exact pr_all h) boot_all (by rw [g.hm]; exact hm) ha hg (he := he)
theorem me_max2 [Calm W] (g : Gd W n X ex) (hm : W.mg "max" = none) (ha : ME W X ex a A) (hb : ME W X ex b B) (hg : Gl X "max" := by rfl) (he : starEach [a, b] X.env = (false, eval a X.env) :: starEach [b] X.env := by rfl) (he2 : starEach [b] X.env = (false, eval b X.env) :: starEach [] X.env := by rfl) (hpl : (backTo pos (starEach [b] X.env)).any (·.1) = false := by rfl) : ME W X ex (.Call (.Name "max" p1) [a, b] [] pos) (.prm .max2 (.cons A (.cons B .nil))) :=
  me_b2 (call_max2 g.calm) (fun x y H Q h => pr_max2 h) boot_max (by rw [g.hm]; exact hm) ha hb hg (he := he) (he2 := he2) (hpl := hpl)
theorem me_min2 [Calm W] (g : Gd W n X ex) (hm : W.mg "min" = none) (ha : ME W X ex a A) (hb : ME W X ex b B) (hg : Gl X "min" := by rfl) (he : starEach [a, b] X.env = (false, eval a X.env) :: starEach [b] X.env := by rfl) (he2 : starEach [b] X.env = (false, eval b X.env) :: starEach [] X.env := by rfl) (hpl : (backTo pos (starEach [b] X.env)).any (·.1) = false := by rfl) : ME W X ex (.Call (.Name "min" p1) [a, b] [] pos) (.prm .min2 (.cons A (.cons B .nil))) :=
  me_b2 (call_min2 g.calm) (fun x y H Q h => pr_min2 h) boot_min (by rw [g.hm]; exact hm) ha hb hg (he := he) (he2 := he2) (hpl := hpl)
theorem me_divmod (g : Gd W n X ex) (hm : W.mg "divmod" = none) (ha : ME W X ex a A) (hb : ME W X ex b B) (hg : Gl X "divmod" := by rfl) (he : starEach [a, b] X.env = (false, eval a X.env) :: starEach [b] X.env := by rfl) (he2 : starEach [b] X.env = (false, eval b X.env) :: starEach [] X.env := by rfl) (hpl : (backTo pos (starEach [b] X.env)).any (·.1) = false := by rfl) : ME W X ex (.Call (.Name "divmod" p1) [a, b] [] pos) (.prm .divmod (.cons A (.cons B .nil))) :=
  me_b2 call_divmod (fun x y H Q h => pr_divmod h) boot_divmod (by rw [g.hm]; exact hm) ha hb hg (he := he) (he2 := he2) (hpl := hpl)
theorem me_toInt (g : Gd W n X ex) (hm : W.mg "int" = none) (ha : ME W X ex a A) (hg : Gl X "int" := by rfl) (he : starEach [a] X.env = (false, eval a X.env) :: starEach [] X.env := by rfl) : ME W X ex (.Call (.Name "int" p1) [a] [] pos) (.prm .int (.cons A .nil)) :=
  me_t1 (callr_or call_int1 call_int_str) (fun x H Q h => pr_int h) boot_int (by rw [g.hm]; exact hm) ha hg (he := he)
theorem me_tuple (g : Gd W n X ex) (hm : W.mg "tuple" = none) (ha : ME W X ex a A) (hg : Gl X "tuple" := by rfl) (he : starEach [a] X.env = (false, eval a X.env) :: starEach [] X.env := by rfl) : ME W X ex (.Call (.Name "tuple" p1) [a] [] pos) (.prm .tuple (.cons A .nil)) :=
  me_t1 call_tuple_of (fun x H Q h => by rw [g.hK]; exact pr_tuple h) boot_tuple (by rw [g.hm]; exact hm) ha hg (he := he)
theorem boot_str'' : bootBuiltins "str" = some (.type "str") := by decide +kernel
theorem me_strI (g : Gd W n X ex) (hm : W.mg "str" = none) (ha : ME W X ex a A) (hg : Gl X "str" := by rfl) (he : starEach [a] X.env = (false, eval a X.env) :: starEach [] X.env := by rfl) : ME W X ex (.Call (.Name "str" p1) [a] [] pos) (.prm .strI (.cons A .nil)) :=
  me_t1 call_str_int (fun x H Q h => pr_strI h) boot_str'' (by rw [g.hm]; exact hm) ha hg (he := he)
theorem me_join {apos : Pos} (g : Gd W n X ex) (ha : ME W X ex a A) (hb : ME W X ex b B) (hs : starEach [b] X.env = [(false, eval b X.env)] := by rfl) (hbase : attributeBase a "join" X.env (eval a X.env) = eval a X.env := by rfl) (hline : (apos.endLine == pos.line) = true := by rfl) :
    ME W X ex (.Call (.Attribute a "join" apos) [b] [] pos) (.mth .join A B) := fun pk =>
  (pe_join (ha false) (hb true) hs hbase hline).imp fun s H Q h => (tE_mth h).mono fun x H1 z => ⟨z.1, z.2.mono fun y H2 z => by rw [g.hK]; exact pr_join z⟩
theorem me_split {apos : Pos} (g : Gd W n X ex) (ha : ME W X ex a A) (hb : ME W X ex b B) (hs : starEach [b] X.env = [(false, eval b X.env)] := by rfl) (hbase : attributeBase a "split" X.env (eval a X.env) = eval a X.env := by rfl) (hline : (apos.endLine == pos.line) = true := by rfl) :
    ME W X ex (.Call (.Attribute a "split" apos) [b] [] pos) (.mth .split A B) := fun pk =>
  (pe_split (ha false) (hb true) hs hbase hline).imp fun s H Q h => (tE_mth h).mono fun x H1 z => ⟨z.1, z.2.mono fun y H2 z => pr_split z⟩
/-! classes with slots -/
/-- what isinstance asks of the classes 0 .. m-1 -/
structure Co (Z : Zc) (m : Nat) : Prop where
  sc : ∀ i, i < m → SCls Z.K (Z.C i)
  si : ∀ i, i < m → SIsi Z.K (Z.C i)
  kt : ∀ i, i < m → ∀ t ∈ ["int", "str", "tuple", "list", "bool"], PySem.W.kitOne Z.K (.ref (Z.C i)) (.type t) = some false
  kb : ∀ i, i < m → ∀ t ∈ ["int", "str", "tuple", "list", "bool", "NoneType", "dict"], PySem.W.kitOne Z.K (.type t) (.ref (Z.C i)) = some false
  kc : ∀ i j, i < m → j < m → PySem.W.kitOne Z.K (.ref (Z.C i)) (.ref (Z.C j)) = some (i == j)
theorem slt_of {Z : Zc} {H : Hp} {R : Pr} {v : V} {i : Nat} {ds : List D} (h : Rep Z H R v (.ins i ds)) : i < Z.nc ∧ ∃ a dx xs, v = .ref a ∧ Slt H a (Z.C i) dx (xs.map some) ∧ RepL Z H R xs ds := by
  cases h with
  | ins h0 h1 h2 n1 n2 b => exact ⟨h0, _, _, _, rfl, .inr ⟨h1, h2⟩, b⟩
def tyOf : D → String
  | .non => "NoneType" | .bl _ => "bool" | .int _ => "int" | .str _ => "str" | .tup _ => "tuple" | .lst _ => "list" | .ins _ _ => "" | .cls _ => "" | .exn _ _ => "" | .dct _ => "dict"
theorem tyX_of {Z : Zc} {H : Hp} {R : Pr} {v : V} {d : D} (h : RepP Z H R v d) (n : ∀ c fs, d ≠ .ins c fs) (n2 : ∀ c, d ≠ .cls c) (n3 : ∀ c fs, d ≠ .exn c fs) : TyX Z.K H v (.type (tyOf d)) := by
  cases d with
  | non => rw [h.non]; exact .base .non
  | bl b => rw [h.bl]; exact .base (.bl b)
  | int b => rw [h.int]; exact .base (.int b)
  | str b => rw [h.str]; exact .base (.str b)
  | ins c fs => exact absurd rfl (n c fs)
  | cls c => exact absurd rfl (n2 c)
  | exn c fs => exact absurd rfl (n3 c fs)
  | dct kvs =>
    rcases h with h | ⟨_, _, _, e, _⟩
    · cases h with
      | dct h1 n1 => exact .base (.dK h1)
    · cases e
  | tup ds =>
    obtain ⟨a, xs, rfl, h1, h2⟩ := h.tup
    rcases h1.sq with (h1 | ⟨o, h1⟩) | ⟨o, its, n, h1, h2, _⟩
    · exact .base (.tup h1)
    · exact .fTuple h1
    · exact .kTuple h1 h2
  | lst ds =>
    obtain ⟨a, xs, rfl, h1, h2⟩ := h.lst
    rcases h1 with (h1 | ⟨o, h1⟩) | ⟨o, its, n, h1, h2, _⟩
    · exact .base (.lst h1)
    · exact .base (.frz h1)
    · exact .kList h1 h2
theorem pr_isi {t : String} (co : Co W.Z W.Z.nc) (ht : t ∈ ["int", "str", "tuple", "list", "bool"]) {x : V} {H : Hp} {Q : VK} (h : PrimPost W.Z (.isi t) [x] H Q) : rIsi W.Z.K [x, .ty t] H Q ∨ rIsiSl W.Z.K (.type t) [x, .ty t] H Q := by
  obtain ⟨R, ds, hr, rq, nw, d, e, k⟩ := h
  obtain ⟨d0, rfl, rp⟩ := repPs1 rq
  simp only [evP] at e
  by_cases hi : ∃ c fs, d0 = .ins c fs
  · obtain ⟨c, fs, rfl⟩ := hi
    simp only [isiD] at e
    cases e
    obtain ⟨hc, a, dx, xs, rfl, hs, _⟩ := slt_of rp.ins
    exact .inr ⟨a, _, dx, _, .ty t, false, rfl, rfl, fun w z => z, hs, co.sc c hc, co.si c hc, co.kt c hc t ht, k _ H (Same.refl H) (.bl _)⟩
  · have hn : ∀ c fs, d0 ≠ .ins c fs := fun c fs z => hi ⟨c, fs, z⟩
    have hn2 : ∀ c, d0 ≠ .cls c := fun c z => by subst z; cases e
    have hn3 : ∀ c fs, d0 ≠ .exn c fs := fun c fs z => by subst z; cases e
    have key : ∃ b, isiD t d0 = some b ∧ kitB (tyOf d0) t = some b := by
      simp only [List.mem_cons, List.mem_nil_iff, or_false] at ht
      cases d0 with
      | ins c fs => exact absurd rfl (hn c fs)
      | cls c => exact absurd rfl (hn2 c)
      | exn c fs => exact absurd rfl (hn3 c fs)
      | _ => rcases ht with rfl | rfl | rfl | rfl | rfl <;> exact ⟨_, rfl, by simp only [tyOf]; decide +kernel⟩
    obtain ⟨b, k1, k2⟩ := key
    rw [k1] at e
    cases e
    exact .inl ⟨x, .ty t, _, _, b, rfl, .ty t, tyX_of rp hn hn2 hn3, kit_ty k2, k _ H (Same.refl H) (.bl _)⟩
theorem pr_isiC {i : Nat} (co : Co W.Z W.Z.nc) (hi : i < W.Z.nc) {x : V} {H : Hp} {Q : VK} (h : PrimPost W.Z (.isiC i) [x] H Q) : rIsi W.Z.K [x, .ref (W.Z.C i)] H Q ∨ rIsiSl W.Z.K (.ref (W.Z.C i)) [x, .ref (W.Z.C i)] H Q := by
  obtain ⟨R, ds, hr, rq, nw, d, e, k⟩ := h
  obtain ⟨d0, rfl, rp⟩ := repPs1 rq
  by_cases hj : ∃ c fs, d0 = .ins c fs
  · obtain ⟨c, fs, rfl⟩ := hj
    simp only [evP] at e
    cases e
    obtain ⟨hc, a, dx, xs, rfl, hs, _⟩ := slt_of rp.ins
    exact .inr ⟨a, _, dx, _, .ref (W.Z.C i), _, rfl, rfl, fun w z => z, hs, co.sc c hc, co.si c hc, co.kc c i hc hi, k _ H (Same.refl H) (.bl _)⟩
  · have hn : ∀ c fs, d0 ≠ .ins c fs := fun c fs z => hj ⟨c, fs, z⟩
    have hn2 : ∀ c, d0 ≠ .cls c := fun c z => by subst z; cases e
    have hn3 : ∀ c fs, d0 ≠ .exn c fs := fun c fs z => by subst z; cases e
    have e' : nw = false ∧ d = .bl false := by
      cases d0 with
      | ins c fs => exact absurd rfl (hn c fs)
      | cls c => exact absurd rfl (hn2 c)
      | exn c fs => exact absurd rfl (hn3 c fs)
      | _ => simp only [evP] at e; cases e; exact ⟨rfl, rfl⟩
    obtain ⟨rfl, rfl⟩ := e'
    have ht : tyOf d0 ∈ ["int", "str", "tuple", "list", "bool", "NoneType", "dict"] := by
      cases d0 with
      | ins c fs => exact absurd rfl (hn c fs)
      | cls c => exact absurd rfl (hn2 c)
      | exn c fs => exact absurd rfl (hn3 c fs)
      | _ => simp only [tyOf]; decide
    exact .inl ⟨x, .ref (W.Z.C i), _, _, false, rfl, .own _, tyX_of rp hn hn2 hn3, co.kb i hi _ ht, k _ H (Same.refl H) (.bl _)⟩
theorem boot_bool' : bootBuiltins "bool" = some (.type "bool") := by decide +kernel
theorem me_isiT {t : String} {T : Str} (g : Gd W n X ex) (co : Co W.Z W.Z.nc) (ht : t ∈ ["int", "str", "tuple", "list", "bool"]) (hv : bootBuiltins T = some (.type t)) (hm : W.mg "isinstance" = none) (hm2 : W.mg T = none) (ha : ME W X ex a A) (hg : Gl X "isinstance") (hg2 : Gl X T) (hn : T ≠ "__name__")
    (hd : (T == ("__debug__" : Str)) = false) (he : starEach [a, .Name T p2] X.env = (false, eval a X.env) :: starEach [.Name T p2] X.env) : ME W X ex (.Call (.Name "isinstance" p1) [a, .Name T p2] [] pos) (.prm (.isi t) (.cons A .nil)) := fun pk =>
  (pe_callB (callr_or call_isi (call_isiSl (.type t))) hg (by rw [g.hm]; exact hm) boot_isinstance (pa_cons (ha true) (pa_cons (pe_bltn (v := .ty t) hg2 (by rw [g.hm]; exact hm2) hv rfl hn hd) pa_nil) he) (he := he)).imp fun s H Q h => (tEs1 (tE_prm h)).mono fun y H1 z => by
    rw [g.hK]; exact pr_isi co ht z
theorem me_isiC {i : Nat} {T : Str} (g : Gd W n X ex) (co : Co W.Z W.Z.nc) (hi : i < W.Z.nc) (hm : W.mg "isinstance" = none) (hm2 : W.mg T = some (.ref (W.Z.C i))) (ha : ME W X ex a A) (hg : Gl X "isinstance" := by rfl) (hg2 : Gl X T := by rfl)
    (hd : (T == ("__debug__" : Str)) = false := by decide) (he : starEach [a, .Name T p2] X.env = (false, eval a X.env) :: starEach [.Name T p2] X.env := by rfl) : ME W X ex (.Call (.Name "isinstance" p1) [a, .Name T p2] [] pos) (.prm (.isiC i) (.cons A .nil)) := fun pk =>
  (pe_callB (callr_or call_isi (call_isiSl (.ref (W.Z.C i)))) hg (by rw [g.hm]; exact hm) boot_isinstance (pa_cons (ha true) (pa_cons (pe_glob (v := .ref (W.Z.C i)) hg2 (by rw [g.hm]; exact hm2) rfl hd) pa_nil) he) (he := he)).imp fun s H Q h => (tEs1 (tE_prm h)).mono fun y H1 z => by
    rw [g.hK]; exact pr_isiC co hi z
theorem me_isInt (g : Gd W n X ex) (co : Co W.Z W.Z.nc) (hm : W.mg "isinstance" = none) (hm2 : W.mg "int" = none) (ha : ME W X ex a A) (hg : Gl X "isinstance" := by rfl) (hg2 : Gl X "int" := by rfl) (he : starEach [a, .Name "int" p2] X.env = (false, eval a X.env) :: starEach [.Name "int" p2] X.env := by rfl) :
    ME W X ex (.Call (.Name "isinstance" p1) [a, .Name "int" p2] [] pos) (.prm (.isi "int") (.cons A .nil)) := me_isiT g co (by decide) boot_int hm hm2 ha hg hg2 (by decide) (by decide) he
theorem me_isBool (g : Gd W n X ex) (co : Co W.Z W.Z.nc) (hm : W.mg "isinstance" = none) (hm2 : W.mg "bool" = none) (ha : ME W X ex a A) (hg : Gl X "isinstance" := by rfl) (hg2 : Gl X "bool" := by rfl) (he : starEach [a, .Name "bool" p2] X.env = (false, eval a X.env) :: starEach [.Name "bool" p2] X.env := by rfl) :
    ME W X ex (.Call (.Name "isinstance" p1) [a, .Name "bool" p2] [] pos) (.prm (.isi "bool") (.cons A .nil)) := me_isiT g co (by decide) boot_bool' hm hm2 ha hg hg2 (by decide) (by decide) he
theorem me_isStr (g : Gd W n X ex) (co : Co W.Z W.Z.nc) (hm : W.mg "isinstance" = none) (hm2 : W.mg "str" = none) (ha : ME W X ex a A) (hg : Gl X "isinstance" := by rfl) (hg2 : Gl X "str" := by rfl) (he : starEach [a, .Name "str" p2] X.env = (false, eval a X.env) :: starEach [.Name "str" p2] X.env := by rfl) :
    ME W X ex (.Call (.Name "isinstance" p1) [a, .Name "str" p2] [] pos) (.prm (.isi "str") (.cons A .nil)) := me_isiT g co (by decide) boot_str hm hm2 ha hg hg2 (by decide) (by decide) he
theorem me_isTuple (g : Gd W n X ex) (co : Co W.Z W.Z.nc) (hm : W.mg "isinstance" = none) (hm2 : W.mg "tuple" = none) (ha : ME W X ex a A) (hg : Gl X "isinstance" := by rfl) (hg2 : Gl X "tuple" := by rfl) (he : starEach [a, .Name "tuple" p2] X.env = (false, eval a X.env) :: starEach [.Name "tuple" p2] X.env := by rfl) :
    ME W X ex (.Call (.Name "isinstance" p1) [a, .Name "tuple" p2] [] pos) (.prm (.isi "tuple") (.cons A .nil)) := me_isiT g co (by decide) boot_tuple hm hm2 ha hg hg2 (by decide) (by decide) he
/-! fields, properties -/
/-- the field f of the class c: the i-th -/
structure Sd (W : Wo) (c : Nat) (f : Str) (i : Nat) : Prop where
  sc : SCls W.Z.K (W.Z.C c)
  sl : ∃ p, Slot1 W.Z.K (W.Z.C c) f p i
theorem tE_fld {Z : Zc} {K : Calls} {s : Sg} {H : Hp} {c i : Nat} {pk : Bool} {Q : VK} (h : tE Z K ex (.fld c i A) pk s H Q) : tE Z K ex A false s H fun x H1 => ∃ a dx vs v, x = .ref a ∧ Slt H1 a (Z.C c) dx vs ∧ vs[i]? = some (some v) ∧ Q v H1 := by
  unfold tE at h
  rw [show ev K (.fld c i A) pk = fun q => bindR (ev K A false q) fun r q1 => match r with
    | .val (.ins c' fs) => if c' = c then match fs[i]? with
        | some d => .ok (.val d) q1
        | none => .bad
      else .bad
    | _ => .bad from rfl] at h
  refine TR.bind h fun R0 q q1 r w H1 f0 l b p z => ?_
  cases r with
  | new d => exact z.elim
  | slot d => exact z.elim
  | val d =>
    cases d with
    | ins c' fs =>
      dsimp only at z
      by_cases hc : c' = c
      · rw [if_pos hc] at z
        subst hc
        cases e : fs[i]? with
        | none => rw [e] at z; exact z.elim
        | some d =>
          rw [e] at z
          obtain ⟨_, a, dx, xs, rfl, hs, hr⟩ := slt_of p.2
          obtain ⟨v, e1, e2⟩ := hr.get e
          exact ⟨a, dx, _, v, rfl, hs, mget e1, z v H1 l b ⟨p.1, e2⟩⟩
      · rw [if_neg hc] at z; exact z.elim
    | _ => exact z.elim
theorem me_fld {c i : Nat} {f : Str} (g : Gd W n X ex) (S : Sd W c f i) (ha : ME W X ex a A) (hb : attributeBase a f X.env (eval a X.env) = eval a X.env := by rfl) : ME W X ex (.Attribute a f pos) (.fld c i A) := fun pk =>
  (pe_sl (ha false) hb).imp fun s H Q h => (tE_fld h).mono fun x H1 z => by
    obtain ⟨a, dx, vs, v, e1, e2, e3, q⟩ := z
    obtain ⟨p, t⟩ := S.sl
    rw [g.hK]
    exact ⟨a, _, dx, p, vs, i, v, e1, e2, S.sc, t, e3, q⟩
/-- the property f of the class c: the def's promise -/
structure Pd (W : Wo) (k c : Nat) (x : Str) (f : Nat) : Prop where
  sc : SCls W.Z.K (W.Z.C c)
  ex : ∃ p a, PySem.W.findIn W.Z.K (.ref (W.Z.C c)) x = some (some (.ref p)) ∧ PySem.W.specialIn W.Z.K (.ref p) "__get__" = some (some (.builtin "property.__get__")) ∧ PySem.W.takesIn W.Z.K (.ref p) = some true ∧
    (∃ rest, PySem.W.recIn W.Z.K p "property" = some (.ref a :: rest)) ∧ FnG W.P W.w W.Z.K W.mg W.base (L2.CX W.P W.w) k a (spF W.Z W.K f)
theorem me_prop [Calm W] {c f : Nat} {y : Str} (g : Gd W n X ex) (S : Pd W k c y f) (ha : ME W X ex a A) (hk : k + 1 ≤ n := by omega) (hb : attributeBase a y X.env (eval a X.env) = eval a X.env := by rfl) : ME W X ex (.Attribute a y pos) (.prop c f A) := fun pk => by
  obtain ⟨p, b, h1, h2, h3, h4, F⟩ := S.ex
  refine (pe_propG (C := W.Z.C c) (p := p) (CX := L2.CX X.prog X.w) (E := E0) (ha false) ?_ ?_ ?_ ?_ ?_ (g.fn F) g.qu (g.room.mono hk) (fun H s e s' hx => ?_) hb).imp fun s H Q h => (tE_prop h).mono fun x H1 z => ?_
  · rw [g.hK]; exact S.sc
  · rw [g.hK]; exact h1
  · rw [g.hK]; exact h2
  · rw [g.hK]; exact h3
  · rw [g.hK]; exact h4
  · obtain ⟨_, _, _, _, _, _, _, _, _, _, _, _, z⟩ := hx
    exact z.elim
  · obtain ⟨⟨R, ds, hr⟩, q⟩ := z
    obtain ⟨_, a', dx, xs, rfl, hs, _⟩ := slt_of hr
    exact ⟨a', dx, _, rfl, hs, q⟩
/-! an instance is made -/
def AnC (Z : Zc) (E : XK) (C : Addr) (R0 : Pr) (x dx : Addr) (H : Hp) (Q : VK) : Res (List D) → Prop
  | .ok fs _ => ∀ ws H', KpN H H' x dx → Grd Z H' → H' x = some (SlO x C dx (ws.map some)) → H' dx = some (.xd []) → RepL Z H' R0 ws fs → Q .non H'
  | .exc c ds _ => ∀ d H', KpN H H' x dx → Grd Z H' → XRep Z H' R0 c ds d → E (.ref (Z.C c)) d H'
  | .bad => False
def spC (Z : Zc) (K : Calls) (c : Nat) : Sp := fun vs H Q E => ∃ x dx vs' R0 q, vs = .ref x :: vs' ∧ H x = some (.ins (Z.C c) dx []) ∧ H dx = some (.own x) ∧ dx ≠ x ∧ R0 x ∧ R0 dx ∧ FR Z R0 (vs'.map some) q H ∧
  (∀ (i : Nat) b d, q[i]? ≠ some (.ow b d)) ∧ AnC Z E (Z.C c) R0 x dx H Q (K.cn c q)
structure Md (W : Wo) (k : Nat) (x : Str) (c : Nat) : Prop where
  ex : ∃ a, Mk W.Z.K (W.Z.C c) a ∧ FnG W.P W.w W.Z.K W.mg W.base (L2.CX W.P W.w) k a (spC W.Z W.K c) ∧ W.mg x = some (.ref (W.Z.C c))
  lt : c < W.Z.nc
theorem make_an {Z : Zc} {K : Calls} {s : Sg} {H H1 : Hp} {c : Nat} {Q : VK} {R0 : Pr} {q q1 : Fm} {ws : List V} {l : List Ga} (hc : c < Z.nc) (la : Lat (Ow s q) H (Ow s q1) H1) (bk : BK q q1) (p : PoG Z R0 s H q1 H1 ws l) (z : An Z ex R0 s q H (PoV Z R0 s H) Q (makeR K c l q1)) :
    ∀ x dx, H1 x = none → H1 dx = none → dx ≠ x → spC Z K c (.ref x :: ws) (upd (upd H1 dx (.own x)) x (.ins (Z.C c) dx [])) (fun v H2 => v = .non ∧ Q (.ref x) H2) ex := by
  obtain ⟨f1, ga⟩ := p
  intro x dx hx hdx ne
  unfold makeR at z
  by_cases hl : lentIx l = []
  case neg => rw [if_neg hl] at z; exact z.elim
  rw [if_pos hl] at z
  cases e : lent q1 l with
  | none => rw [e] at z; exact z.elim
  | some as =>
    rw [e] at z
    dsimp only at z
    have nd : (lentIx l).Nodup := by rw [hl]; exact List.nodup_nil
    have fc := lend f1 ga nd e
    have sm : Same H1 (upd (upd H1 dx (.own x)) x (.ins (Z.C c) dx [])) := fun b o h => by rw [upd_ne (ne_of_none h hx), upd_ne (ne_of_none h hdx)]; exact h
    have up : ∀ b, Rt R0 s q1 b → R0c R0 s q1 l b := fun b y => by
      rcases y with y | ⟨i, b', d, y1, y2⟩
      · exact .inl y
      · exact .inr ⟨i, b', d, by rw [hl]; simp, y1, y2⟩
    have smH : ∀ {H' : Hp}, KpN (upd (upd H1 dx (.own x)) x (.ins (Z.C c) dx [])) H' x dx → (∀ b o, H1 b = some o → NT o → H' b = some o) ∧ ∀ b, H1 b ≠ none → H' b ≠ none := fun {H'} kp => ⟨fun b o h nt => kp.kp b o (sm b o h) (ne_of_none h hx) (ne_of_none h hdx) nt, fun b h => kp.tr b ((Lat.same (R := Ow s q) sm).tr b h)⟩
    refine ⟨x, dx, ws, fun b => R0c R0 s q1 l b ∨ b = x ∨ b = dx, as, rfl, upd_same, by rw [upd_ne ne, upd_same], ne, .inr (.inl rfl), .inr (.inr rfl), fc.on sm (fun b y => ?_) (fun b y => ?_), fun i b d e2 => ?_, ?_⟩
    · rcases y with y | y | y
      · exact .inl y
      · exact .inr (y ▸ hx)
      · exact .inr (y ▸ hdx)
    · rcases y with y | y | y
      · exact (Lat.same (R := Ow s q) sm).tr b (fc.trk b y)
      · rw [y, upd_same]; exact fun z => nomatch z
      · rw [y, upd_ne ne, upd_same]; exact fun z => nomatch z
    · rcases lent_at e e2 with ⟨d', _, e3⟩ | ⟨i', b2, d2, e1, _, _⟩
      · cases e3
      · have := lentIx_mem e1
        rw [hl] at this
        cases this
    · cases hr : K.cn c as with
      | bad => rw [hr] at z; exact z.elim
      | exc c' ds q2 =>
        rw [hr] at z
        intro d H' kp gr x2
        obtain ⟨s3, t3⟩ := smH kp
        exact z d H' (la.trans (Lat.sameN s3 t3)) bk (f1.onN s3 t3 gr (fun _ y => .inl y) fun b y => t3 b (f1.trk b y)) (x2.lat (Lat.sub fun b y => .inl (up b y)))
      | ok fs q2 =>
        rw [hr] at z
        intro ws' H' kp gr h1 h2 hr2
        obtain ⟨s3, t3⟩ := smH kp
        refine ⟨rfl, z (.ref x) H' (la.trans (Lat.sameN s3 t3)) bk ⟨f1.onN s3 t3 gr (fun _ y => .inl y) fun b y => t3 b (f1.trk b y), .ins hc h1 h2 (fun y => ?_) (fun y => ?_) (hr2.lat (Lat.sub fun b y => .inl (up b y)))⟩⟩
        · exact f1.rtT y hx
        · exact f1.rtT y hdx
theorem tE_make {Z : Zc} {K : Calls} {s : Sg} {H : Hp} {c : Nat} {gs : Gs} {pk : Bool} {Q : VK} (hc : c < Z.nc) (h : tE Z K ex (.make c gs) pk s H Q) : StX.tMakeR (Z.C c) (spC Z K c) ex (tGs Z K ex gs) s H Q := by
  unfold tE at h
  rw [show ev K (.make c gs) pk = fun q => bindR (evG K gs q) fun l q1 => makeR K c l q1 from rfl] at h
  exact TR.bind h fun R0 q q1 l ws H1 f0 la bk p z => make_an hc la bk p z
theorem tE_makeP {Z : Zc} {K : Calls} {s : Sg} {H : Hp} {c : Nat} {pm : List Nat} {gs : Gs} {pk : Bool} {Q : VK} (hc : c < Z.nc) (h : tE Z K ex (.makeP c pm gs) pk s H Q) : tGs Z K ex gs s H fun vs H1 => ∀ x dx, H1 x = none → H1 dx = none → dx ≠ x →
    spC Z K c (.ref x :: pick pm vs) (upd (upd H1 dx (.own x)) x (.ins (Z.C c) dx [])) (fun v H2 => v = .non ∧ Q (.ref x) H2) ex := by
  unfold tE at h
  rw [show ev K (.makeP c pm gs) pk = fun q => bindR (evG K gs q) fun l q1 => makeR K c (pick pm l) q1 from rfl] at h
  exact TR.bind h fun R0 q q1 l ws H1 f0 la bk p z => make_an hc la bk ⟨p.1, gaR_pick p.2 pm⟩ z
theorem me_make [Calm W] {c : Nat} {gs : Gs} {e : Expr} (g : Gd W n X ex) (md : Md W k x c) (ha : MG W X ex (e :: es) gs) (hk : k + 1 ≤ n := by omega) (hg : Gl X x := by rfl) (hdb : (x == ("__debug__" : Str)) = false := by decide) (he : starEach (e :: es) X.env = (false, eval e X.env) :: starEach es X.env := by rfl) (hpl : (backTo pos (starEach es X.env)).any (·.1) = false := by rfl) :
    ME W X ex (.Call (.Name x p1) (e :: es) [] pos) (.make c gs) := fun pk => by
  obtain ⟨a, h1, h2, h3⟩ := md.ex
  exact (pe_makeG (by rw [g.hK]; exact h1) (g.fn h2) g.qu (g.room.mono hk) hg (by rw [g.hm]; exact h3) g.ps ha hdb he hpl).imp fun _ _ _ h => tE_make md.lt h
/-! append, extend -/
end
end M

set_option Elab.async false
set_option linter.all false
set_option maxRecDepth 100000
set_option maxHeartbeats 4000000
/-! A11: what is walked; targets. -/
namespace M
open PySem L2 PyProof.Rows

def Gen (Z : Zc) (R : Pr) (H : Hp) (J : It) (ds : List D) : Prop := ∃ G Y, Walk J ds.length G Y ∧ (∀ R' H', Lat R H R' H' → G H') ∧
  ∀ (i : Nat) x R' H' H'' d, ds[i]? = some d → Lat R H R' H' → (∀ b, R' b → H' b ≠ none) → Y i H' x H'' → Same H' H'' ∧ Rep Z H'' R' x d
def PoJ (Z : Zc) (R0 : Pr) (s : Sg) (H : Hp) (q' : Fm) (H' : Hp) (J : It) (ds : List D) : Prop := FR Z R0 s q' H' ∧ Gen Z (Rt R0 s q') H' J ds
def tI (Z : Zc) (K : Calls) (ex : XK) (it : I) : TI := TR Z ex (evI K it) (PoJ Z)
def MI (W : Wo) (X : Cx) (ex : XK) (tg e : Expr) (t : I) : Prop := PI X tg e (tI W.Z W.K ex t)
theorem _root_.L2.PI.imp {X : Cx} {tg e : Expr} {t t' : TI} (h : PI X tg e t) (i : ∀ s H Q, t' s H Q → t s H Q) : PI X tg e t' := ⟨fun pins s σ H Q I q => h.run pins s σ H Q I (i σ H Q q)⟩
theorem Gen.mono {Z : Zc} {R R' : Pr} {H H' : Hp} {J : It} {ds : List D} (g : Gen Z R H J ds) (l : Lat R H R' H') : Gen Z R' H' J ds := by
  obtain ⟨G, Y, w, h1, h2⟩ := g
  exact ⟨G, Y, w, fun R2 H2 l2 => h1 R2 H2 (l.trans l2), fun i x R2 H2 H3 d e l2 => h2 i x R2 H2 H3 d e (l.trans l2)⟩
section
variable {Z : Zc} {R : Pr} {H : Hp} {ds : List D} {a : Addr} {xs : List V}
theorem gen_lst (h : AtL Z.K H R a xs) (r : RepL Z H R xs ds) : Gen Z R H (Itl Z.K a) ds := by
  refine ⟨fun H => SqL Z.K H a xs, YAt xs, r.length ▸ walk_list, fun R' H' l => (h.lat l).sq, fun i x R' H' H'' d e l ht y => ?_⟩
  obtain ⟨rfl, y⟩ := y
  obtain ⟨v, h1, h2⟩ := (r.lat l).get e
  rw [y] at h1; cases h1
  exact ⟨Same.refl _, h2⟩
theorem gen_tup (h : AtT Z.K H R a xs) (r : RepL Z H R xs ds) : Gen Z R H (Itt Z.K a) ds := by
  refine ⟨fun H => SqT Z.K H a xs, YAt xs, r.length ▸ walk_tup, fun R' H' l => (h.lat l).sq, fun i x R' H' H'' d e l ht y => ?_⟩
  obtain ⟨rfl, y⟩ := y
  obtain ⟨v, h1, h2⟩ := (r.lat l).get e
  rw [y] at h1; cases h1
  exact ⟨Same.refl _, h2⟩
theorem gen_str (z : Str) : Gen Z R H (Its z) (strL z) := by
  have hl : (strL z).length = z.cps.size := by unfold strL; simp
  refine ⟨fun _ => True, _, hl ▸ walk_str, fun _ _ _ => True.intro, fun i x R' H' H'' d e l ht y => ?_⟩
  obtain ⟨rfl, c, h1, rfl⟩ := y
  refine ⟨Same.refl _, ?_⟩
  have : (strL z)[i]? = some (.str ⟨#[c]⟩) := by unfold strL; simp [h1]
  rw [this] at e; cases e
  exact .str _
theorem gen_rng {lo : Int} {n : Nat} : Gen Z R H (Itr lo n) (rngL lo n) := by
  have hl : (rngL lo n).length = n := by unfold rngL; simp
  refine ⟨fun _ => True, _, by rw [hl]; exact walk_range, fun _ _ _ => True.intro, fun i x R' H' H'' d e l ht y => ?_⟩
  obtain ⟨rfl, rfl⟩ := y
  refine ⟨Same.refl _, ?_⟩
  unfold rngL at e
  rw [List.getElem?_map] at e
  cases e2 : (List.range n)[i]? with
  | none => rw [e2] at e; cases e
  | some k =>
    rw [e2] at e; cases e
    have : k = i := by
      have := List.getElem?_eq_some_iff.mp e2
      obtain ⟨h1, h2⟩ := this
      simpa using h2.symm
    subst this
    exact .int _
theorem gen_rngC {lo c : Int} {n : Nat} : Gen Z R H (Itc lo c n) (rngC lo c n) := by
  have hl : (rngC lo c n).length = n := by unfold rngC; simp
  refine ⟨fun _ => True, _, by rw [hl]; exact walk_rangeC, fun _ _ _ => True.intro, fun i x R' H' H'' d e l ht y => ?_⟩
  obtain ⟨rfl, rfl⟩ := y
  refine ⟨Same.refl _, ?_⟩
  unfold rngC at e
  rw [List.getElem?_map] at e
  cases e2 : (List.range n)[i]? with
  | none => rw [e2] at e; cases e
  | some k =>
    rw [e2] at e; cases e
    have : k = i := by
      have := List.getElem?_eq_some_iff.mp e2
      obtain ⟨h1, h2⟩ := this
      simpa using h2.symm
    subst this
    exact .int _
/-- a list or a tuple -/
def AtX (b : Bool) (K : PySem.W.Frag) (H : Hp) (R : Pr) (a : Addr) (xs : List V) : Prop := match b with | true => AtT K H R a xs | false => AtL K H R a xs
theorem AtX.sq {b : Bool} {K : PySem.W.Frag} (h : AtX b K H R a xs) : SqX b K H a xs := by
  cases b with
  | true => exact AtT.sq h
  | false => exact AtL.sq h
theorem AtX.lat {b : Bool} {K : PySem.W.Frag} {R' : Pr} {H' : Hp} (l : Lat R H R' H') (h : AtX b K H R a xs) : AtX b K H' R' a xs := by
  cases b with
  | true => exact AtT.lat l h
  | false => exact AtL.lat l h
theorem rep_seq {v : V} {d : D} (h : Rep Z H R v d) (e : seqD d = some ds) : ∃ b a xs, v = .ref a ∧ AtX b Z.K H R a xs ∧ RepL Z H R xs ds := by
  cases h with
  | tup h1 h2 => cases e; exact ⟨true, _, _, rfl, h1, h2⟩
  | lst h1 h2 => cases e; exact ⟨false, _, _, rfl, h1, h2⟩
  | _ => cases e
theorem enmL_len : ∀ (k : Nat) (ds : List D), (enmL k ds).length = ds.length
  | _, [] => rfl
  | k, d :: ds => by rw [enmL, List.length_cons, enmL_len (k + 1) ds, List.length_cons]
theorem enmL_at : ∀ (k i : Nat) (ds : List D), (enmL k ds)[i]? = ds[i]?.map fun d => .tup [.int ((k + i : Nat)), d]
  | _, _, [] => by simp [enmL]
  | k, 0, d :: ds => by simp [enmL]
  | k, i + 1, d :: ds => by
    rw [enmL, List.getElem?_cons_succ, List.getElem?_cons_succ, enmL_at (k + 1) i ds]
    congr 1
    funext d
    rw [show k + 1 + i = k + (i + 1) by omega]
theorem gen_enm {b : Bool} (h : AtX b Z.K H R a xs) (r : RepL Z H R xs ds) : Gen Z R H (IteX b Z.K a) (enmL 0 ds) := by
  refine ⟨fun H => SqX b Z.K H a xs, YPair (fun i => some (.int (i : Nat))) (fun i => xs[i]?), ?_, fun R' H' l => (h.lat l).sq, fun i x R' H' H'' d e l ht y => ?_⟩
  · rw [enmL_len, ← r.length]
    refine ⟨fun i H hi q => ⟨xs, xs[i], q, by simp [hi]⟩, fun H q => ⟨xs, q, rfl⟩, fun i H v H' hi q y => ?_⟩
    obtain ⟨T, x, h1, h2, h3, h4⟩ := y
    exact ⟨T, .int (i : Nat), x, h1, h2, h3, rfl, h4 xs q⟩
  · obtain ⟨T, u, w, rfl, hn, rfl, e1, e2⟩ := y
    cases e1
    rw [enmL_at] at e
    cases e3 : ds[i]? with
    | none => rw [e3] at e; cases e
    | some d0 =>
      rw [e3] at e
      obtain ⟨v, h1, h2⟩ := (r.lat l).get e3
      have e2 : xs[i]? = some w := e2
      rw [e2] at h1; cases h1
      have e4 : D.tup [.int ((0 + i : Nat)), d0] = d := by simpa using e
      subst e4
      refine ⟨same_upd hn, rep_new_tup ht hn (.cons ?_ (.cons h2 .nil))⟩
      rw [Nat.zero_add]
      exact .int _
end
/-! rules -/
def iSeqX (K : PySem.W.Frag) (te : TE) : TI := fun σ H R => te σ H fun v H1 => (∃ a xs, v = .ref a ∧ SqL K H1 a xs ∧ R (Itl K a) H1) ∨ (∃ a xs, v = .ref a ∧ SqT K H1 a xs ∧ R (Itt K a) H1) ∨ ∃ z, v = .str z ∧ R (Its z) H1
theorem pi_seqX {X : Cx} {tg e : Expr} {te : TE} (he : PE X e te) : PI X tg e (iSeqX X.K te) := by
  refine ⟨fun pins s σ H R I h => ?_⟩
  refine thn (he.run pins s σ H _ I h) fun v s1 ⟨y, H1, I1, r1, q⟩ => ?_
  rcases q with ⟨a, xs, rfl, hq, q⟩ | ⟨a, xs, rfl, hq, q⟩ | ⟨x, rfl, q⟩
  · cases r1
    obtain ⟨its, rv, p, hz⟩ := I1.list hq
    refine wpAny_pyIter_list p.isList ?_
    refine ⟨s1.heap.objs.size, [s1.heap.objs.size], _, _, H1, rfl, I1.kept (t' := s1.toks) fun b o e => Heap.get?_push_of_some _ e, turn_list a _, ⟨_, Heap.get?_push_size _ rfl, rfl, rfl⟩, fun b hb => ?_, q⟩
    have e : b = s1.heap.objs.size := by simpa using hb
    subst e
    exact I1.fpOk (Nat.le_refl _) (I1.hok.fresh (Nat.le_refl _))
  · cases r1
    obtain ⟨its, rv, p, hz⟩ := I1.tuple hq
    refine wpAny_pyIter_tuple (show s1.heap.IsTuple a its.toArray from p) ?_
    refine ⟨s1.heap.objs.size, [s1.heap.objs.size], _, _, H1, rfl, I1.kept (t' := s1.toks) fun b o e => Heap.get?_push_of_some _ e, turn_tuple a _, ⟨_, Heap.get?_push_size _ rfl, rfl, rfl⟩, fun b hb => ?_, q⟩
    have e : b = s1.heap.objs.size := by simpa using hb
    subst e
    exact I1.fpOk (Nat.le_refl _) (I1.hok.fresh (Nat.le_refl _))
  · obtain ⟨t, rfl⟩ := r1
    cases ha : x.cps.all (· < 128)
    · exact wpAny_pyIter_wide ha (pi_one (tk := s1.toks) I1 _ (turn_str _ x t "str_iterator" (.inr rfl)) ⟨_, Heap.get?_push_size _ rfl, rfl, rfl⟩ q)
    · exact wpAny_pyIter_ascii ha (pi_one (tk := s1.toks) I1 _ (turn_str _ x t "str_ascii_iterator" (.inl rfl)) ⟨_, Heap.get?_push_size _ rfl, rfl, rfl⟩ q)
section
variable {W : Wo} {X : Cx} {ex : XK} {n : Nat} {pos p1 p2 : Pos} {a b c tg : Expr} {A B C : E} {x : Str}
theorem mi_seq (g : Gd W n X ex) (ha : ME W X ex a A) : MI W X ex tg a (.seq A) := (pi_seqX (ha false)).imp fun s H Q h => by
  unfold tI at h
  rw [show evI W.K (.seq A) = fun q => bindR (ev W.K A false q) fun r q1 => match r.vd with
    | some d => match itemsD d with
      | some l => .ok l q1
      | none => .bad
    | none => .bad from rfl] at h
  refine TR.bind h fun R0 q q1 r w H1 f0 l bk p z => ?_
  cases e : r.vd with
  | none => rw [e] at z; exact z.elim
  | some d =>
    rw [e] at z
    dsimp only at z
    obtain ⟨f1, rp⟩ := p.vd f0 e
    rw [g.hK]
    cases rp with
    | lst h1 h2 => exact .inl ⟨_, _, rfl, h1.sq, z _ H1 l bk ⟨f1, gen_lst h1 h2⟩⟩
    | tup h1 h2 => exact .inr (.inl ⟨_, _, rfl, h1.sq, z _ H1 l bk ⟨f1, gen_tup h1 h2⟩⟩)
    | str y => exact .inr (.inr ⟨_, rfl, z _ H1 l bk ⟨f1, gen_str y⟩⟩)
    | _ => exact z.elim
theorem vds_cons {r : RV} {rs : List RV} {ds : List D} (h : vds (r :: rs) = some ds) : ∃ d l, ds = d :: l ∧ r.vd = some d ∧ vds rs = some l := by
  unfold vds at h
  cases e : r.vd with
  | none => rw [e] at h; cases h
  | some d =>
    cases e2 : vds rs with
    | none => rw [e, e2] at h; cases h
    | some l => rw [e, e2] at h; cases h; exact ⟨d, l, rfl, rfl, rfl⟩
theorem vds_nil {ds : List D} (h : vds [] = some ds) : ds = [] := by cases h; rfl
theorem inR_iff {i : Int} (h : inR i = true) : -(2 ^ 62) ≤ i ∧ i < 2 ^ 62 := by
  unfold inR at h
  simpa using h
section
variable {Z : Zc} {K : Calls} {s : Sg} {H : Hp}
theorem tI_1 {it : I} {f : List D → Option (List D)} {Q : It → Hp → Prop} (he : evI K it = fun q => bindR (ev K A false q) fun r q1 => itR [r] q1 f) (h : tI Z K ex it s H Q) :
    tE Z K ex A false s H fun v H1 => ∃ R d l, (∀ b, R b → H1 b ≠ none) ∧ Rep Z H1 R v d ∧ f [d] = some l ∧ ∀ J, Gen Z R H1 J l → Q J H1 := by
  unfold tI at h
  rw [he] at h
  refine TR.bind h fun R0 q q1 r w H1 f0 l bk p z => ?_
  unfold itR at z
  cases e : vds [r] with
  | none => rw [e] at z; exact z.elim
  | some ds =>
    rw [e] at z
    dsimp only at z
    obtain ⟨d, l', rfl, e1, e2⟩ := vds_cons e
    cases vds_nil e2
    cases e3 : f [d] with
    | none => rw [e3] at z; exact z.elim
    | some li =>
      rw [e3] at z
      obtain ⟨f1, rp⟩ := p.vd f0 e1
      exact ⟨_, d, li, fun b hb => f1.rtT hb, rp, e3, fun J gg => z J H1 l bk ⟨f1, gg⟩⟩
theorem tI_3 {it : I} {f : List D → Option (List D)} {Q : It → Hp → Prop} (he : evI K it = fun q => bindR (ev K A false q) fun r q1 => bindR (ev K B false q1) fun r2 q2 => bindR (ev K C false q2) fun r3 q3 => itR [r, r2, r3] q3 f) (h : tI Z K ex it s H Q) :
    tE Z K ex A false s H fun v H1 => tE Z K ex B false s H1 fun v2 H2 => tE Z K ex C false s H2 fun v3 H3 => ∃ R d d2 d3 l, Rep Z H3 R v d ∧ Rep Z H3 R v2 d2 ∧ Rep Z H3 R v3 d3 ∧ f [d, d2, d3] = some l ∧ ∀ J, Gen Z R H3 J l → Q J H3 := by
  unfold tI at h
  rw [he] at h
  refine TR.bind h fun R0 q q1 r w H1 f0 l b p z => ?_
  have fr1 : FR Z R0 s q1 H1 := (p.down f0).1
  refine ⟨R0, q1, fr1, (An.late (Po' := PoJ Z R0 s H1) l b (fun _ _ _ _ l2 p => p) z).bind fun q2 w2 H2 r2 _ l2 b2 p2 z2 => ?_⟩
  have fr2 : FR Z R0 s q2 H2 := (p2.down fr1).1
  refine ⟨R0, q2, fr2, (An.late (Po' := PoJ Z R0 s H2) l2 b2 (fun _ _ _ _ l2 p => p) z2).bind fun q3 w3 H3 r3 _ l3 b3 p3 z3 => ?_⟩
  unfold itR at z3
  cases e : vds [r, r2, r3] with
  | none => rw [e] at z3; exact z3.elim
  | some ds =>
    rw [e] at z3
    dsimp only at z3
    obtain ⟨d, l7, rfl, e1, e2⟩ := vds_cons e
    obtain ⟨d2, l8, rfl, e3, e4⟩ := vds_cons e2
    obtain ⟨d3, l9, rfl, e5, e6⟩ := vds_cons e4
    cases vds_nil e6
    cases e7 : f [d, d2, d3] with
    | none => rw [e7] at z3; exact z3.elim
    | some li =>
      rw [e7] at z3
      obtain ⟨f3, rp3⟩ := p3.vd fr2 e5
      obtain ⟨_, rp2⟩ := p2.vd fr1 e3
      obtain ⟨_, rp1⟩ := p.vd f0 e1
      exact ⟨_, d, d2, d3, li, (rp1.lat (lat_rt l2)).lat (lat_rt l3), rp2.lat (lat_rt l3), rp3, e7, fun J gg => z3 J H3 l3 b3 ⟨f3, gg⟩⟩
end
theorem rep_int {Z : Zc} {H : Hp} {R : Pr} {v : V} {i : Int} (h : Rep Z H R v (.int i)) : v = .int i := by cases h; rfl
theorem mi_rng1 (g : Gd W n X ex) (hm : W.mg "range" = none) (ha : ME W X ex a A) (hg : Gl X "range" := by rfl) (hs : starEach [a] X.env = [(false, eval a X.env)] := by rfl) : MI W X ex tg (.Call (.Name "range" p1) [a] [] pos) (.rng1 A) :=
  (pi_range1 hg (by rw [g.hm]; exact hm) (pa_cons (ha false) pa_nil hs) hs).imp fun s H Q h => (tI_1 rfl h).mono fun v H1 z => by
    obtain ⟨R, d, l, ht, rp, e, k⟩ := z
    cases d with
    | int j =>
      simp only [rng1F] at e
      split at e
      · rename_i hr
        cases e
        obtain ⟨h1, h2⟩ := inR_iff hr
        exact ⟨j, by rw [rep_int rp], h1, h2, k _ gen_rng⟩
      · cases e
    | _ => cases e
theorem mi_enm {elts : List Expr} {kk : Nat} {tpos : Pos} (g : Gd W n X ex) (hm : W.mg "enumerate" = none) (ha : ME W X ex a A) (hg : Gl X "enumerate" := by rfl) (hs : starEach [a] X.env = [(false, eval a X.env)] := by rfl) : MI W X ex (.Tuple elts kk tpos) (.Call (.Name "enumerate" p1) [a] [] pos) (.enm A) :=
  (pi_enumX hg (by rw [g.hm]; exact hm) (pa_cons (ha false) pa_nil hs) hs).imp fun s H Q h => (tI_1 rfl h).mono fun v H1 z => by
    obtain ⟨R, d, l, ht, rp, e, k⟩ := z
    cases e2 : seqD d with
    | none => simp only [enmF, e2] at e; cases e
    | some ds =>
      simp only [enmF, e2] at e
      cases e
      obtain ⟨b, a', xs, rfl, h1, h2⟩ := rep_seq rp e2
      rw [g.hK]
      exact ⟨a', xs, b, rfl, h1.sq, k _ (gen_enm h1 h2)⟩
end
end M

set_option Elab.async false
set_option linter.all false
set_option maxRecDepth 100000
set_option maxHeartbeats 4000000
/-! A12: targets. -/
namespace M
open PySem L2 PyProof.Rows

def BKs (σ : Sg) (q : Fm) (σ' : Sg) (q' : Fm) : Prop := ∀ i, bor q' i → bor q i ∧ σ'[i]? = σ[i]?
theorem BKs.refl (σ : Sg) (q : Fm) : BKs σ q σ q := fun _ h => ⟨h, rfl⟩
theorem BKs.trans {σ σ1 σ2 : Sg} {q q1 q2 : Fm} (a : BKs σ q σ1 q1) (b : BKs σ1 q1 σ2 q2) : BKs σ q σ2 q2 := fun i h => ⟨(a i (b i h).1).1, (b i h).2.trans (a i (b i h).1).2⟩
theorem BK.s {σ : Sg} {q q' : Fm} (b : BK q q') : BKs σ q σ q' := fun i h => ⟨b i h, rfl⟩
def PreG (Z : Zc) (R0 : Pr) (σ : Sg) (q : Fm) (H : Hp) (v : V) : RV → Prop
  | .val d => FR Z R0 σ q H ∧ Rep Z H (Rt R0 σ q) v d
  | .new d => ∃ a, v = .ref a ∧ ¬ R0 a ∧ FR Z (P1 R0 a) σ q H ∧ OwnAt Z H (Rt (P1 R0 a) σ q) a d
  | .slot _ => FR Z R0 σ q H
def Ax (r : RV) (v : V) : Pr := fun b => match r with | .new _ => v = .ref b | _ => False
def AnG (Z : Zc) (R0 : Pr) (σ : Sg) (q : Fm) (H : Hp) (B : Pr) (ns : List Nat) (Q : Sg → Hp → Prop) : Res Unit → Prop
  | .ok _ q' => ∀ σ' H', Lat B H (Ow σ' q') H' → BKs σ q σ' q' → (∀ i, i ∉ ns → σ'[i]? = σ[i]?) → σ'.length = σ.length → FR Z R0 σ' q' H' → Q σ' H'
  | _ => False
def tG (Z : Zc) (K : Calls) (l : LV) : TG := fun v σ H Q => ∃ R0 q r, PreG Z R0 σ q H v r ∧ AnG Z R0 σ q H (fun b => Ow σ q b ∨ Ax r v b) l.ns Q (evL K l r q)
def tGl (Z : Zc) (K : Calls) (l : LVs) : TGs := fun vs σ H Q => ∃ R0 q ds, FR Z R0 σ q H ∧ RepL Z H (Rt R0 σ q) vs ds ∧ AnG Z R0 σ q H (Ow σ q) l.ns Q (evLs K l ds q)
def ML (W : Wo) (X : Cx) (tg : Expr) (l : LV) : Prop := PG X tg (tG W.Z W.K l)
def MLs (W : Wo) (X : Cx) (tg : List Expr) (l : LVs) : Prop := PGs X tg (tGl W.Z W.K l)
theorem _root_.L2.PG.imp {X : Cx} {tg : Expr} {t t' : TG} (h : PG X tg t) (i : ∀ v s H Q, t' v s H Q → t v s H Q) : PG X tg t' := ⟨fun pins s σ H v u Q I r q => h.run pins s σ H v u Q I r (i v σ H Q q)⟩
theorem _root_.L2.PGs.imp {X : Cx} {tg : List Expr} {t t' : TGs} (h : PGs X tg t) (i : ∀ v s H Q, t' v s H Q → t v s H Q) : PGs X tg t' := ⟨fun pins s σ H v u Q I r q => h.run pins s σ H v u Q I r (i v σ H Q q)⟩
section
variable {Z : Zc} {K : Calls} {R0 : Pr} {σ : Sg} {q : Fm} {H : Hp} {v : V}
theorem own_rep {a : Addr} {d : D} (n : ¬ R0 a) (f : FR Z (P1 R0 a) σ q H) (o : OwnAt Z H (Rt (P1 R0 a) σ q) a d) : FR Z R0 σ q H ∧ Rep Z H (Rt R0 σ q) (.ref a) d := by
  refine ⟨f.fewer fun b z => .inl z, ?_⟩
  obtain ⟨ds, xs, e, h1, h2⟩ := o
  subst e
  refine .lst (.inl ⟨.inl h1, fun z => ?_⟩) (h2.lat (Lat.sub fun c z => Or.elim z (fun z => .inl (.inl z)) .inr))
  rcases z with z | ⟨i, b, d, z1, z2⟩
  · exact n z
  · obtain ⟨a', e1, n, _⟩ := f.ow i b d z1
    rw [z2] at e1; cases e1
    exact n (.inr rfl)
theorem PreG.vd {r : RV} {d : D} (h : PreG Z R0 σ q H v r) (e : r.vd = some d) : FR Z R0 σ q H ∧ Rep Z H (Rt R0 σ q) v d := by
  cases r with
  | val d' => cases e; exact h
  | new d' =>
    cases e
    obtain ⟨a, rfl, n, f, o⟩ := h
    exact own_rep n f o
  | slot i => cases e
theorem set_ow {i : Nat} {t : Slot} {b : Addr} (ht : t.isOw = false) {x : Option V} (h : Ow (σ.set i x) (q.set i t) b) : Ow σ q b := by
  obtain ⟨j, b', d, h1, h2⟩ := h
  by_cases hj : i = j
  · subst hj
    by_cases hl : i < q.length
    · rw [List.getElem?_set_self hl] at h1; cases h1; cases ht
    · rw [List.getElem?_eq_none (by simpa using hl)] at h1; cases h1
  · rw [List.getElem?_set_ne hj] at h1 h2
    exact ⟨j, b', d, h1, h2⟩
/-- a name gets a shared value -/
theorem FR.setSh (f : FR Z R0 σ q H) {i : Nat} {d : D} (hi : i < q.length) (r : Rep Z H (Rt R0 σ q) v d) : FR Z R0 (σ.set i (some v)) (q.set i (.sh false d)) H := by
  have lt : Lat (Rt R0 σ q) H (Rt R0 (σ.set i (some v)) (q.set i (.sh false d))) H := Lat.sub fun b z => Or.elim z .inl fun z => .inr (set_ow rfl z)
  have hs : i < σ.length := by rw [f.len]; exact hi
  refine ⟨by rw [List.length_set, List.length_set]; exact f.len, f.tb, f.trk, fun j b d' e => ?_, fun j b d' e => ?_, fun j k b b' d1 d2 a e e' h1 h2 => ?_⟩
  · by_cases hj : i = j
    · subst hj
      rw [List.getElem?_set_self hi] at e; cases e
      exact ⟨v, List.getElem?_set_self hs, r.lat lt⟩
    · rw [List.getElem?_set_ne hj] at e
      obtain ⟨w, h1, h2⟩ := f.sh j b d' e
      exact ⟨w, by rw [List.getElem?_set_ne hj]; exact h1, h2.lat lt⟩
  · by_cases hj : i = j
    · subst hj
      rw [List.getElem?_set_self hi] at e; cases e
    · rw [List.getElem?_set_ne hj] at e
      obtain ⟨a, h1, h2, h3⟩ := f.ow j b d' e
      exact ⟨a, by rw [List.getElem?_set_ne hj]; exact h1, h2, h3.lat lt rfl⟩
  · have n1 : i ≠ j := fun z => by subst z; rw [List.getElem?_set_self hi] at e; cases e
    have n2 : i ≠ k := fun z => by subst z; rw [List.getElem?_set_self hi] at e'; cases e'
    rw [List.getElem?_set_ne n1] at e h1
    rw [List.getElem?_set_ne n2] at e' h2
    exact f.sep j k b b' d1 d2 a e e' h1 h2
theorem setOw_ow {i : Nat} {a b : Addr} {d : D} (hs : i < σ.length) (h : Ow (σ.set i (some (.ref a))) (q.set i (.ow false d)) b) : Ow σ q b ∨ b = a := by
  obtain ⟨j, b', d', h1, h2⟩ := h
  by_cases hj : i = j
  · subst hj
    rw [List.getElem?_set_self hs] at h2
    cases h2
    exact .inr rfl
  · rw [List.getElem?_set_ne hj] at h1 h2
    exact .inl ⟨j, b', d', h1, h2⟩
/-- a name gets a new list -/
theorem FR.setOw {a : Addr} (f : FR Z (P1 R0 a) σ q H) (n : ¬ R0 a) {i : Nat} {d : D} (hi : i < q.length) (o : OwnAt Z H (Rt (P1 R0 a) σ q) a d) : FR Z R0 (σ.set i (some (.ref a))) (q.set i (.ow false d)) H := by
  have hs : i < σ.length := by rw [f.len]; exact hi
  have lt : Lat (Rt (P1 R0 a) σ q) H (Rt R0 (σ.set i (some (.ref a))) (q.set i (.ow false d))) H := Lat.sub fun b z => by
    rcases z with z | z
    · exact .inl (.inl z)
    · exact Or.elim (setOw_ow hs z) .inr fun e => .inl (.inr e)
  refine ⟨by rw [List.length_set, List.length_set]; exact f.len, f.tb, fun b z => f.trk b (.inl z), fun j b d' e => ?_, fun j b d' e => ?_, fun j k b b' d1 d2 c e e' h1 h2 => ?_⟩
  · have hj : i ≠ j := fun z => by subst z; rw [List.getElem?_set_self hi] at e; cases e
    rw [List.getElem?_set_ne hj] at e
    obtain ⟨w, h1, h2⟩ := f.sh j b d' e
    exact ⟨w, by rw [List.getElem?_set_ne hj]; exact h1, h2.lat lt⟩
  · by_cases hj : i = j
    · subst hj
      rw [List.getElem?_set_self hi] at e; cases e
      exact ⟨a, List.getElem?_set_self hs, n, o.lat lt rfl⟩
    · rw [List.getElem?_set_ne hj] at e
      obtain ⟨a', h1, h2, h3⟩ := f.ow j b d' e
      exact ⟨a', by rw [List.getElem?_set_ne hj]; exact h1, fun z => h2 (.inl z), h3.lat lt rfl⟩
  · have key : ∀ {k : Nat} {b' : Bool} {d2 : D}, i ≠ k → q[k]? = some (.ow b' d2) → σ[k]? = some (some (.ref a)) → False := fun {k b' d2} hk e h => by
      obtain ⟨a', h1, h2, _⟩ := f.ow k b' d2 e
      rw [h] at h1; cases h1
      exact h2 (.inr rfl)
    by_cases hj : i = j
    · by_cases hk : i = k
      · exact hj.symm.trans hk
      · subst hj
        rw [List.getElem?_set_self hs] at h1; cases h1
        rw [List.getElem?_set_ne hk] at e' h2
        exact (key hk e' h2).elim
    · by_cases hk : i = k
      · subst hk
        rw [List.getElem?_set_self hs] at h2; cases h2
        rw [List.getElem?_set_ne hj] at e h1
        exact (key hj e h1).elim
      · rw [List.getElem?_set_ne hj] at e h1
        rw [List.getElem?_set_ne hk] at e' h2
        exact f.sep j k b b' d1 d2 c e e' h1 h2
/-- an owned list is written -/
theorem FR.put (f : FR Z R0 σ q H) {i : Nat} {b : Bool} {d : D} {a : Addr} {ds : List D} {xs : List V} (e : q[i]? = some (.ow b d)) (es : σ[i]? = some (some (.ref a))) (r : RepL Z H (Rt R0 σ q) xs ds) :
    FR Z R0 σ (q.set i (.ow b (.lst ds))) (upd H a (.lst xs)) ∧ Lat (Ow σ q) H (Ow σ (q.set i (.ow b (.lst ds)))) (upd H a (.lst xs)) ∧ BK q (q.set i (.ow b (.lst ds))) := by
  have hi : i < q.length := (List.getElem?_eq_some_iff.mp e).1
  have ow' : ∀ {c : Addr}, Ow σ (q.set i (.ow b (.lst ds))) c → Ow σ q c := fun {c} ⟨j, b', d', h1, h2⟩ => by
    by_cases hj : i = j
    · subst hj
      exact ⟨i, b, d, e, h2⟩
    · rw [List.getElem?_set_ne hj] at h1
      exact ⟨j, b', d', h1, h2⟩
  have ha : Ow σ q a := ⟨i, b, d, e, es⟩
  have lt : Lat (Ow σ q) H (Ow σ (q.set i (.ow b (.lst ds)))) (upd H a (.lst xs)) := by
    refine ⟨fun c o h n _ => ?_, fun c z => .inl (ow' z), fun c h => ?_⟩
    · rw [upd_ne (fun z => by subst z; exact n ha)]; exact h
    · by_cases hc : c = a
      · rw [hc, upd_same]; exact fun z => nomatch z
      · rw [upd_ne hc]; exact h
  have lr := lat_rt (R0 := R0) lt
  refine ⟨⟨by rw [List.length_set]; exact f.len, f.tb.upd (f.owT ha).choose_spec, fun c z => lt.tr c (f.trk c z), fun j b' d' z => ?_, fun j b' d' z => ?_, fun j k b1 b2 d1 d2 c z1 z2 h1 h2 => ?_⟩, lt, bk_set e fun z => z⟩
  · have hj : i ≠ j := fun y => by subst y; rw [List.getElem?_set_self hi] at z; cases z
    rw [List.getElem?_set_ne hj] at z
    obtain ⟨w, h1, h2⟩ := f.sh j b' d' z
    exact ⟨w, h1, h2.lat lr⟩
  · by_cases hj : i = j
    · subst hj
      rw [List.getElem?_set_self hi] at z; cases z
      obtain ⟨a', h1, h2, _⟩ := f.ow i b d e
      rw [es] at h1; cases h1
      exact ⟨a, es, h2, ds, xs, rfl, upd_same, r.lat lr⟩
    · rw [List.getElem?_set_ne hj] at z
      obtain ⟨a', h1, h2, ds', xs', h3, h4, h5⟩ := f.ow j b' d' z
      refine ⟨a', h1, h2, ds', xs', h3, ?_, h5.lat lr⟩
      rw [upd_ne (fun y => by subst y; exact hj (f.sep i j b b' d d' _ e z es h1))]
      exact h4
  · have g1 : ∃ b' d', q[j]? = some (.ow b' d') := by
      by_cases hj : i = j
      · exact ⟨b, d, hj ▸ e⟩
      · rw [List.getElem?_set_ne hj] at z1; exact ⟨_, _, z1⟩
    have g2 : ∃ b' d', q[k]? = some (.ow b' d') := by
      by_cases hj : i = k
      · exact ⟨b, d, hj ▸ e⟩
      · rw [List.getElem?_set_ne hj] at z2; exact ⟨_, _, z2⟩
    obtain ⟨_, _, g1⟩ := g1
    obtain ⟨_, _, g2⟩ := g2
    exact f.sep j k _ _ _ _ c g1 g2 h1 h2
theorem bks_set {i : Nat} {t t' : Slot} {x : Option V} (e : q[i]? = some t) (h : t'.isBor = false) : BKs σ q (σ.set i x) (q.set i t') := by
  intro j ⟨u, h1, h2⟩
  by_cases hj : i = j
  · subst hj
    rw [List.getElem?_set_self (List.getElem?_eq_some_iff.mp e).1] at h1; cases h1
    rw [h] at h2; cases h2
  · rw [List.getElem?_set_ne hj] at h1 ⊢
    exact ⟨⟨u, h1, h2⟩, rfl⟩
theorem tG_nm {i : Nat} {Q : Sg → Hp → Prop} (h : tG Z K (.nm i) v σ H Q) : gName i v σ H Q := by
  obtain ⟨R0, q, r, p, h⟩ := h
  rw [show evL K (.nm i) r q = setName i r q from rfl] at h
  unfold setName at h
  cases e : q[i]? with
  | none => rw [e] at h; exact h.elim
  | some t =>
    rw [e] at h
    dsimp only at h
    cases hb : t.isBor with
    | true => rw [hb] at h; exact h.elim
    | false =>
      rw [hb] at h
      have hi : i < q.length := (List.getElem?_eq_some_iff.mp e).1
      have ns : ∀ x : Option V, ∀ j, j ∉ (LV.nm i).ns → (σ.set i x)[j]? = σ[j]? := fun x j hj => List.getElem?_set_ne (fun z => hj (by subst z; simp [LV.ns]))
      cases r with
      | slot _ => exact h.elim
      | val d =>
        obtain ⟨f, rp⟩ := p
        exact h (σ.set i (some v)) H (Lat.sub fun b z => .inl (set_ow rfl z)) (bks_set e rfl) (ns _) List.length_set (f.setSh hi rp)
      | new d =>
        obtain ⟨a, rfl, n, f, o⟩ := p
        have hs : i < σ.length := by rw [f.len]; exact hi
        exact h (σ.set i (some (.ref a))) H (Lat.sub fun b z => Or.elim (setOw_ow hs z) .inl fun e => .inr (by rw [e]; exact rfl)) (bks_set e rfl) (ns _) List.length_set (f.setOw n hi o)
theorem tGl_nil {Q : Sg → Hp → Prop} {vs : List V} (h : tGl Z K .nil vs σ H Q) : gNil vs σ H Q := by
  obtain ⟨R0, q, ds, f, r, h⟩ := h
  cases r with
  | nil => exact ⟨rfl, h σ H (Lat.refl _ _) (BKs.refl _ _) (fun _ _ => rfl) rfl f⟩
  | cons _ _ => exact h.elim
theorem tGl_cons {l : LV} {ls : LVs} {Q : Sg → Hp → Prop} {vs : List V} (h : tGl Z K (.cons l ls) vs σ H Q) : gCons (tG Z K l) (tGl Z K ls) vs σ H Q := by
  obtain ⟨R0, q, ds, f, r, h⟩ := h
  cases r with
  | nil => exact h.elim
  | @cons v vs d ds r1 r2 =>
    rw [show evLs K (.cons l ls) (d :: ds) q = (match evL K l (.val d) q with
      | .ok _ q1 => evLs K ls ds q1
      | _ => .bad) from rfl] at h
    refine ⟨v, vs, rfl, R0, q, .val d, ⟨f, r1⟩, ?_⟩
    cases e : evL K l (.val d) q with
    | bad => rw [e] at h; exact h.elim
    | exc _ _ _ => rw [e] at h; exact h.elim
    | ok u q1 =>
      rw [e] at h
      intro σ1 H1 l1 b1 n1 len1 f1
      have l1 : Lat (Ow σ q) H (Ow σ1 q1) H1 := ⟨fun b o hb n => l1.kp b o hb fun z => Or.elim z n fun z => z.elim, fun b z => Or.elim (l1.nw b z) (fun z => Or.elim z .inl fun z => z.elim) .inr, l1.tr⟩
      refine ⟨R0, q1, ds, f1, r2.lat l1.more, ?_⟩
      dsimp only at h
      cases e2 : evLs K ls ds q1 with
      | bad => rw [e2] at h; exact h.elim
      | exc _ _ _ => rw [e2] at h; exact h.elim
      | ok u2 q2 =>
        rw [e2] at h
        intro σ2 H2 l2 b2 n2 len2 f2
        refine h σ2 H2 (l1.trans l2) (b1.trans b2) (fun i hi => ?_) (len2.trans len1) f2
        have hi' : i ∉ l.ns ∧ i ∉ ls.ns := by simpa [LVs.ns] using hi
        exact (n2 i hi'.2).trans (n1 i hi'.1)
theorem tG_tp {ls : LVs} {Q : Sg → Hp → Prop} (h : tG Z K (.tp ls) v σ H Q) : gTup Z.K ls.len (tGl Z K ls) v σ H Q := by
  obtain ⟨R0, q, r, p, h⟩ := h
  rw [show evL K (.tp ls) r q = (match r.vd with
    | some (.tup ds) => if ds.length = ls.len then evLs K ls ds q else .bad
    | _ => .bad) from rfl] at h
  cases e : r.vd with
  | none => rw [e] at h; exact h.elim
  | some d =>
    rw [e] at h
    cases d with
    | tup ds =>
      dsimp only at h
      by_cases hl : ds.length = ls.len
      case neg => rw [if_neg hl] at h; exact h.elim
      rw [if_pos hl] at h
      obtain ⟨f, rp⟩ := p.vd e
      cases rp with
      | tup h1 h2 =>
        refine ⟨_, _, rfl, h1.sq, by rw [h2.length]; exact hl, R0, q, ds, f, h2, ?_⟩
        cases e2 : evLs K ls ds q with
        | bad => rw [e2] at h; exact h.elim
        | exc _ _ _ => rw [e2] at h; exact h.elim
        | ok u q1 =>
          rw [e2] at h
          intro σ1 H1 l1 b1 n1 len1 f1
          exact h σ1 H1 ⟨fun b o hb n => l1.kp b o hb fun z => n (.inl z), fun b z => Or.elim (l1.nw b z) (fun z => .inl (.inl z)) .inr, l1.tr⟩ b1 n1 len1 f1
    | _ => exact h.elim
theorem tG_sub {i : Nat} {k : E} {Q : Sg → Hp → Prop} {ex : XK} (h : tG Z K (.sub i k) v σ H Q) : gSub (tVar i) (tE Z K ex k false) rSetL v σ H Q := by
  obtain ⟨R0, q, r, p, h⟩ := h
  rw [show evL K (.sub i k) r q = (match r.vd, q[i]? with
    | some d, some (.ow _ _) => match ev K k false q with
      | .ok (.val z) q1 => setSub i z d q1
      | _ => .bad
    | _, _ => .bad) from rfl] at h
  cases e : r.vd with
  | none => rw [e] at h; exact h.elim
  | some d =>
    obtain ⟨f, rp⟩ := p.vd e
    cases e2 : q[i]? with
    | none => rw [e, e2] at h; exact h.elim
    | some t =>
      cases t with
      | no => rw [e, e2] at h; exact h.elim
      | pin => rw [e, e2] at h; exact h.elim
      | sh _ _ => rw [e, e2] at h; exact h.elim
      | ow b0 d0 =>
        rw [e, e2] at h
        dsimp only at h
        obtain ⟨a, ha, _⟩ := f.ow i b0 d0 e2
        refine ⟨.ref a, ha, R0, q, f, ?_⟩
        cases e3 : ev K k false q with
        | bad => rw [e3] at h; exact h.elim
        | exc _ _ _ => rw [e3] at h; exact h.elim
        | ok x q1 =>
          rw [e3] at h
          intro w H2 l2 b2 p2
          cases x with
          | new _ => exact h.elim
          | slot _ => exact h.elim
          | val z =>
            dsimp only at h
            obtain ⟨f2, rz⟩ := p2
            unfold setSub at h
            cases e4 : q1[i]? with
            | none => rw [e4] at h; exact h.elim
            | some t =>
              cases t with
              | no => rw [e4] at h; exact h.elim
              | pin => rw [e4] at h; exact h.elim
              | sh _ _ => rw [e4] at h; exact h.elim
              | ow b1 d1 =>
                cases d1 with
                | lst ds =>
                  cases z with
                  | int zi =>
                    rw [e4] at h
                    dsimp only at h
                    cases rz
                    obtain ⟨a', ha', _, ds', xs, hd, hx, hr⟩ := f2.ow i b1 _ e4
                    cases hd
                    rw [ha] at ha'; cases ha'
                    cases e5 : ixN ds.length zi with
                    | none => rw [e5] at h; exact h.elim
                    | some j =>
                      rw [e5] at h
                      dsimp only at h
                      have rv : Rep Z H2 (Rt R0 σ q1) v d := rp.lat (lat_rt l2)
                      obtain ⟨f3, l3, b3⟩ := f2.put e4 ha (hr.set rv j)
                      refine ⟨a, xs, zi, j, rfl, rfl, hx, by rw [hr.length]; exact e5, ?_⟩
                      have l4 := l2.trans l3
                      exact h σ _ ⟨fun b o hb n => l4.kp b o hb fun z => n (.inl z), fun b z => Or.elim (l4.nw b z) (fun z => .inl (.inl z)) .inr, l4.tr⟩ (b2.s.trans b3.s) (fun _ _ => rfl) rfl f3
                  | _ => rw [e4] at h; exact h.elim
                | _ => rw [e4] at h; exact h.elim
end
section
variable {W : Wo} {X : Cx} {ex : XK} {n : Nat} {pos p1 p2 : Pos} {a b c tg : Expr} {A B C : E} {x : Str}
theorem ml_nm (g : Gd W n X ex) (i : Nat) (hi : X.N[i]? = some x := by rfl) (hx : Loc X.env.scope x := by first | exact Or.inl rfl | exact Or.inr rfl) (hf : X.fn x = true ∨ X.env.scope.names.lookup x = some .local := by first | exact .inl rfl | exact .inr rfl) : ML W X (.Name x pos) (.nm i) :=
  (pg_name g.nd hi hx hf).imp fun _ _ _ _ h => tG_nm h
theorem mls_nil : MLs W X [] .nil := pgs_nil.imp fun _ _ _ _ h => tGl_nil h
theorem mls_cons {l : LV} {ls : LVs} {es : List Expr} (h1 : ML W X a l) (h2 : MLs W X es ls) (hs : (assignEach (a :: es) X.env).map (·.2) = assign a X.env :: (assignEach es X.env).map (·.2) := by rfl) : MLs W X (a :: es) (.cons l ls) :=
  (pgs_cons h1 h2 hs).imp fun _ _ _ _ h => tGl_cons h
theorem ml_tp [Calm W] {ls : LVs} {es : List Expr} {k : Nat} (g : Gd W n X ex) (h : MLs W X es ls) (hn : (assignEach es X.env).length = ls.len := by rfl) (hst : (assignEach es X.env).findIdx? (·.1) = none := by rfl) : ML W X (.Tuple es k pos) (.tp ls) :=
  (pg_tup g.calm h hn hst).imp fun _ _ _ _ h => by rw [g.hK]; exact tG_tp h
theorem ml_sub {k : E} (g : Gd W n X ex) (i : Nat) (hk : ME W X ex b k) (hN : X.N[i]? = some x := by rfl) (hv : Vis X.env.scope x := by first | exact Or.inl rfl | exact Or.inr (Or.inl rfl) | exact Or.inr (Or.inr rfl)) (hd : (x == ("__debug__" : Str)) = false := by decide)
    (hcd : (x == ("__classdict__" : Str)) = false := by decide) (ha : ∀ v, assign (.Subscript (.Name x p1) b pos) X.env v = (do
      let ov ← holding [v] (eval (.Name x p1) X.env)
      let iv ← holding [v, ov] (eval b X.env)
      standAt pos
      holding [v, ov, iv] (setItem ov iv v)
      release [v, ov, iv] []) := by intro _; rfl) : ML W X (.Subscript (.Name x p1) b pos) (.sub i k) :=
  (pg_sub (pe_var hN hv hd hcd) (hk false) set_list ha).imp fun _ _ _ _ h => tG_sub h
end
end M

set_option Elab.async false
set_option linter.all false
set_option maxRecDepth 100000
set_option maxHeartbeats 4000000
/-! A13: comprehensions. -/
namespace M
open PySem L2 PyProof.Rows

theorem wipe_out {σ : Sg} {i : Nat} : ∀ {vs : List Nat}, i ∉ vs → (wipe σ vs)[i]? = σ[i]?
  | [], _ => rfl
  | v :: vs, h => by
    have h' : i ≠ v ∧ i ∉ vs := by simpa using h
    unfold wipe
    rw [List.getElem?_set_ne (Ne.symm h'.1), wipe_out h'.2]
theorem wipe_in {σ : Sg} {i : Nat} : ∀ {vs : List Nat}, i ∈ vs → (wipe σ vs)[i]? = if i < σ.length then some none else none
  | [], h => by cases h
  | v :: vs, h => by
    unfold wipe
    by_cases hv : v = i
    · subst hv
      by_cases hl : v < σ.length
      · rw [List.getElem?_set_self (by rw [wipe_length]; exact hl), if_pos hl]
      · rw [if_neg hl]; exact List.getElem?_eq_none (by rw [List.length_set, wipe_length]; omega)
    · rw [List.getElem?_set_ne hv]
      exact wipe_in (by simpa [Ne.symm hv] using h)
theorem wipe_ext {σ σ' : Sg} {vs : List Nat} (hl : σ'.length = σ.length) (h : ∀ i, i ∉ vs → σ'[i]? = σ[i]?) : wipe σ' vs = wipe σ vs := by
  apply List.ext_getElem?
  intro i
  by_cases hi : i ∈ vs
  · rw [wipe_in hi, wipe_in hi, hl]
  · rw [wipe_out hi, wipe_out hi, h i hi]
theorem wipe_idem {σ : Sg} {vs : List Nat} : wipe (wipe σ vs) vs = wipe σ vs := wipe_ext (wipe_length σ vs) fun _ h => wipe_out h
theorem wipeF_len {q : Fm} : ∀ {vs : List Nat}, (wipeF vs q).length = q.length
  | [] => rfl
  | v :: vs => by
    show ((wipeF vs q).set v .no).length = _
    rw [List.length_set, wipeF_len]
theorem wipeF_out {q : Fm} {i : Nat} : ∀ {vs : List Nat}, i ∉ vs → (wipeF vs q)[i]? = q[i]?
  | [], _ => rfl
  | v :: vs, h => by
    have h' : i ≠ v ∧ i ∉ vs := by simpa using h
    show ((wipeF vs q).set v .no)[i]? = _
    rw [List.getElem?_set_ne (Ne.symm h'.1), wipeF_out h'.2]
theorem wipeF_in {q : Fm} {i : Nat} {t : Slot} : ∀ {vs : List Nat}, i ∈ vs → (wipeF vs q)[i]? = some t → t = .no
  | [], h, _ => by cases h
  | v :: vs, h, e => by
    have e : ((wipeF vs q).set v .no)[i]? = some t := e
    by_cases hv : v = i
    · subst hv
      have hl : v < (wipeF vs q).length := by simpa using (List.getElem?_eq_some_iff.mp e).1
      rw [List.getElem?_set_self hl] at e; cases e; rfl
    · rw [List.getElem?_set_ne hv] at e
      exact wipeF_in (by simpa [Ne.symm hv] using h) e
theorem backF_len {old q : Fm} : ∀ {vs : List Nat}, (backF vs old q).length = q.length
  | [] => rfl
  | v :: vs => by
    show ((backF vs old q).set v (old.getD v .no)).length = _
    rw [List.length_set, backF_len]
theorem backF_out {old q : Fm} {i : Nat} : ∀ {vs : List Nat}, i ∉ vs → (backF vs old q)[i]? = q[i]?
  | [], _ => rfl
  | v :: vs, h => by
    have h' : i ≠ v ∧ i ∉ vs := by simpa using h
    show ((backF vs old q).set v (old.getD v .no))[i]? = _
    rw [List.getElem?_set_ne (Ne.symm h'.1), backF_out h'.2]
theorem backF_in {old q : Fm} {i : Nat} {t : Slot} : ∀ {vs : List Nat}, i ∈ vs → (backF vs old q)[i]? = some t → t = old.getD i .no
  | [], h, _ => by cases h
  | v :: vs, h, e => by
    have e : ((backF vs old q).set v (old.getD v .no))[i]? = some t := e
    by_cases hv : v = i
    · subst hv
      have hl : v < (backF vs old q).length := by simpa using (List.getElem?_eq_some_iff.mp e).1
      rw [List.getElem?_set_self hl] at e; cases e; rfl
    · rw [List.getElem?_set_ne hv] at e
      exact backF_in (by simpa [Ne.symm hv] using h) e
section
variable {Z : Zc} {K : Calls} {ex : XK} {R0 R1 : Pr} {σ : Sg} {q q1 q2 : Fm} {H H' : Hp} {vs : List Nat}
theorem wipe_ow {b : Addr} (h : Ow (wipe σ vs) (wipeF vs q) b) : Ow σ q b := by
  obtain ⟨i, b', d, h1, h2⟩ := h
  have hi : i ∉ vs := fun hi => nomatch (wipeF_in hi h1)
  rw [wipeF_out hi] at h1
  rw [wipe_out hi] at h2
  exact ⟨i, b', d, h1, h2⟩
theorem FR.wipe (f : FR Z R0 σ q H) (vs : List Nat) : FR Z R0 (wipe σ vs) (wipeF vs q) H := by
  have lt : Lat (Rt R0 σ q) H (Rt R0 (L2.wipe σ vs) (wipeF vs q)) H := Lat.sub fun b z => Or.elim z .inl fun z => .inr (wipe_ow z)
  refine ⟨by rw [wipe_length, wipeF_len]; exact f.len, f.tb, f.trk, fun i b d e => ?_, fun i b d e => ?_, fun i j b b' d d' a e e' h1 h2 => ?_⟩
  · have hi : i ∉ vs := fun hi => nomatch (wipeF_in hi e)
    rw [wipeF_out hi] at e
    obtain ⟨v, h1, h2⟩ := f.sh i b d e
    exact ⟨v, by rw [wipe_out hi]; exact h1, h2.lat lt⟩
  · have hi : i ∉ vs := fun hi => nomatch (wipeF_in hi e)
    rw [wipeF_out hi] at e
    obtain ⟨v, h1, h2, h3⟩ := f.ow i b d e
    exact ⟨v, by rw [wipe_out hi]; exact h1, h2, h3.lat lt rfl⟩
  · have hi : i ∉ vs := fun hi => nomatch (wipeF_in hi e)
    have hj : j ∉ vs := fun hi => nomatch (wipeF_in hi e')
    rw [wipeF_out hi] at e
    rw [wipeF_out hj] at e'
    rw [wipe_out hi] at h1
    rw [wipe_out hj] at h2
    exact f.sep i j b b' d d' a e e' h1 h2
theorem noOw_at (h : noOw vs q = true) {i : Nat} (hi : i ∈ vs) {b : Bool} {d : D} : q[i]? ≠ some (.ow b d) := by
  intro e
  unfold noOw at h
  rw [List.all_eq_true] at h
  have := h i hi
  rw [e] at this
  cases this
theorem back_slot (hn : noOw vs q1 = true) {i : Nat} {t : Slot} (h : (backF vs q1 q2)[i]? = some t) : (i ∈ vs ∧ (t = .no ∨ (t = .pin ∧ q1[i]? = some .pin) ∨ ∃ b d, t = .sh b d ∧ q1[i]? = some (.sh b d))) ∨ (i ∉ vs ∧ q2[i]? = some t) := by
  by_cases hi : i ∈ vs
  · have e := backF_in hi h
    refine .inl ⟨hi, ?_⟩
    rw [List.getD_eq_getElem?_getD] at e
    cases e1 : q1[i]? with
    | none => rw [e1] at e; exact .inl e
    | some u =>
      rw [e1] at e
      have e : t = u := e
      subst e
      cases t with
      | no => exact .inl rfl
      | pin => exact .inr (.inl ⟨rfl, rfl⟩)
      | sh b d => exact .inr (.inr ⟨b, d, rfl, rfl⟩)
      | ow b d => exact absurd e1 (noOw_at hn hi)
  · rw [backF_out hi] at h
    exact .inr ⟨hi, h⟩
theorem back_ow (hn : noOw vs q1 = true) {b : Addr} (h : Ow σ (backF vs q1 q2) b) : Ow (wipe σ vs) (wipeF vs q2) b := by
  obtain ⟨i, b', d, h1, h2⟩ := h
  rcases back_slot hn h1 with ⟨_, e | ⟨e, _⟩ | ⟨_, _, e, _⟩⟩ | ⟨hi, e⟩
  · cases e
  · cases e
  · cases e
  · exact ⟨i, b', d, by rw [wipeF_out hi]; exact e, by rw [wipe_out hi]; exact h2⟩
theorem FR.back (f1 : FR Z R0 σ q1 H) (hn : noOw vs q1 = true) (f2 : FR Z R1 (L2.wipe σ vs) (wipeF vs q2) H') (l : Lat (Rt R0 σ q1) H (Rt R1 (L2.wipe σ vs) (wipeF vs q2)) H') : FR Z R1 σ (backF vs q1 q2) H' := by
  have lt : Lat (Rt R1 (L2.wipe σ vs) (wipeF vs q2)) H' (Rt R1 σ (backF vs q1 q2)) H' := Lat.sub fun b z => Or.elim z .inl fun z => .inr (back_ow hn z)
  refine ⟨?_, f2.tb, f2.trk, fun i b d e => ?_, fun i b d e => ?_, fun i j b b' d d' a e e' h1 h2 => ?_⟩
  · rw [backF_len, ← wipeF_len (vs := vs), ← f2.len, wipe_length]
  · rcases back_slot hn e with ⟨_, e | ⟨e, _⟩ | ⟨_, _, e, e1⟩⟩ | ⟨hi, e⟩
    · cases e
    · cases e
    · cases e
      obtain ⟨v, h1, h2⟩ := f1.sh i b d e1
      exact ⟨v, h1, h2.lat (l.trans lt)⟩
    · obtain ⟨v, h1, h2⟩ := f2.sh i b d (by rw [wipeF_out hi]; exact e)
      rw [wipe_out hi] at h1
      exact ⟨v, h1, h2.lat lt⟩
  · rcases back_slot hn e with ⟨_, e | ⟨e, _⟩ | ⟨_, _, e, e1⟩⟩ | ⟨hi, e⟩
    · cases e
    · cases e
    · cases e
    · obtain ⟨v, h1, h2, h3⟩ := f2.ow i b d (by rw [wipeF_out hi]; exact e)
      rw [wipe_out hi] at h1
      exact ⟨v, h1, h2, h3.lat lt rfl⟩
  · rcases back_slot hn e with ⟨_, e | ⟨e, _⟩ | ⟨_, _, e, e1⟩⟩ | ⟨hi, e⟩
    · cases e
    · cases e
    · cases e
    · rcases back_slot hn e' with ⟨_, e' | ⟨e', _⟩ | ⟨_, _, e', e1⟩⟩ | ⟨hj, e'⟩
      · cases e'
      · cases e'
      · cases e'
      · exact f2.sep i j b b' d d' a (by rw [wipeF_out hi]; exact e) (by rw [wipeF_out hj]; exact e') (by rw [wipe_out hi]; exact h1) (by rw [wipe_out hj]; exact h2)
/-- a walk, with an invariant -/
theorem walk_by {J : It} {n : Nat} {G : Hp → Prop} {Y : Nat → Hp → V → Hp → Prop} (w : Walk J n G Y) {Hs : Hp} {Qd : Hp → Prop} {B : V → Hp → (Hp → Prop) → Prop} (Pv : Nat → Hp → Prop) (h0 : Pv 0 Hs) (hG : ∀ i H, i ≤ n → Pv i H → G H)
    (hs : ∀ i x H H', i < n → Pv i H → Y i H x H' → B x H' (Pv (i + 1))) (hd : ∀ H, Pv n H → Qd H) :
    ∃ W : Nat → Nat → Hp → Prop, (∃ m, W 0 m Hs) ∧ ∀ i m H, W i m H →
      (J.stop i H ∧ Qd H) ∨ (J.go i H ∧ ∃ Nx : Hp → Prop, (∀ H', Nx H' → ∃ m', m' < m ∧ W (i + 1) m' H') ∧ ∀ x H', J.yld i H x H' → B x H' Nx) := by
  refine ⟨fun i m H => m = n - i ∧ i ≤ n ∧ Pv i H, ⟨n, by simp, Nat.zero_le _, h0⟩, ?_⟩
  rintro i m H ⟨rfl, hi, p⟩
  have q := hG i H hi p
  by_cases hlt : i < n
  · exact .inr ⟨w.goes i H hlt q, Pv (i + 1), fun H' p' => ⟨n - (i + 1), by omega, rfl, hlt, p'⟩, fun x H' y => hs i x H H' hlt p (w.yields i H x H' hlt q y)⟩
  · have e : i = n := by omega
    subst e
    exact .inl ⟨w.stops H q, hd H p⟩
/-! the list that is being made stands at L -/
/-- Lat with L besides -/
def LaD (L : Addr) (σ : Sg) (q : Fm) (H : Hp) (σ' : Sg) (q' : Fm) (H' : Hp) : Prop := Lat (fun b => Ow σ q b ∨ b = L) H (fun b => Ow σ' q' b ∨ b = L) H'
theorem LaD.of {L : Addr} {σ' : Sg} {q' : Fm} (l : Lat (Ow σ q) H (Ow σ' q') H') : LaD L σ q H σ' q' H' :=
  ⟨fun b o h n => l.kp b o h fun z => n (.inl z), fun b z => Or.elim z (fun z => Or.elim (l.nw b z) (fun z => .inl (.inl z)) .inr) fun z => .inl (.inr z), l.tr⟩
/-- the state of the making -/
structure CI (Z : Zc) (R0 : Pr) (L : Addr) (σ : Sg) (q : Fm) (H : Hp) (acc : List D) : Prop where
  fr : FR Z (P1 R0 L) σ q H
  li : ∃ xs, H L = some (.lst xs) ∧ RepL Z H (Rt (P1 R0 L) σ q) xs acc
variable {L : Addr} {acc : List D}
theorem CI.not (c : CI Z R0 L σ q H acc) : ¬ Ow σ q L := fun ⟨i, b, d, h1, h2⟩ => by
  obtain ⟨a, e, n, _⟩ := c.fr.ow i b d h1
  rw [h2] at e; cases e
  exact n (.inr rfl)
/-- an evaluation goes by it -/
theorem CI.step {σ' : Sg} {q' : Fm} (c : CI Z R0 L σ q H acc) (l : Lat (Ow σ q) H (Ow σ' q') H') (f : FR Z (P1 R0 L) σ' q' H') : CI Z R0 L σ' q' H' acc := by
  obtain ⟨xs, h1, h2⟩ := c.li
  exact ⟨f, xs, l.kp L _ h1 c.not (fun _ z => nomatch z), h2.lat l.more⟩
theorem CI.wipe (c : CI Z R0 L σ q H acc) (vs : List Nat) : CI Z R0 L (wipe σ vs) (wipeF vs q) H acc := by
  obtain ⟨xs, h1, h2⟩ := c.li
  exact ⟨c.fr.wipe vs, xs, h1, h2.lat (Lat.sub fun b z => Or.elim z .inl fun z => .inr (wipe_ow z))⟩
/-- one more item -/
theorem CI.add {v : V} {d : D} (c : CI Z R0 L σ q H acc) (r : Rep Z H (Rt (P1 R0 L) σ q) v d) : ∃ xs, H L = some (.lst xs) ∧ xs.length = acc.length ∧ CI Z R0 L σ q (upd H L (.lst (xs ++ [v]))) (acc ++ [d]) ∧ LaD L σ q H σ q (upd H L (.lst (xs ++ [v]))) := by
  obtain ⟨xs, h1, h2⟩ := c.li
  have lt : Lat (fun b => b = L) H (fun b => b = L) (upd H L (.lst (xs ++ [v]))) := ⟨fun b o h n _ => by rw [upd_ne n]; exact h, fun b h => .inl h, fun b h => by
    by_cases hb : b = L
    · rw [hb, upd_same]; exact fun z => nomatch z
    · rw [upd_ne hb]; exact h⟩
  have lr : Lat (Rt (P1 R0 L) σ q) H (Rt (P1 R0 L) σ q) (upd H L (.lst (xs ++ [v]))) := ⟨fun b o h n => lt.kp b o h fun z => n (.inl (.inr z)), fun b h => .inl h, lt.tr⟩
  refine ⟨xs, h1, h2.length, ⟨⟨c.fr.len, c.fr.tb.upd h1, fun b z => lt.tr b (c.fr.trk b z), fun i b d e => ?_, fun i b d e => ?_, c.fr.sep⟩, xs ++ [v], upd_same, (h2.append (.cons r .nil)).lat lr⟩, ⟨fun b o h n => lt.kp b o h fun z => n (.inr z), fun b h => .inl h, lt.tr⟩⟩
  · obtain ⟨w, e1, e2⟩ := c.fr.sh i b d e
    exact ⟨w, e1, e2.lat lr⟩
  · obtain ⟨a, e1, n, ds, ys, e2, e3, e4⟩ := c.fr.ow i b d e
    exact ⟨a, e1, n, ds, ys, e2, lt.kp a _ e3 (fun z => n (.inr z)) (fun _ z => nomatch z), e4.lat lr⟩
theorem lad_rt {σ' : Sg} {q' : Fm} (l : LaD L σ q H σ' q' H') : Lat (Rt (P1 R0 L) σ q) H (Rt (P1 R0 L) σ' q') H' :=
  ⟨fun b o h n => l.kp b o h fun z => n (Or.elim z .inr fun z => .inl (.inr z)), fun b z => by
    rcases z with (z | z) | z
    · exact .inl (.inl (.inl z))
    · exact .inl (.inl (.inr z))
    · exact Or.elim (l.nw b (.inl z)) (fun z => .inl (Or.elim z .inr fun z => .inl (.inr z))) .inr, l.tr⟩
/-- target and test of a turn -/
theorem turn_ok {g : LV} {t : T} {d : D} {v : V} {B : Sg → Bool → Hp → Prop} (hσ : wipe σ vs = σ) (c : CI Z R0 L σ q H acc) (rv : Rep Z H (Rt (P1 R0 L) σ q) v d) (hns : ∀ i, i ∈ g.ns → i ∈ vs)
    (k : ∃ u qa b qb, evL K g (.val d) q = .ok u qa ∧ evT K t qa = .ok b qb ∧ ∀ σ2 H3, wipe σ2 vs = σ → σ2.length = σ.length → CI Z R0 L σ2 qb H3 acc → Lat (Ow σ q) H (Ow σ2 qb) H3 → BKs σ q σ2 qb → B σ2 b H3) :
    tG Z K g v σ H fun σ2 H2 => wipe σ2 vs = σ ∧ tT Z K E0 t σ2 H2 fun b H3 => B σ2 b H3 := by
  obtain ⟨u, qa, b, qb, e1, e2, k⟩ := k
  refine ⟨P1 R0 L, q, .val d, ⟨c.fr, rv⟩, ?_⟩
  rw [e1]
  intro σ2 H2 l2 b2 n2 len2 f2
  have l2 : Lat (Ow σ q) H (Ow σ2 qa) H2 := ⟨fun b o hb n => l2.kp b o hb fun z => Or.elim z n fun z => z.elim, fun b z => Or.elim (l2.nw b z) (fun z => Or.elim z .inl fun z => z.elim) .inr, l2.tr⟩
  have hw : wipe σ2 vs = wipe σ vs := wipe_ext len2 fun i hi => n2 i fun z => hi (hns i z)
  refine ⟨hw.trans hσ, P1 R0 L, qa, f2, ?_⟩
  rw [e2]
  intro w H3 l3 b3 p3
  obtain ⟨f3, rfl⟩ := p3
  exact k σ2 H3 (hw.trans hσ) len2 ((c.step l2 f2).step l3 f3) (l2.trans l3) (b2.trans b3.s)
theorem elt_ok {e : E} {Nx : Hp → Prop} (c : CI Z R0 L σ q H acc) (hl : acc.length < sizeLine) (k : ∃ r qc x, ev K e false q = .ok r qc ∧ r.vd = some x ∧ ∀ H', CI Z R0 L σ qc H' (acc ++ [x]) → LaD L σ q H σ qc H' → BK q qc → Nx H') :
    tE Z K E0 e false σ H fun y H4 => ∃ xs, H4 L = some (.lst xs) ∧ xs.length < sizeLine ∧ Nx (upd H4 L (.lst (xs ++ [y]))) := by
  obtain ⟨r, qc, x, e1, e2, k⟩ := k
  refine ⟨P1 R0 L, q, c.fr, ?_⟩
  rw [e1]
  intro w H4 l4 b4 p4
  obtain ⟨f4, rp⟩ := p4.vd c.fr e2
  obtain ⟨xs, h1, h2, c5, l5⟩ := (c.step l4 f4).add rp
  exact ⟨xs, h1, by rw [h2]; exact hl, k _ c5 ((LaD.of l4).trans l5) b4⟩
theorem drop_at {l : List D} {i : Nat} {d : D} (h : l[i]? = some d) : l.drop i = d :: l.drop (i + 1) := by
  obtain ⟨h1, h2⟩ := List.getElem?_eq_some_iff.mp h
  rw [List.drop_eq_getElem_cons h1, h2]
/-- how a turn of the plain loop goes -/
theorem loopC_inv {asg : D → Fm → Res Unit} {test : Fm → Res Bool} {elt : Fm → Res RV} {d : D} {ds r : List D} {qe : Fm} (h : loopC vs asg test elt acc (d :: ds) q = .ok r qe) :
    ∃ u qa b qb, asg d (wipeF vs q) = .ok u qa ∧ test qa = .ok b qb ∧ ((b = false ∧ loopC vs asg test elt acc ds qb = .ok r qe) ∨
      (b = true ∧ ∃ x qc y, elt qb = .ok x qc ∧ x.vd = some y ∧ acc.length < sizeLine ∧ loopC vs asg test elt (acc ++ [y]) ds qc = .ok r qe)) := by
  rw [loopC] at h
  cases e1 : asg d (wipeF vs q) with
  | bad => rw [e1] at h; cases h
  | exc _ _ _ => rw [e1] at h; cases h
  | ok u qa =>
    rw [e1] at h
    dsimp only at h
    cases e2 : test qa with
    | bad => rw [e2] at h; cases h
    | exc _ _ _ => rw [e2] at h; cases h
    | ok b qb =>
      rw [e2] at h
      refine ⟨u, qa, b, qb, rfl, e2, ?_⟩
      cases b with
      | false =>
        dsimp only at h
        split at h
        · exact .inl ⟨rfl, h⟩
        · cases h
      | true =>
        dsimp only at h
        cases e3 : elt qb with
        | bad => rw [e3] at h; cases h
        | exc _ _ _ => rw [e3] at h; cases h
        | ok x qc =>
          rw [e3] at h
          dsimp only at h
          cases e4 : x.vd with
          | none => rw [e4] at h; cases h
          | some y =>
            rw [e4] at h
            dsimp only at h
            split at h
            · rename_i hh
              rw [Bool.and_eq_true] at hh
              exact .inr ⟨rfl, x, qc, y, rfl, e4, of_decide_eq_true hh.1, h⟩
            · cases h
/-- bors, but for the names of the block -/
def BKo (vs : List Nat) (q q' : Fm) : Prop := ∀ i, i ∉ vs → bor q' i → bor q i
theorem bor_wipe {i : Nat} (h : bor (wipeF vs q) i) : bor q i ∧ i ∉ vs := by
  obtain ⟨t, h1, h2⟩ := h
  have hi : i ∉ vs := fun hi => by
    have := wipeF_in hi h1
    subst this
    cases h2
  rw [wipeF_out hi] at h1
  exact ⟨⟨t, h1, h2⟩, hi⟩
theorem tE_lc {g : LV} {it : I} {t : T} {e : E} {pk : Bool} {Q : VK} (hns : ∀ i, i ∈ g.ns → i ∈ vs) (h : tE Z K ex (.lc vs g it t e) pk σ H Q) : tLc (tI Z K ex it) (tG Z K g) (tT Z K E0 t) (tE Z K E0 e false) vs σ H Q := by
  unfold tE at h
  rw [show ev K (.lc vs g it t e) pk = fun q => bindR (evI K it q) fun l q1 => if noOw vs q1 then
      match loopC vs (fun d q => evL K g (.val d) q) (evT K t) (ev K e false) [] l q1 with
      | .ok ds q2 => .ok (.new (.lst ds)) (backF vs q1 q2)
      | _ => .bad
    else .bad from rfl] at h
  refine TR.bind h fun R0 q q1 l J H1 f0 la bk p z => ?_
  obtain ⟨f1, G, Y, wk, gG, gY⟩ := p
  intro L hL
  have hno : noOw vs q1 = true := by
    cases e : noOw vs q1 with
    | true => rfl
    | false => rw [e] at z; exact z.elim
  rw [if_pos hno] at z
  cases hr : loopC vs (fun d q => evL K g (.val d) q) (evT K t) (ev K e false) [] l q1 with
  | bad => rw [hr] at z; exact z.elim
  | exc _ _ _ => rw [hr] at z; exact z.elim
  | ok dsr qr =>
    rw [hr] at z
    dsimp only at z
    have sm : Same H1 (upd H1 L (.lst [])) := same_upd hL
    have t0 : ∀ b, P1 R0 L b → (upd H1 L (.lst [])) b ≠ none := fun b y => by
      rcases y with y | y
      · exact (Lat.same (R := Ow σ q) sm).tr b (f1.trk b y)
      · rw [y, upd_same]; exact fun z => nomatch z
    have c0 : CI Z R0 L σ q1 (upd H1 L (.lst [])) [] := ⟨f1.on sm (fun b y => Or.elim y .inl fun e => .inr (e ▸ hL)) t0, [], upd_same, RepL.nil⟩
    have l0 : ∀ {q' : Fm} {H' : Hp}, LaD L (wipe σ vs) (wipeF vs q1) (upd H1 L (.lst [])) (wipe σ vs) (wipeF vs q') H' → Lat (Ow σ q1) H1 (Ow (wipe σ vs) (wipeF vs q')) H' := fun {q' H'} l2 => by
      refine ⟨fun b o hb n => l2.kp b o (sm b o hb) fun y => ?_, fun b y => ?_, fun b hb => l2.tr b ((Lat.same (R := Ow σ q) sm).tr b hb)⟩
      · rcases y with y | y
        · exact n (wipe_ow y)
        · rw [y, hL] at hb; cases hb
      · rcases l2.nw b (.inl y) with (y | y) | y
        · exact .inl (wipe_ow y)
        · exact .inr (y ▸ hL)
        · exact .inr (sm.free y)
    refine walk_by wk (B := fun x H' Nx => tG Z K g x (wipe σ vs) H' fun σ2 H2 => wipe σ2 vs = wipe σ vs ∧ tT Z K E0 t σ2 H2 fun b H3 =>
        if b = true then tE Z K E0 e false σ2 H3 fun y H4 => ∃ acc, H4 L = some (.lst acc) ∧ acc.length < sizeLine ∧ Nx (upd H4 L (.lst (acc ++ [y]))) else Nx H3)
      (fun i H' => ∃ qi acc, CI Z R0 L (wipe σ vs) (wipeF vs qi) H' acc ∧ LaD L (wipe σ vs) (wipeF vs q1) (upd H1 L (.lst [])) (wipe σ vs) (wipeF vs qi) H' ∧ BKo vs q1 qi ∧ loopC vs (fun d q => evL K g (.val d) q) (evT K t) (ev K e false) acc (l.drop i) qi = .ok dsr qr) ?_ ?_ ?_ ?_
    · exact ⟨q1, [], c0.wipe vs, Lat.refl _ _, fun _ _ h => h, hr⟩
    · rintro i H' hi ⟨qi, acc, c, lp, _, _⟩
      refine gG (Rt R0 (wipe σ vs) (wipeF vs qi)) H' ((l0 lp).more)
    · rintro i x H2 H3 hi ⟨qi, acc, c, lp, bo, hl⟩ y
      obtain ⟨d, hd⟩ : ∃ d, l[i]? = some d := ⟨l[i], by simp [hi]⟩
      obtain ⟨s3, rx⟩ := gY i x (Rt (P1 R0 L) (wipe σ vs) (wipeF vs qi)) H2 H3 d hd ((Lat.more (S := R0) (l0 lp)).less fun b y => by
        rcases y with (y | y) | y
        · exact .inl (.inl y)
        · exact .inr (y ▸ hL)
        · exact .inl (.inr y)) (fun b hb => c.fr.rtT hb) y
      have c3 : CI Z R0 L (wipe σ vs) (wipeF vs qi) H3 acc := c.step (Lat.same s3) (c.fr.on s3 (fun _ y => .inl y) fun b y => (Lat.same (R := Ow σ q) s3).tr b (c.fr.trk b y))
      rw [drop_at hd] at hl
      obtain ⟨u, qa, b, qb, e1, e2, hl⟩ := loopC_inv hl
      refine turn_ok wipe_idem c3 rx hns ⟨u, qa, b, qb, e1, e2, fun σ2 H4 hw len2 c4 l4 b4 => ?_⟩
      have bo2 : BKo vs q1 qb := fun j hj hb => bo j hj (bor_wipe (b4 j hb).1).1
      have l5 : LaD L (wipe σ vs) (wipeF vs q1) (upd H1 L (.lst [])) σ2 qb H4 := (lp.trans (LaD.of (Lat.same s3))).trans (LaD.of l4)
      have fin : ∀ {acc' : List D} {qc : Fm} {H5 : Hp}, CI Z R0 L σ2 qc H5 acc' → LaD L σ2 qb H4 σ2 qc H5 → BK qb qc → loopC vs (fun d q => evL K g (.val d) q) (evT K t) (ev K e false) acc' (l.drop (i + 1)) qc = .ok dsr qr →
          ∃ qi acc, CI Z R0 L (wipe σ vs) (wipeF vs qi) H5 acc ∧ LaD L (wipe σ vs) (wipeF vs q1) (upd H1 L (.lst [])) (wipe σ vs) (wipeF vs qi) H5 ∧ BKo vs q1 qi ∧ loopC vs (fun d q => evL K g (.val d) q) (evT K t) (ev K e false) acc (l.drop (i + 1)) qi = .ok dsr qr := fun {acc' qc H5} c5 l6 b6 hl' => by
        refine ⟨qc, acc', ?_, (l5.trans l6).trans (Lat.sub fun b y => Or.elim y (fun y => .inl (wipe_ow (by rw [hw]; exact y))) .inr), fun j hj hb => bo2 j hj (b6 j hb), hl'⟩
        have := c5.wipe vs
        rw [hw] at this
        exact this
      rcases hl with ⟨rfl, hl⟩ | ⟨rfl, x2, qc, y2, e3, e4, e5, hl⟩
      · exact iteF (fin c4 (Lat.refl _ _) (BK.refl _) hl)
      · exact iteT (elt_ok c4 e5 ⟨x2, qc, y2, e3, e4, fun H5 c5 l6 b6 => fin c5 l6 b6 hl⟩)
    · rintro H2 ⟨qi, acc, c, lp, bo, hl⟩
      rw [List.drop_length] at hl
      rw [loopC] at hl
      cases hl
      have lz := l0 lp
      obtain ⟨xs, h1, h2⟩ := c.li
      have lb : Lat (Rt R0 σ q1) H1 (Rt (P1 R0 L) (wipe σ vs) (wipeF vs qr)) H2 := (Lat.more (S := R0) lz).less fun b y => by
        rcases y with (y | y) | y
        · exact .inl (.inl y)
        · exact .inr (y ▸ hL)
        · exact .inl (.inr y)
      have fb := f1.back hno c.fr lb
      have ls : Lat (Ow (wipe σ vs) (wipeF vs qr)) H2 (Ow σ (backF vs q1 qr)) H2 := Lat.sub fun b y => back_ow hno y
      refine z (.ref L) H2 (la.trans (lz.trans ls)) (bk.trans fun i ⟨t, e1, e2⟩ => ?_) ⟨L, rfl, la.new hL, fb, _, xs, rfl, h1, h2.lat (Lat.more ls)⟩
      rcases back_slot hno e1 with ⟨_, e | ⟨e, e3⟩ | ⟨b, d, e, e3⟩⟩ | ⟨hi, e⟩
      · subst e; cases e2
      · subst e; exact ⟨_, e3, e2⟩
      · subst e; exact ⟨_, e3, e2⟩
      · exact bo i hi ⟨t, e, e2⟩
end
theorem wipeF_in' {q : Fm} {i : Nat} : ∀ {vs : List Nat}, i ∈ vs → (wipeF vs q)[i]? = if i < q.length then some .no else none
  | [], h => by cases h
  | v :: vs, h => by
    show ((wipeF vs q).set v .no)[i]? = _
    by_cases hv : v = i
    · subst hv
      by_cases hl : v < q.length
      · rw [List.getElem?_set_self (by rw [wipeF_len]; exact hl), if_pos hl]
      · rw [if_neg hl]; exact List.getElem?_eq_none (by rw [List.length_set, wipeF_len]; omega)
    · rw [List.getElem?_set_ne hv]
      exact wipeF_in' (by simpa [Ne.symm hv] using h)
theorem wipeF_two {q : Fm} {vs vs1 : List Nat} (h : ∀ i, i ∈ vs1 → i ∈ vs) : wipeF vs (wipeF vs1 q) = wipeF vs q := by
  apply List.ext_getElem?
  intro i
  by_cases hi : i ∈ vs
  · rw [wipeF_in' hi, wipeF_in' hi, wipeF_len]
  · rw [wipeF_out hi, wipeF_out hi, wipeF_out fun z => hi (h i z)]
theorem wipe_two {σ : Sg} {vs vs1 : List Nat} (h : ∀ i, i ∈ vs1 → i ∈ vs) : wipe (wipe σ vs1) vs = wipe σ vs := wipe_ext (wipe_length σ vs1) fun i hi => wipe_out fun z => hi (h i z)
section
variable {Z : Zc} {K : Calls} {ex : XK} {R0 R1 : Pr} {σ : Sg} {q q1 q2 : Fm} {H H' : Hp} {vs vs1 : List Nat} {L : Addr} {acc : List D}
theorem loopC1_inv {asg : D → Fm → Res Unit} {test : Fm → Res Bool} {elt : Fm → Res RV} {d : D} {ds r : List D} {qe : Fm} (h : loopC1 vs vs1 asg test elt acc (d :: ds) q = .ok r qe) :
    ∃ u qa b qb, asg d (wipeF vs1 q) = .ok u qa ∧ test qa = .ok b qb ∧ ((b = false ∧ loopC1 vs vs1 asg test elt acc ds qb = .ok r qe) ∨
      (b = true ∧ ∃ x qc y, elt qb = .ok x qc ∧ x.vd = some y ∧ acc.length < sizeLine ∧ loopC1 vs vs1 asg test elt (acc ++ [y]) ds qc = .ok r qe)) := by
  rw [loopC1] at h
  cases e1 : asg d (wipeF vs1 q) with
  | bad => rw [e1] at h; cases h
  | exc _ _ _ => rw [e1] at h; cases h
  | ok u qa =>
    rw [e1] at h
    dsimp only at h
    cases e2 : test qa with
    | bad => rw [e2] at h; cases h
    | exc _ _ _ => rw [e2] at h; cases h
    | ok b qb =>
      rw [e2] at h
      refine ⟨u, qa, b, qb, rfl, e2, ?_⟩
      cases b with
      | false =>
        dsimp only at h
        split at h
        · exact .inl ⟨rfl, h⟩
        · cases h
      | true =>
        dsimp only at h
        cases e3 : elt qb with
        | bad => rw [e3] at h; cases h
        | exc _ _ _ => rw [e3] at h; cases h
        | ok x qc =>
          rw [e3] at h
          dsimp only at h
          cases e4 : x.vd with
          | none => rw [e4] at h; cases h
          | some y =>
            rw [e4] at h
            dsimp only at h
            split at h
            · rename_i hh
              rw [Bool.and_eq_true] at hh
              exact .inr ⟨rfl, x, qc, y, rfl, e4, of_decide_eq_true hh.1, h⟩
            · cases h
theorem loopC2_inv {asg : D → Fm → Res Unit} {test : Fm → Res Bool} {inner : List D → Fm → Res (List D)} {d : D} {ds r : List D} {qe : Fm} (h : loopC2 vs asg test inner acc (d :: ds) q = .ok r qe) :
    ∃ u qa b qb, asg d (wipeF vs q) = .ok u qa ∧ test qa = .ok b qb ∧ ((b = false ∧ loopC2 vs asg test inner acc ds qb = .ok r qe) ∨
      (b = true ∧ ∃ acc' qc, inner acc qb = .ok acc' qc ∧ loopC2 vs asg test inner acc' ds qc = .ok r qe)) := by
  rw [loopC2] at h
  cases e1 : asg d (wipeF vs q) with
  | bad => rw [e1] at h; cases h
  | exc _ _ _ => rw [e1] at h; cases h
  | ok u qa =>
    rw [e1] at h
    dsimp only at h
    cases e2 : test qa with
    | bad => rw [e2] at h; cases h
    | exc _ _ _ => rw [e2] at h; cases h
    | ok b qb =>
      rw [e2] at h
      refine ⟨u, qa, b, qb, rfl, e2, ?_⟩
      cases b with
      | false =>
        dsimp only at h
        split at h
        · exact .inl ⟨rfl, h⟩
        · cases h
      | true =>
        dsimp only at h
        cases e3 : inner acc qb with
        | bad => rw [e3] at h; cases h
        | exc _ _ _ => rw [e3] at h; cases h
        | ok x qc =>
          rw [e3] at h
          dsimp only at h
          split at h
          · exact .inr ⟨rfl, x, qc, rfl, h⟩
          · cases h
/-- the inner walk -/
theorem inner_ok {g1 : LV} {it1 : I} {t1 : T} {e : E} {acc' : List D} {qd : Fm} {Nx : Hp → Prop} (c : CI Z R0 L σ q H acc) (hns : ∀ i, i ∈ g1.ns → i ∈ vs1)
    (h : (bindR (evI K it1 q) fun l1 q2 => if noOw vs q2 then loopC1 vs vs1 (fun d q => evL K g1 (.val d) q) (evT K t1) (ev K e false) acc l1 q2 else .bad) = .ok acc' qd)
    (k : ∀ H', CI Z R0 L (wipe σ vs1) (wipeF vs1 qd) H' acc' → LaD L σ q H (wipe σ vs1) (wipeF vs1 qd) H' → BKo vs1 q qd → Nx H') :
    tI Z K E0 it1 σ H fun J1 H4 => ∃ W1 : Nat → Nat → Hp → Prop, (∃ m, W1 0 m H4) ∧ ∀ j k H, W1 j k H →
      (J1.stop j H ∧ Nx H) ∨ (J1.go j H ∧ ∃ Nx1 : Hp → Prop, (∀ H', Nx1 H' → ∃ k', k' < k ∧ W1 (j + 1) k' H') ∧ ∀ x H', J1.yld j H x H' → tG Z K g1 x (wipe σ vs1) H' fun σ3 H5 => wipe σ3 vs1 = wipe σ vs1 ∧ tT Z K E0 t1 σ3 H5 fun b H6 =>
        if b = true then tE Z K E0 e false σ3 H6 fun y H7 => ∃ acc, H7 L = some (.lst acc) ∧ acc.length < sizeLine ∧ Nx1 (upd H7 L (.lst (acc ++ [y]))) else Nx1 H6) := by
  refine ⟨P1 R0 L, q, c.fr, ?_⟩
  cases e1 : evI K it1 q with
  | bad => rw [e1] at h; cases h
  | exc _ _ _ => rw [e1] at h; cases h
  | ok l q2 =>
    rw [e1] at h
    have h : (if noOw vs q2 then loopC1 vs vs1 (fun d q => evL K g1 (.val d) q) (evT K t1) (ev K e false) acc l q2 else .bad) = .ok acc' qd := h
    split at h
    case isFalse => cases h
    intro J H4 la bk p
    obtain ⟨f1, G, Y, wk, gG, gY⟩ := p
    have c1 : CI Z R0 L σ q2 H4 acc := c.step la f1
    refine walk_by wk (B := fun x H' Nx => tG Z K g1 x (wipe σ vs1) H' fun σ2 H2 => wipe σ2 vs1 = wipe σ vs1 ∧ tT Z K E0 t1 σ2 H2 fun b H3 =>
        if b = true then tE Z K E0 e false σ2 H3 fun y H4 => ∃ acc, H4 L = some (.lst acc) ∧ acc.length < sizeLine ∧ Nx (upd H4 L (.lst (acc ++ [y]))) else Nx H3)
      (fun i H' => ∃ qi acc, CI Z R0 L (wipe σ vs1) (wipeF vs1 qi) H' acc ∧ LaD L σ q2 H4 (wipe σ vs1) (wipeF vs1 qi) H' ∧ BKo vs1 q2 qi ∧ loopC1 vs vs1 (fun d q => evL K g1 (.val d) q) (evT K t1) (ev K e false) acc (l.drop i) qi = .ok acc' qd) ?_ ?_ ?_ ?_
    · exact ⟨q2, acc, c1.wipe vs1, Lat.sub fun b y => Or.elim y (fun y => .inl (wipe_ow y)) .inr, fun _ _ h => h, h⟩
    · rintro i H' hi ⟨qi, acc, c, lp, _, _⟩
      exact gG _ H' (lad_rt lp)
    · rintro i x H2 H3 hi ⟨qi, acc, c, lp, bo, hl⟩ y
      obtain ⟨d, hd⟩ : ∃ d, l[i]? = some d := ⟨l[i], by simp [hi]⟩
      obtain ⟨s3, rx⟩ := gY i x (Rt (P1 R0 L) (wipe σ vs1) (wipeF vs1 qi)) H2 H3 d hd (lad_rt lp) (fun b hb => c.fr.rtT hb) y
      have c3 : CI Z R0 L (wipe σ vs1) (wipeF vs1 qi) H3 acc := c.step (Lat.same s3) (c.fr.on s3 (fun _ y => .inl y) fun b y => (Lat.same (R := Ow σ q) s3).tr b (c.fr.trk b y))
      rw [drop_at hd] at hl
      obtain ⟨u, qa, b, qb, e1, e2, hl⟩ := loopC1_inv hl
      refine turn_ok wipe_idem c3 rx hns ⟨u, qa, b, qb, e1, e2, fun σ2 H4' hw len2 c4 l4 b4 => ?_⟩
      have bo2 : BKo vs1 q2 qb := fun j hj hb => bo j hj (bor_wipe (b4 j hb).1).1
      have l5 : LaD L σ q2 H4 σ2 qb H4' := (lp.trans (LaD.of (Lat.same s3))).trans (LaD.of l4)
      have fin : ∀ {acc2 : List D} {qc : Fm} {H5 : Hp}, CI Z R0 L σ2 qc H5 acc2 → LaD L σ2 qb H4' σ2 qc H5 → BK qb qc → loopC1 vs vs1 (fun d q => evL K g1 (.val d) q) (evT K t1) (ev K e false) acc2 (l.drop (i + 1)) qc = .ok acc' qd →
          ∃ qi acc, CI Z R0 L (wipe σ vs1) (wipeF vs1 qi) H5 acc ∧ LaD L σ q2 H4 (wipe σ vs1) (wipeF vs1 qi) H5 ∧ BKo vs1 q2 qi ∧ loopC1 vs vs1 (fun d q => evL K g1 (.val d) q) (evT K t1) (ev K e false) acc (l.drop (i + 1)) qi = .ok acc' qd := fun {acc2 qc H5} c5 l6 b6 hl' => by
        refine ⟨qc, acc2, ?_, (l5.trans l6).trans (Lat.sub fun b y => Or.elim y (fun y => .inl (wipe_ow (by rw [hw]; exact y))) .inr), fun j hj hb => bo2 j hj (b6 j hb), hl'⟩
        have := c5.wipe vs1
        rw [hw] at this
        exact this
      rcases hl with ⟨rfl, hl⟩ | ⟨rfl, x2, qc, y2, e3, e4, e5, hl⟩
      · exact iteF (fin c4 (Lat.refl _ _) (BK.refl _) hl)
      · exact iteT (elt_ok c4 e5 ⟨x2, qc, y2, e3, e4, fun H5 c5 l6 b6 => fin c5 l6 b6 hl⟩)
    · rintro H2 ⟨qi, acc, c, lp, bo, hl⟩
      rw [List.drop_length] at hl
      rw [loopC1] at hl
      cases hl
      exact k H2 c ((LaD.of la).trans lp) fun i hi hb => bk i (bo i hi hb)
theorem tE_lc2 {g g1 : LV} {it it1 : I} {t t1 : T} {e : E} {pk : Bool} {Q : VK} (hns : ∀ i, i ∈ g.ns → i ∈ vs) (hns1 : ∀ i, i ∈ g1.ns → i ∈ vs1) (hvs : ∀ i, i ∈ vs1 → i ∈ vs) (h : tE Z K ex (.lc2 vs vs1 g it t g1 it1 t1 e) pk σ H Q) :
    tLc2 (tI Z K ex it) (tG Z K g) (tT Z K E0 t) (tI Z K E0 it1) (tG Z K g1) (tT Z K E0 t1) (tE Z K E0 e false) vs vs1 σ H Q := by
  unfold tE at h
  rw [show ev K (.lc2 vs vs1 g it t g1 it1 t1 e) pk = fun q => bindR (evI K it q) fun l q1 => if noOw vs q1 then
      match loopC2 vs (fun d q => evL K g (.val d) q) (evT K t) (fun acc q => bindR (evI K it1 q) fun l1 q2 => if noOw vs q2 then loopC1 vs vs1 (fun d q => evL K g1 (.val d) q) (evT K t1) (ev K e false) acc l1 q2 else .bad) [] l q1 with
      | .ok ds q2 => .ok (.new (.lst ds)) (backF vs q1 q2)
      | _ => .bad
    else .bad from rfl] at h
  generalize hin : (fun (acc : List D) (q : Fm) => bindR (evI K it1 q) fun l1 q2 => if noOw vs q2 then loopC1 vs vs1 (fun d q => evL K g1 (.val d) q) (evT K t1) (ev K e false) acc l1 q2 else .bad) = inner at h
  refine TR.bind h fun R0 q q1 l J H1 f0 la bk p z => ?_
  obtain ⟨f1, G, Y, wk, gG, gY⟩ := p
  intro L hL
  have hno : noOw vs q1 = true := by
    cases e : noOw vs q1 with
    | true => rfl
    | false => rw [e] at z; exact z.elim
  rw [if_pos hno] at z
  cases hr : loopC2 vs (fun d q => evL K g (.val d) q) (evT K t) inner [] l q1 with
  | bad => rw [hr] at z; exact z.elim
  | exc _ _ _ => rw [hr] at z; exact z.elim
  | ok dsr qr =>
    rw [hr] at z
    dsimp only at z
    have sm : Same H1 (upd H1 L (.lst [])) := same_upd hL
    have t0 : ∀ b, P1 R0 L b → (upd H1 L (.lst [])) b ≠ none := fun b y => by
      rcases y with y | y
      · exact (Lat.same (R := Ow σ q) sm).tr b (f1.trk b y)
      · rw [y, upd_same]; exact fun z => nomatch z
    have c0 : CI Z R0 L σ q1 (upd H1 L (.lst [])) [] := ⟨f1.on sm (fun b y => Or.elim y .inl fun e => .inr (e ▸ hL)) t0, [], upd_same, RepL.nil⟩
    have l0 : ∀ {q' : Fm} {H' : Hp}, LaD L (wipe σ vs) (wipeF vs q1) (upd H1 L (.lst [])) (wipe σ vs) (wipeF vs q') H' → Lat (Ow σ q1) H1 (Ow (wipe σ vs) (wipeF vs q')) H' := fun {q' H'} l2 => by
      refine ⟨fun b o hb n => l2.kp b o (sm b o hb) fun y => ?_, fun b y => ?_, fun b hb => l2.tr b ((Lat.same (R := Ow σ q) sm).tr b hb)⟩
      · rcases y with y | y
        · exact n (wipe_ow y)
        · rw [y, hL] at hb; cases hb
      · rcases l2.nw b (.inl y) with (y | y) | y
        · exact .inl (wipe_ow y)
        · exact .inr (y ▸ hL)
        · exact .inr (sm.free y)
    refine walk_by wk (B := fun x H' Nx => tG Z K g x (wipe σ vs) H' fun σ2 H2 => wipe σ2 vs = wipe σ vs ∧ tT Z K E0 t σ2 H2 fun b H3 =>
        if b = true then tI Z K E0 it1 σ2 H3 fun J1 H4 => ∃ W1 : Nat → Nat → Hp → Prop, (∃ m, W1 0 m H4) ∧ ∀ j k H, W1 j k H →
          (J1.stop j H ∧ Nx H) ∨ (J1.go j H ∧ ∃ Nx1 : Hp → Prop, (∀ H', Nx1 H' → ∃ k', k' < k ∧ W1 (j + 1) k' H') ∧ ∀ x H', J1.yld j H x H' → tG Z K g1 x (wipe σ2 vs1) H' fun σ3 H5 => wipe σ3 vs1 = wipe σ2 vs1 ∧ tT Z K E0 t1 σ3 H5 fun b H6 =>
            if b = true then tE Z K E0 e false σ3 H6 fun y H7 => ∃ acc, H7 L = some (.lst acc) ∧ acc.length < sizeLine ∧ Nx1 (upd H7 L (.lst (acc ++ [y]))) else Nx1 H6)
        else Nx H3)
      (fun i H' => ∃ qi acc, CI Z R0 L (wipe σ vs) (wipeF vs qi) H' acc ∧ LaD L (wipe σ vs) (wipeF vs q1) (upd H1 L (.lst [])) (wipe σ vs) (wipeF vs qi) H' ∧ BKo vs q1 qi ∧ loopC2 vs (fun d q => evL K g (.val d) q) (evT K t) inner acc (l.drop i) qi = .ok dsr qr) ?_ ?_ ?_ ?_
    · exact ⟨q1, [], c0.wipe vs, Lat.refl _ _, fun _ _ h => h, hr⟩
    · rintro i H' hi ⟨qi, acc, c, lp, _, _⟩
      refine gG (Rt R0 (wipe σ vs) (wipeF vs qi)) H' ((l0 lp).more)
    · rintro i x H2 H3 hi ⟨qi, acc, c, lp, bo, hl⟩ y
      obtain ⟨d, hd⟩ : ∃ d, l[i]? = some d := ⟨l[i], by simp [hi]⟩
      obtain ⟨s3, rx⟩ := gY i x (Rt (P1 R0 L) (wipe σ vs) (wipeF vs qi)) H2 H3 d hd ((Lat.more (S := R0) (l0 lp)).less fun b y => by
        rcases y with (y | y) | y
        · exact .inl (.inl y)
        · exact .inr (y ▸ hL)
        · exact .inl (.inr y)) (fun b hb => c.fr.rtT hb) y
      have c3 : CI Z R0 L (wipe σ vs) (wipeF vs qi) H3 acc := c.step (Lat.same s3) (c.fr.on s3 (fun _ y => .inl y) fun b y => (Lat.same (R := Ow σ q) s3).tr b (c.fr.trk b y))
      rw [drop_at hd] at hl
      obtain ⟨u, qa, b, qb, e1, e2, hl⟩ := loopC2_inv hl
      refine turn_ok wipe_idem c3 rx hns ⟨u, qa, b, qb, e1, e2, fun σ2 H4 hw len2 c4 l4 b4 => ?_⟩
      have bo2 : BKo vs q1 qb := fun j hj hb => bo j hj (bor_wipe (b4 j hb).1).1
      have l5 : LaD L (wipe σ vs) (wipeF vs q1) (upd H1 L (.lst [])) σ2 qb H4 := (lp.trans (LaD.of (Lat.same s3))).trans (LaD.of l4)
      rcases hl with ⟨rfl, hl⟩ | ⟨rfl, acc2, qc, e3, hl⟩
      · refine iteF ⟨qb, acc, ?_, l5.trans (Lat.sub fun b y => Or.elim y (fun y => .inl (wipe_ow (by rw [hw]; exact y))) .inr), bo2, hl⟩
        have := c4.wipe vs
        rw [hw] at this
        exact this
      · refine iteT (inner_ok (vs := vs) (e := e) (acc' := acc2) (qd := qc) c4 hns1 (by rw [← hin] at e3; exact e3) fun H5 c5 l6 b6 => ?_)
        have hw2 : wipe (wipe σ2 vs1) vs = wipe σ vs := (wipe_two hvs).trans hw
        have hq2 : wipeF vs (wipeF vs1 qc) = wipeF vs qc := wipeF_two hvs
        refine ⟨qc, acc2, ?_, (l5.trans l6).trans (Lat.sub fun b y => Or.elim y (fun y => .inl (wipe_ow (vs := vs) (by rw [hw2, hq2]; exact y))) .inr), fun j hj hb => ?_, hl⟩
        · have := c5.wipe vs
          rw [hw2, hq2] at this
          exact this
        · exact bo2 j hj (b6 j (fun z => hj (hvs j z)) hb)
    · rintro H2 ⟨qi, acc, c, lp, bo, hl⟩
      rw [List.drop_length] at hl
      rw [loopC2] at hl
      cases hl
      have lz := l0 lp
      obtain ⟨xs, h1, h2⟩ := c.li
      have lb : Lat (Rt R0 σ q1) H1 (Rt (P1 R0 L) (wipe σ vs) (wipeF vs qr)) H2 := (Lat.more (S := R0) lz).less fun b y => by
        rcases y with (y | y) | y
        · exact .inl (.inl y)
        · exact .inr (y ▸ hL)
        · exact .inl (.inr y)
      have fb := f1.back hno c.fr lb
      have ls : Lat (Ow (wipe σ vs) (wipeF vs qr)) H2 (Ow σ (backF vs q1 qr)) H2 := Lat.sub fun b y => back_ow hno y
      refine z (.ref L) H2 (la.trans (lz.trans ls)) (bk.trans fun i ⟨t, e1, e2⟩ => ?_) ⟨L, rfl, la.new hL, fb, _, xs, rfl, h1, h2.lat (Lat.more ls)⟩
      rcases back_slot hno e1 with ⟨_, e | ⟨e, e3⟩ | ⟨b, d, e, e3⟩⟩ | ⟨hi, e⟩
      · subst e; cases e2
      · subst e; exact ⟨_, e3, e2⟩
      · subst e; exact ⟨_, e3, e2⟩
      · exact bo i hi ⟨t, e, e2⟩
end
section
variable {W : Wo} {X : Cx} {ex : XK} {n : Nat} {pos p1 p2 : Pos} {a b c tg tg1 elt iter iter1 : Expr} {A B C : E} {x : Str}
theorem Gd.blk (g : Gd W n X ex) (s : Shared) (H : Hp) (scope : Scope) (cenv : Env) (fp : List Addr) : Gd W n (X.blk s H scope cenv fp) E0 := ⟨g.hP, g.hw, g.hK, g.hm, g.hb, g.calm1, g.nd, g.rm, g.hd1, passL, g.qu⟩
/-- a clause's tests -/
def MTs (W : Wo) (X : Cx) (ex : XK) (es : List Expr) (t : T) : Prop := PTs X es (tT W.Z W.K ex t)
theorem mts_nil : MTs W X ex [] .yes := ⟨fun pins s σ H Q I h => pts_nil.run pins s σ H Q I (tT_yes h)⟩
theorem me_lc [Calm W] {ifs : List Expr} {scope : Scope} (own : List (Str × Nat)) {g : LV} {it : I} {t : T} (gd : Gd W n X ex) (hi : MI W X ex tg iter it)
    (hg : ∀ s H C cl fp, Gd W n (X.blk s H scope (compEnvC scope cl C X.env) fp) E0 → ML W (X.blk s H scope (compEnvC scope cl C X.env) fp) tg g)
    (ht : ∀ s H C cl fp, Gd W n (X.blk s H scope (compEnvC scope cl C X.env) fp) E0 → MTs W (X.blk s H scope (compEnvC scope cl C X.env) fp) E0 ifs t)
    (he : ∀ s H C cl fp, Gd W n (X.blk s H scope (compEnvC scope cl C X.env) fp) E0 → ME W (X.blk s H scope (compEnvC scope cl C X.env) fp) E0 elt A)
    (ok : blkC X.N X.env.scope scope own = true := by kernel_rfl) (hns : ∀ i, i ∈ g.ns → i ∈ own.map (·.2) := by decide +kernel) (hs : ∀ x, foldedSetIterable iter X.env x = pure x := by intro _; rfl) :
    ME W X ex (.ListComp elt [⟨tg, iter, ifs, 0⟩] scope pos) (.lc (own.map (·.2)) g it t A) := fun pk =>
  (pe_lc gd.calm gd.nd hi (blkOk_by ok) (fun s H C cl fp => hg s H C cl fp (gd.blk ..)) (fun s H C cl fp => ht s H C cl fp (gd.blk ..)) (fun s H C cl fp => he s H C cl fp (gd.blk ..) false) hs).imp fun _ _ _ h => tE_lc hns h
theorem me_lc2 [Calm W] {ifs ifs1 : List Expr} {scope : Scope} (own : List (Str × Nat)) (vs1 : List Nat) {g g1 : LV} {it it1 : I} {t t1 : T} (gd : Gd W n X ex) (hi : MI W X ex tg iter it)
    (hg : ∀ s H C cl fp, Gd W n (X.blk s H scope (compEnvC scope cl C X.env) fp) E0 → ML W (X.blk s H scope (compEnvC scope cl C X.env) fp) tg g)
    (ht : ∀ s H C cl fp, Gd W n (X.blk s H scope (compEnvC scope cl C X.env) fp) E0 → MTs W (X.blk s H scope (compEnvC scope cl C X.env) fp) E0 ifs t)
    (hi1 : ∀ s H C cl fp, Gd W n (X.blk s H scope (compEnvC scope cl C X.env) fp) E0 → MI W (X.blk s H scope (compEnvC scope cl C X.env) fp) E0 tg1 iter1 it1)
    (hg1 : ∀ s H C cl fp, Gd W n (X.blk s H scope (compEnvC scope cl C X.env) fp) E0 → ML W (X.blk s H scope (compEnvC scope cl C X.env) fp) tg1 g1)
    (ht1 : ∀ s H C cl fp, Gd W n (X.blk s H scope (compEnvC scope cl C X.env) fp) E0 → MTs W (X.blk s H scope (compEnvC scope cl C X.env) fp) E0 ifs1 t1)
    (he : ∀ s H C cl fp, Gd W n (X.blk s H scope (compEnvC scope cl C X.env) fp) E0 → ME W (X.blk s H scope (compEnvC scope cl C X.env) fp) E0 elt A)
    (ok : blkC X.N X.env.scope scope own = true := by kernel_rfl) (hns : ∀ i, i ∈ g.ns → i ∈ own.map (·.2) := by decide +kernel) (hns1 : ∀ i, i ∈ g1.ns → i ∈ vs1 := by decide +kernel) (hv : ∀ i, i ∈ vs1 → i ∈ own.map (·.2) := by decide +kernel)
    (hs : ∀ x, foldedSetIterable iter X.env x = pure x := by intro _; rfl) (hs1 : ∀ env x, foldedSetIterable iter1 env x = pure x := by intro _ _; rfl) :
    ME W X ex (.ListComp elt [⟨tg, iter, ifs, 0⟩, ⟨tg1, iter1, ifs1, 0⟩] scope pos) (.lc2 (own.map (·.2)) vs1 g it t g1 it1 t1 A) := fun pk =>
  (pe_lc2 gd.calm gd.nd hi (blkOk_by ok) hv (fun s H C cl fp => hg s H C cl fp (gd.blk ..)) (fun s H C cl fp => ht s H C cl fp (gd.blk ..)) (fun s H C cl fp => hi1 s H C cl fp (gd.blk ..)) (fun s H C cl fp => hg1 s H C cl fp (gd.blk ..)) (fun s H C cl fp => ht1 s H C cl fp (gd.blk ..)) (fun s H C cl fp => he s H C cl fp (gd.blk ..) false) hs hs1).imp fun _ _ _ h => tE_lc2 hns hns1 hv h
end
end M

set_option Elab.async false
set_option linter.all false
set_option maxRecDepth 100000
set_option maxHeartbeats 4000000
/-! A14: statements. -/
namespace M
open PySem L2 PyProof.Rows

def AnS (Z : Zc) (E : XK) (R0 : Pr) (σ : Sg) (q : Fm) (H : Hp) (D : Ends) : SRes → Prop
  | .nx q' => ∀ σ' H', Lat (Ow σ q) H (Ow σ' q') H' → BKs σ q σ' q' → FR Z R0 σ' q' H' → D.nx σ' H'
  | .brk q' => ∀ σ' H', Lat (Ow σ q) H (Ow σ' q') H' → BKs σ q σ' q' → FR Z R0 σ' q' H' → D.bk σ' H'
  | .cnt q' => ∀ σ' H', Lat (Ow σ q) H (Ow σ' q') H' → BKs σ q σ' q' → FR Z R0 σ' q' H' → D.ct σ' H'
  | .ret r q' => ∀ w σ' H', Lat (Ow σ q) H (Ow σ' q') H' → BKs σ q σ' q' → PoV Z R0 σ' H q' H' w r → D.rt w H'
  | .exc c ds q' => ∀ d σ' H', Lat (Ow σ q) H (Ow σ' q') H' → BKs σ q σ' q' → FR Z R0 σ' q' H' → XRep Z H' (Rt R0 σ' q') c ds d → E (.ref (Z.C c)) d H'
  | .bad => False
def tS (Z : Zc) (K : Calls) (ex : XK) (s : S) : TS := fun D σ H => ∃ R0 q, FR Z R0 σ q H ∧ AnS Z ex R0 σ q H D (evS K s q)
def tSs (Z : Zc) (K : Calls) (ex : XK) (s : Ss) : TS := fun D σ H => ∃ R0 q, FR Z R0 σ q H ∧ AnS Z ex R0 σ q H D (evSs K s q)
def MS (W : Wo) (X : Cx) (ex : XK) (st : Stmt) (s : S) : Prop := PS X st (tS W.Z W.K ex s)
def MSs (W : Wo) (X : Cx) (ex : XK) (st : List Stmt) (s : Ss) : Prop := PSs X st (tSs W.Z W.K ex s)
theorem _root_.L2.PS.imp {X : Cx} {st : Stmt} {t t' : TS} (h : PS X st t) (i : ∀ D s H, t' D s H → t D s H) : PS X st t' := ⟨fun pins s σ H D I q => h.run pins s σ H D I (i D σ H q)⟩
theorem _root_.L2.PSs.imp {X : Cx} {st : List Stmt} {t t' : TS} (h : PSs X st t) (i : ∀ D s H, t' D s H → t D s H) : PSs X st t' := ⟨fun pins s σ H D I q => h.run pins s σ H D I (i D σ H q)⟩
section
variable {Z : Zc} {K : Calls} {ex : XK} {R0 : Pr} {σ σ1 : Sg} {q q1 : Fm} {H H1 : Hp} {D D' : Ends}
theorem PoV.early' {σ' : Sg} {q' : Fm} {H' : Hp} {w : V} {r : RV} (l : ∀ b, H1 b = none → H b = none) (h : PoV Z R0 σ' H1 q' H' w r) : PoV Z R0 σ' H q' H' w r := by
  cases r with
  | val d => exact h
  | new d =>
    obtain ⟨a, e, hn, f, o⟩ := h
    exact ⟨a, e, l a hn, f, o⟩
  | slot i => exact h
/-- from a later start; other ends -/
theorem AnS.late (l : Lat (Ow σ q) H (Ow σ1 q1) H1) (b : BKs σ q σ1 q1) : ∀ {r : SRes}, AnS Z ex R0 σ q H D r → AnS Z ex R0 σ1 q1 H1 D r
  | .nx _, h => fun σ' H' l2 b2 f => h σ' H' (l.trans l2) (b.trans b2) f
  | .brk _, h => fun σ' H' l2 b2 f => h σ' H' (l.trans l2) (b.trans b2) f
  | .cnt _, h => fun σ' H' l2 b2 f => h σ' H' (l.trans l2) (b.trans b2) f
  | .ret _ _, h => fun w σ' H' l2 b2 p => h w σ' H' (l.trans l2) (b.trans b2) (p.early' fun b hb => l.new hb)
  | .exc _ _ _, h => fun d σ' H' l2 b2 f x => h d σ' H' (l.trans l2) (b.trans b2) f x
  | .bad, h => h
theorem AnS.bind {α W : Type} {f : Res α} {g : α → Fm → SRes} {Po : Fm → Hp → W → α → Prop} {Q : W → Hp → Prop} : ∀ {r : Res α}, AnS Z ex R0 σ q H D (ofR r g) →
    (∀ q1 w H1 a, r = .ok a q1 → Lat (Ow σ q) H (Ow σ q1) H1 → BK q q1 → Po q1 H1 w a → AnS Z ex R0 σ q H D (g a q1) → Q w H1) → An Z ex R0 σ q H Po Q r
  | .ok a q1, h, k => fun w H1 l b p => k q1 w H1 a rfl l b p h
  | .exc c ds q1, h, _ => fun d H' l b f x => h d σ H' l b.s f x
  | .bad, h, _ => h
theorem tS_expr {e : E} (h : tS Z K ex (.expr e) D σ H) : tDrop (tE Z K ex e false) D σ H := by
  obtain ⟨R0, q, f0, h⟩ := h
  refine ⟨R0, q, f0, AnS.bind (f := ev K e false q) (g := fun _ q1 => .nx q1) h fun q1 w H1 a _ l b p z => ?_⟩
  exact z σ H1 l b.s (p.down f0).1
theorem tS_ret {e : E} (h : tS Z K ex (.ret e) D σ H) : tRet (tE Z K ex e false) D σ H := by
  obtain ⟨R0, q, f0, h⟩ := h
  refine ⟨R0, q, f0, AnS.bind (f := ev K e false q) (g := fun r q1 => .ret r q1) h fun q1 w H1 a _ l b p z => ?_⟩
  exact z w σ H1 l b.s p
theorem tS_nev (h : tS Z K ex .nev D σ H) : tNever D σ H := by
  obtain ⟨R0, q, f0, h⟩ := h
  exact h
theorem pov_pre {q0 : Fm} {v : V} {r : RV} (f0 : FR Z R0 σ q0 H) (p : PoV Z R0 σ H q1 H1 v r) : PreG Z R0 σ q1 H1 v r := by
  cases r with
  | val d => exact p
  | new d =>
    obtain ⟨a, rfl, hn, f, o⟩ := p
    exact ⟨a, rfl, fun z => f0.trk a z hn, f, o⟩
  | slot i => exact p.1
theorem pov_ax {q0 : Fm} {v : V} {r : RV} (l : Lat (Ow σ q) H (Ow σ q1) H1) (p : PoV Z R0 σ H q1 H1 v r) : Lat (Ow σ q) H (fun b => Ow σ q1 b ∨ Ax r v b) H1 := l.less fun b z => by
  rcases z with z | z
  · exact .inl z
  · cases r with
    | val d => exact z.elim
    | slot d => exact z.elim
    | new d =>
      obtain ⟨a, rfl, hn, _⟩ := p
      have e : V.ref a = V.ref b := z
      cases e
      exact .inr hn
theorem tS_asg {l : LV} {e : E} (h : tS Z K ex (.asg l e) D σ H) : tAsg (tE Z K ex e false) (tG Z K l) D σ H := by
  obtain ⟨R0, q, f0, h⟩ := h
  refine ⟨R0, q, f0, AnS.bind (f := ev K e false q) (g := fun r q1 => match evL K l r q1 with
    | .ok _ q2 => .nx q2
    | _ => .bad) h fun q1 w H1 r _ la b p z => ?_⟩
  refine ⟨R0, q1, r, pov_pre f0 p, ?_⟩
  cases e1 : evL K l r q1 with
  | bad => rw [e1] at z; exact z.elim
  | exc _ _ _ => rw [e1] at z; exact z.elim
  | ok u q2 =>
    rw [e1] at z
    intro σ' H' l2 b2 _ _ f2
    exact z σ' H' ((pov_ax (q0 := q) la p).trans l2) (b.s.trans b2) f2
theorem tS_asgS {l : LV} {e : E} (h : tS Z K ex (.asgS l e) D σ H) : tAsg (tE Z K ex e false) (tG Z K l) D σ H := by
  obtain ⟨R0, q, f0, h⟩ := h
  refine ⟨R0, q, f0, AnS.bind (f := ev K e false q) (g := fun r q1 => match evL K l r.down q1 with
    | .ok _ q2 => .nx q2
    | _ => .bad) h fun q1 w H1 r _ la b p z => ?_⟩
  have p' : PoV Z R0 σ H q1 H1 w r.down := by
    cases r with
    | new d => exact p.down f0
    | val d => exact p
    | slot i => exact p
  have hax : ∀ b, Ax r.down w b → False := fun b h => by cases r <;> exact h
  refine ⟨R0, q1, r.down, pov_pre f0 p', ?_⟩
  cases e1 : evL K l r.down q1 with
  | bad => rw [e1] at z; exact z.elim
  | exc _ _ _ => rw [e1] at z; exact z.elim
  | ok u q2 =>
    rw [e1] at z
    intro σ' H' l2 b2 _ _ f2
    exact z σ' H' ((pov_ax (q0 := q) la p').trans l2) (b.s.trans b2) f2
theorem set_no {q : Fm} {i j : Nat} {t : Slot} (h : (q.set i .no)[j]? = some t) (ht : t ≠ .no) : j ≠ i ∧ q[j]? = some t := by
  by_cases e : i = j
  · subst e
    rw [List.getElem?_set] at h
    rw [if_pos rfl] at h
    by_cases hl : i < q.length
    · rw [if_pos hl] at h; cases h; exact absurd rfl ht
    · rw [if_neg hl] at h; cases h
  · rw [List.getElem?_set_ne e] at h; exact ⟨fun z => e z.symm, h⟩
/-- an owned list given away -/
theorem FR.give {i : Nat} {w : V} {d : M.D} (f : FR Z R0 σ q H) (hw : σ[i]? = some (some w)) (hs : q[i]? = some (.ow false d)) : ∃ a, w = .ref a ∧ Ow σ q a ∧ FR Z (P1 R0 a) σ (q.set i .no) H ∧ OwnAt Z H (Rt (P1 R0 a) σ (q.set i .no)) a d ∧ Lat (Ow σ q) H (Ow σ (q.set i .no)) H ∧ BKs σ q σ (q.set i .no) := by
  obtain ⟨a, h1, h2, ds, xs, h3, h4, h5⟩ := f.ow i false d hs
  rw [hw] at h1; cases h1
  have oa : Ow σ q a := ⟨i, false, d, hs, hw⟩
  have os : ∀ b, Ow σ (q.set i .no) b → Ow σ q b := fun b ⟨j, b', d', z1, z2⟩ => ⟨j, b', d', (set_no z1 (fun z => nomatch z)).2, z2⟩
  have sub : ∀ b, Rt (P1 R0 a) σ (q.set i .no) b → Rt R0 σ q b := fun b z => by
    rcases z with (z | z) | z
    · exact .inl z
    · subst z; exact .inr oa
    · exact .inr (os b z)
  refine ⟨a, rfl, oa, ⟨?_, f.tb, fun b z => ?_, fun j b d' e => ?_, fun j b d' e => ?_, fun j k b b' d1 d2 c e1 e2 z1 z2 => ?_⟩, ⟨ds, xs, h3, h4, h5.lat (Lat.sub sub)⟩, Lat.sub os, fun j ⟨t, z1, z2⟩ => ?_⟩
  · rw [List.length_set]; exact f.len
  · rcases z with z | z
    · exact f.trk b z
    · subst z; rw [h4]; exact fun z => nomatch z
  · obtain ⟨_, e1⟩ := set_no e (fun z => nomatch z)
    obtain ⟨v, g1, g2⟩ := f.sh j b d' e1
    exact ⟨v, g1, g2.lat (Lat.sub sub)⟩
  · obtain ⟨n, e1⟩ := set_no e (fun z => nomatch z)
    obtain ⟨c, g1, g2, g3⟩ := f.ow j b d' e1
    refine ⟨c, g1, fun z => ?_, g3.lat (Lat.sub sub) rfl⟩
    rcases z with z | z
    · exact g2 z
    · subst z; exact n (f.sep j i _ _ _ _ _ e1 hs g1 hw)
  · exact f.sep j k b b' d1 d2 c (set_no e1 (fun z => nomatch z)).2 (set_no e2 (fun z => nomatch z)).2 z1 z2
  · have ht : t ≠ .no := fun z => by subst z; cases z2
    exact ⟨⟨t, (set_no z1 ht).2, z2⟩, rfl⟩
theorem no_ow {as : Fm} (h : noOwA as = true) {s : Sg} {a : Addr} : ¬ Ow s as a := fun ⟨i, b, d, h1, _⟩ => by
  have := List.all_eq_true.mp h _ (List.mem_of_getElem? h1)
  cases this
theorem tS_retS {e : E} (h : tS Z K ex (.retS e) D σ H) : tRet (tE Z K ex e false) D σ H := by
  obtain ⟨R0, q, f0, h⟩ := h
  refine ⟨R0, q, f0, AnS.bind (f := ev K e false q) (g := fun r q1 => .ret r.down q1) h fun q1 w H1 r _ l b p z => ?_⟩
  refine z w σ H1 l b.s ?_
  cases r with
  | new d => exact p.down f0
  | val d => exact p
  | slot i => exact p
/-! several names at once -/
def RX (R : Pr) (r : RV) (w : V) : Pr := fun b => R b ∨ Ax r w b
def Hd (Z : Zc) (H : Hp) (R : Pr) (w : V) : RV → Prop
  | .val d => Rep Z H R w d
  | .new d => ∃ a, w = .ref a ∧ OwnAt Z H R a d
  | .slot _ => False
def RXs (R : Pr) : List V → List RV → Pr
  | w :: ws, r :: rs => fun b => RXs R ws rs b ∨ Ax r w b
  | _, _ => R
def HN (Z : Zc) (R0 : Pr) (σ : Sg) (q : Fm) (H : Hp) (R : Pr) : List V → List RV → Prop
  | [], [] => True
  | w :: ws, r :: rs => Hd Z H R w r ∧ (∀ b, Ax r w b → ¬ RXs R0 ws rs b) ∧ HN Z R0 σ q H R ws rs
  | _, _ => False
theorem RXs.base {R : Pr} {b : Addr} : ∀ {ws : List V} {rs : List RV}, R b → RXs R ws rs b
  | [], _, h => h
  | _ :: _, [], h => h
  | _ :: _, _ :: _, h => .inl (RXs.base h)
theorem pov_h {q' : Fm} {w : V} {r : RV} (f0 : FR Z R0 σ q H) (h : PoV Z R0 σ H q' H1 w r) (n : ∀ i, r ≠ .slot i) : FR Z (RX R0 r w) σ q' H1 ∧ Hd Z H1 (Rt (RX R0 r w) σ q') w r ∧ ∀ b, Ax r w b → H b = none := by
  cases r with
  | slot i => exact absurd rfl (n i)
  | val d => exact ⟨h.1.fewer fun b z => Or.elim z (fun z => z) fun z => z.elim, h.2.lat (Lat.sub fun b z => Or.elim z (fun z => Or.elim z .inl fun z => z.elim) .inr), fun b z => z.elim⟩
  | new d =>
    obtain ⟨a, rfl, hn, f, o⟩ := h
    have e : ∀ b, RX R0 (.new d) (.ref a) b → P1 R0 a b := fun b z => Or.elim z .inl fun z => by
      have z : V.ref a = V.ref b := z
      cases z
      exact .inr rfl
    refine ⟨f.fewer e, ⟨a, rfl, o.lat (Lat.sub fun b z => Or.elim z (fun z => .inl (e b z)) .inr) rfl⟩, fun b z => ?_⟩
    have z : V.ref a = V.ref b := z
    cases z
    exact hn
theorem Hd.pre {w : V} {r : RV} (f : FR Z (RX R0 r w) σ q H) (h : Hd Z H (Rt (RX R0 r w) σ q) w r) (n : ∀ b, Ax r w b → ¬ R0 b) : PreG Z R0 σ q H w r := by
  cases r with
  | slot i => exact h.elim
  | val d => exact ⟨f.fewer fun b z => .inl z, h.lat (Lat.sub fun b z => Or.elim z (fun z => .inl (.inl z)) .inr)⟩
  | new d =>
    obtain ⟨a, rfl, o⟩ := h
    have e : ∀ b, P1 R0 a b → RX R0 (.new d) (.ref a) b := fun b z => Or.elim z .inl fun z => .inr (by subst z; rfl)
    exact ⟨a, rfl, n a rfl, f.fewer e, o.lat (Lat.sub fun b z => Or.elim z (fun z => .inl (e b z)) .inr) rfl⟩
theorem Hd.lat {R R' : Pr} {w : V} {r : RV} (h : Hd Z H R w r) (l : Lat R H R' H1) (k : ∀ b o, Ax r w b → H b = some o → NT o → H1 b = some o) : Hd Z H1 R' w r := by
  cases r with
  | slot i => exact h
  | val d => exact Rep.lat l h
  | new d =>
    obtain ⟨a, rfl, ds, xs, e1, e2, e3⟩ := h
    exact ⟨a, rfl, ds, xs, e1, k a _ rfl e2 (fun _ z => nomatch z), e3.lat l⟩
theorem HN.lat {q' : Fm} {σ' : Sg} {R R' : Pr} (l : Lat R H R' H1) : ∀ {ws : List V} {rs : List RV}, HN Z R0 σ q H R ws rs → (∀ b o, RXs R0 ws rs b → H b = some o → NT o → H1 b = some o) → HN Z R0 σ' q' H1 R' ws rs
  | [], [], _, _ => True.intro
  | w :: ws, r :: rs, ⟨h1, h2, h3⟩, k => ⟨h1.lat l fun b o a => k b o (.inr a), h2, HN.lat l h3 fun b o a => k b o (.inl a)⟩
  | [], _ :: _, h, _ => h.elim
  | _ :: _, [], h, _ => h.elim
theorem set_held {i : Nat} {w : V} {r : RV} {q' : Fm} (f : FR Z (RX R0 r w) σ q H) (h : Hd Z H (Rt (RX R0 r w) σ q) w r) (n : ∀ b, Ax r w b → ¬ R0 b) (e : setName i r q = .ok () q') :
    FR Z R0 (σ.set i (some w)) q' H ∧ (∀ b, Ow (σ.set i (some w)) q' b → Ow σ q b ∨ Ax r w b) ∧ BKs σ q (σ.set i (some w)) q' := by
  have p := Hd.pre f h n
  unfold setName at e
  cases e1 : q[i]? with
  | none => rw [e1] at e; cases e
  | some t =>
    rw [e1] at e
    dsimp only at e
    cases hb : t.isBor with
    | true => rw [hb] at e; cases e
    | false =>
      rw [hb] at e
      have hi : i < q.length := (List.getElem?_eq_some_iff.mp e1).1
      cases r with
      | slot _ => cases e
      | val d =>
        cases e
        obtain ⟨f, rp⟩ := p
        exact ⟨f.setSh hi rp, fun b z => .inl (set_ow rfl z), bks_set e1 rfl⟩
      | new d =>
        cases e
        obtain ⟨a, rfl, n, f, o⟩ := p
        have hs : i < σ.length := by rw [f.len]; exact hi
        exact ⟨f.setOw n hi o, fun b z => Or.elim (setOw_ow hs z) .inl fun e => .inr (by rw [e]; exact rfl), bks_set e1 rfl⟩
def sets (l : List (Nat × V)) (σ : Sg) : Sg := l.foldl (fun s p => s.set p.1 (some p.2)) σ
/-- all held values are stored, the first one first -/
theorem sets_ok (ns : List Nat) : ∀ {ws : List V} {rs : List RV} {σ : Sg} {q q' : Fm}, FR Z (RXs R0 ws rs) σ q H → HN Z R0 σ q H (Rt (RXs R0 ws rs) σ q) ws rs → ns.length = rs.length → setNs (ns.zip rs) q = .nx q' →
    FR Z R0 (sets (ns.zip ws) σ) q' H ∧ (∀ b, Ow (sets (ns.zip ws) σ) q' b → Ow σ q b ∨ RXs (fun _ => False) ws rs b) ∧ BKs σ q (sets (ns.zip ws) σ) q' := by
  induction ns with
  | nil =>
    intro ws rs σ q q' f h hl e
    cases rs with
    | cons _ _ => cases hl
    | nil =>
      cases ws with
      | cons _ _ => exact h.elim
      | nil =>
        cases e
        exact ⟨f, fun b z => .inl z, BKs.refl _ _⟩
  | cons i ns ih =>
    intro ws rs σ q q' f h hl e
    cases rs with
    | nil => cases hl
    | cons r rs =>
      cases ws with
      | nil => exact h.elim
      | cons w ws =>
        obtain ⟨h1, h2, h3⟩ := h
        rw [List.zip_cons_cons, setNs] at e
        cases e1 : setName i r q with
        | bad => rw [e1] at e; cases e
        | exc _ _ _ => rw [e1] at e; cases e
        | ok u q1 =>
          rw [e1] at e
          dsimp only at e
          obtain ⟨f1, o1, b1⟩ := set_held (R0 := RXs R0 ws rs) f h1 h2 e1
          have l : Lat (Rt (RXs R0 (w :: ws) (r :: rs)) σ q) H (Rt (RXs R0 ws rs) (σ.set i (some w)) q1) H := Lat.sub fun b z => by
            rcases z with z | z
            · exact .inl (.inl z)
            · exact Or.elim (o1 b z) .inr fun z => .inl (.inr z)
          obtain ⟨f2, o2, b2⟩ := ih f1 (HN.lat l h3 fun b o _ h _ => h) (by simpa using hl) e
          refine ⟨f2, fun b z => ?_, b1.trans b2⟩
          rcases o2 b z with z | z
          · exact Or.elim (o1 b z) .inl fun z => .inr (.inr z)
          · exact .inr (.inl z)
theorem sets_bad {i : Nat} {l : List (Nat × RV)} {q' : Fm} {k : Nat} : ∀ {l1 : List (Nat × RV)} {q : Fm}, setNs (l1 ++ (i, .slot k) :: l) q ≠ .nx q'
  | [], q => by
    rw [List.nil_append, setNs]
    unfold setName
    cases q[i]? with
    | none => exact fun z => nomatch z
    | some s =>
      intro z
      cases hb : s.isBor <;> simp [hb] at z
  | (j, r) :: l1, q => by
    rw [List.cons_append, setNs]
    cases setName j r q with
    | ok u q1 => exact sets_bad
    | _ => exact fun z => nomatch z
theorem AnS.bindR {α W : Type} {f : Res α} {g : α → Fm → SRes} {R1 : Pr} {Po : Fm → Hp → W → α → Prop} {Q : W → Hp → Prop} (hR : ∀ b, R0 b → R1 b) : ∀ {r : Res α}, AnS Z ex R0 σ q H D (ofR r g) →
    (∀ q1 w H1 a, r = .ok a q1 → Lat (Ow σ q) H (Ow σ q1) H1 → BK q q1 → Po q1 H1 w a → AnS Z ex R0 σ q H D (g a q1) → Q w H1) → An Z ex R1 σ q H Po Q r
  | .ok a q1, h, k => fun w H1 l b p => k q1 w H1 a rfl l b p h
  | .exc c ds q1, h, _ => fun d H' l b f x => h d σ H' l b.s (f.fewer hR) (x.lat (Lat.sub fun b z => Or.elim z (fun z => .inl (hR b z)) .inr))
  | .bad, h, _ => h
/-- one more is held -/
theorem hold {ws : List V} {rs : List RV} {q2 : Fm} {H2 : Hp} {w : V} {r : RV} (f : FR Z (RXs R0 ws rs) σ q H) (h : HN Z R0 σ q H (Rt (RXs R0 ws rs) σ q) ws rs) (l : Lat (Ow σ q) H (Ow σ q2) H2) (p : PoV Z (RXs R0 ws rs) σ H q2 H2 w r) (n : ∀ i, r ≠ .slot i) :
    FR Z (RXs R0 (w :: ws) (r :: rs)) σ q2 H2 ∧ HN Z R0 σ q2 H2 (Rt (RXs R0 (w :: ws) (r :: rs)) σ q2) (w :: ws) (r :: rs) ∧ ∀ b, Ax r w b → H b = none := by
  obtain ⟨f2, h2, x2⟩ := pov_h f p n
  refine ⟨f2, ⟨h2, fun b z y => f.trk b y (x2 b z), ?_⟩, x2⟩
  refine HN.lat (l := (lat_rt (R0 := RXs R0 ws rs) l).less fun b z => ?_) h fun b o z e => l.kp b o e fun y => ?_
  · rcases z with z | z
    · exact Or.elim z (fun z => .inl (.inl z)) fun z => .inr (x2 b z)
    · exact .inl (.inr z)
  · obtain ⟨i, b', d, h1, h2⟩ := y
    obtain ⟨a, h3, h4, _⟩ := f.ow i b' d h1
    rw [h2] at h3; cases h3
    exact h4 z
theorem setNs_cases : ∀ (l : List (Nat × RV)) (q : Fm), (∃ q', setNs l q = .nx q') ∨ setNs l q = .bad
  | [], q => .inl ⟨q, rfl⟩
  | (i, r) :: l, q => by
    rw [setNs]
    cases setName i r q with
    | ok u q1 => exact setNs_cases l q1
    | _ => exact .inr rfl
theorem ans_sets {l : List (Nat × RV)} {q2 : Fm} (h : AnS Z ex R0 σ q H D (setNs l q2)) : ∃ q', setNs l q2 = .nx q' := by
  rcases setNs_cases l q2 with e | e
  · exact e
  · rw [e] at h; exact h.elim
theorem slot_or (r : RV) : (∃ k, r = .slot k) ∨ ∀ k, r ≠ .slot k := by cases r <;> first | exact .inl ⟨_, rfl⟩ | exact .inr fun k e => nomatch e
theorem tS_par2 {i j : Nat} {a b : E} (hij : i ≠ j) (h : tS Z K ex (.par2 i j a b) D σ H) : tPar i j (tCons (tE Z K ex a false) (tCons (tE Z K ex b false) tNil)) D σ H := by
  obtain ⟨R0, q, f0, h⟩ := h
  have h : AnS Z ex R0 σ q H D (ofR (ev K a false q) fun r1 q1 => ofR (ev K b false q1) fun r2 q2 => setNs [(j, r2), (i, r1)] q2) := h
  refine ⟨R0, q, f0, AnS.bind (f := ev K a false q) h fun q1 w1 H1 r1 _ l1 b1 p1 z1 => ?_⟩
  rcases slot_or r1 with ⟨k, rfl⟩ | n1
  · refine ⟨R0, q1, p1.1, AnS.bind (f := ev K b false q1) (AnS.late l1 b1.s z1) fun q2 w2 H2 r2 _ l2 b2 p2 z2 => ?_⟩
    obtain ⟨q', e⟩ := ans_sets z2
    exact absurd e (sets_bad (l1 := [(j, r2)]))
  · obtain ⟨f1, h1, x1⟩ := hold (ws := []) (rs := []) f0 True.intro l1 p1 n1
    refine ⟨_, q1, f1, AnS.bindR (f := ev K b false q1) (fun b z => RXs.base z) (AnS.late l1 b1.s z1) fun q2 w2 H2 r2 e2 l2 b2 p2 z2 => ?_⟩
    obtain ⟨q', e⟩ := ans_sets z2
    rcases slot_or r2 with ⟨k, rfl⟩ | n2
    · exact absurd e (sets_bad (l1 := []))
    · obtain ⟨f2, h2, x2⟩ := hold f1 h1 l2 p2 n2
      obtain ⟨f3, o3, b3⟩ := sets_ok [j, i] f2 h2 rfl e
      rw [e2] at z1
      have z1 : AnS Z ex R0 σ q H D (setNs [(j, r2), (i, r1)] q2) := z1
      rw [e] at z1
      refine ⟨w1, w2, rfl, ?_⟩
      rw [List.set_comm _ _ hij]
      refine z1 _ H2 ?_ ((b1.trans b2).s.trans b3) f3
      refine (l1.trans l2).less fun b z => ?_
      rcases o3 b z with z | z
      · exact .inl z
      · rcases z with z | z
        · exact z.elim (fun z => z.elim) fun z => .inr (x1 b z)
        · exact .inr (l1.new (x2 b z))
theorem tS_ift {t : T} {a b : Ss} (h : tS Z K ex (.ift t a b) D σ H) : tIfS (tT Z K ex t) (tSs Z K ex a) (tSs Z K ex b) D σ H := by
  obtain ⟨R0, q, f0, h⟩ := h
  refine ⟨R0, q, f0, AnS.bind (f := evT K t q) (g := fun c q1 => if c then evSs K a q1 else evSs K b q1) h fun q1 w H1 c _ l bk p z => ?_⟩
  obtain ⟨f1, rfl⟩ := p
  cases w with
  | true => exact iteT ⟨R0, q1, f1, AnS.late l bk.s z⟩
  | false => exact iteF ⟨R0, q1, f1, AnS.late l bk.s z⟩
theorem tSs_nil (h : tSs Z K ex .nil D σ H) : tNext D σ H := by
  obtain ⟨R0, q, f0, h⟩ := h
  exact h σ H (Lat.refl _ _) (BKs.refl _ _) f0
theorem tSs_cons {s : S} {r : Ss} (h : tSs Z K ex (.cons s r) D σ H) : tSeq (tS Z K ex s) (tSs Z K ex r) D σ H := by
  obtain ⟨R0, q, f0, h⟩ := h
  refine ⟨R0, q, f0, ?_⟩
  rw [show evSs K (.cons s r) q = (match evS K s q with
    | .nx q1 => evSs K r q1
    | x => x) from rfl] at h
  cases e : evS K s q with
  | nx q1 =>
    rw [e] at h
    intro σ' H' l b f
    exact ⟨R0, q1, f, AnS.late l b h⟩
  | _ => rw [e] at h; exact h
theorem FR.less {q' : Fm} (f : FR Z R0 σ q H) (hl : q'.length = q.length) (ho : ∀ (i : Nat) (b : Bool) (d : M.D), q'[i]? = some (.ow b d) → q[i]? = some (.ow b d)) (hs : ∀ (i : Nat) (b : Bool) (d : M.D), q'[i]? = some (.sh b d) → q[i]? = some (.sh b d) ∨ q[i]? = some (.ow b d)) :
    FR Z R0 σ q' H ∧ ∀ b, Ow σ q' b → Ow σ q b := by
  have ow : ∀ b, Ow σ q' b → Ow σ q b := fun b ⟨i, b', d, h1, h2⟩ => ⟨i, b', d, ho i b' d h1, h2⟩
  have lt : Lat (Rt R0 σ q) H (Rt R0 σ q') H := Lat.sub fun b z => Or.elim z .inl fun z => .inr (ow b z)
  refine ⟨⟨f.len.trans hl.symm, f.tb, f.trk, fun i b d e => ?_, fun i b d e => ?_, fun i j b b' d d' a e e' h1 h2 => f.sep i j b b' d d' a (ho _ _ _ e) (ho _ _ _ e') h1 h2⟩, ow⟩
  · rcases hs i b d e with e' | e'
    · obtain ⟨v, h1, h2⟩ := f.sh i b d e'
      exact ⟨v, h1, h2.lat lt⟩
    · obtain ⟨a, h1, h2, ds, xs, h3, h4, h5⟩ := f.ow i b d e'
      subst h3
      refine ⟨.ref a, h1, .lst (.inl ⟨.inl h4, fun z => ?_⟩) (h5.lat lt)⟩
      rcases z with z | ⟨j, b2, d2, z1, z2⟩
      · exact h2 z
      · have := f.sep i j b b2 _ d2 a e' (ho _ _ _ z1) h1 z2
        subst this
        rw [e] at z1; cases z1
  · obtain ⟨a, h1, h2, h3⟩ := f.ow i b d (ho i b d e)
    exact ⟨a, h1, h2, h3.lat lt rfl⟩
theorem FR.kil1 {i : Nat} (f : FR Z R0 σ q H) : FR Z R0 σ (q.set i .no) H ∧ (∀ b, Ow σ (q.set i .no) b → Ow σ q b) ∧ BKs σ q σ (q.set i .no) := by
  have key : ∀ {j : Nat} {s : Slot}, (q.set i .no)[j]? = some s → s ≠ .no → q[j]? = some s := fun {j s} e n => by
    by_cases hj : i = j
    · subst hj
      by_cases hl : i < q.length
      · rw [List.getElem?_set_self hl] at e; cases e; exact absurd rfl n
      · rw [List.getElem?_eq_none (by simpa using hl)] at e; cases e
    · rw [List.getElem?_set_ne hj] at e; exact e
  obtain ⟨f1, o1⟩ := f.less (q' := q.set i .no) List.length_set (fun j b d e => key e (fun z => nomatch z)) (fun j b d e => .inl (key e (fun z => nomatch z)))
  exact ⟨f1, o1, fun j ⟨s, h1, h2⟩ => ⟨⟨s, key h1 (fun z => by subst z; cases h2), h2⟩, rfl⟩⟩
theorem FR.kil : ∀ {is : List Nat}, FR Z R0 σ q H → FR Z R0 σ (wipeF is q) H ∧ (∀ b, Ow σ (wipeF is q) b → Ow σ q b) ∧ BKs σ q σ (wipeF is q)
  | [], f => ⟨f, fun _ z => z, BKs.refl _ _⟩
  | i :: is, f => by
    obtain ⟨f1, o1, b1⟩ := FR.kil (is := is) f
    obtain ⟨f2, o2, b2⟩ := FR.kil1 (i := i) f1
    exact ⟨f2, fun b z => o1 b (o2 b z), b1.trans b2⟩
theorem FR.shr1 {i : Nat} (f : FR Z R0 σ q H) : FR Z R0 σ (M.shr1 i q) H ∧ (∀ b, Ow σ (M.shr1 i q) b → Ow σ q b) ∧ BKs σ q σ (M.shr1 i q) := by
  unfold M.shr1
  cases e1 : q[i]? with
  | none => exact ⟨f, fun _ z => z, BKs.refl _ _⟩
  | some s =>
    cases s with
    | ow b d =>
      dsimp only
      have hl : i < q.length := (List.getElem?_eq_some_iff.mp e1).1
      have key : ∀ {j : Nat} {s : Slot}, (q.set i (.sh b d))[j]? = some s → (j = i ∧ s = .sh b d) ∨ q[j]? = some s := fun {j s} e => by
        by_cases hj : i = j
        · subst hj
          rw [List.getElem?_set_self hl] at e; cases e
          exact .inl ⟨rfl, rfl⟩
        · rw [List.getElem?_set_ne hj] at e; exact .inr e
      obtain ⟨f1, o1⟩ := f.less (q' := q.set i (.sh b d)) List.length_set (fun j b' d' e => Or.elim (key e) (fun z => nomatch z.2) fun z => z) (fun j b' d' e => Or.elim (key e) (fun z => by obtain ⟨rfl, z⟩ := z; cases z; exact .inr e1) .inl)
      refine ⟨f1, o1, fun j ⟨s, h1, h2⟩ => ⟨?_, rfl⟩⟩
      rcases key h1 with ⟨rfl, rfl⟩ | z
      · exact ⟨_, e1, h2⟩
      · exact ⟨s, z, h2⟩
    | _ => exact ⟨f, fun _ z => z, BKs.refl _ _⟩
theorem FR.shr : ∀ {is : List Nat}, FR Z R0 σ q H → FR Z R0 σ (shrF is q) H ∧ (∀ b, Ow σ (shrF is q) b → Ow σ q b) ∧ BKs σ q σ (shrF is q)
  | [], f => ⟨f, fun _ z => z, BKs.refl _ _⟩
  | i :: is, f => by
    obtain ⟨f1, o1, b1⟩ := FR.shr (is := is) f
    obtain ⟨f2, o2, b2⟩ := FR.shr1 (i := i) f1
    exact ⟨f2, fun b z => o1 b (o2 b z), b1.trans b2⟩
theorem tSs_kil {is : List Nat} {r : Ss} (h : tSs Z K ex (.cons (.kil is) r) D σ H) : tSs Z K ex r D σ H := by
  obtain ⟨R0, q, f0, h⟩ := h
  obtain ⟨f1, o1, b1⟩ := f0.kil (is := is)
  exact ⟨R0, wipeF is q, f1, AnS.late (Lat.sub o1) b1 h⟩
theorem tSs_shr {is : List Nat} {r : Ss} (h : tSs Z K ex (.cons (.shr is) r) D σ H) : tSs Z K ex r D σ H := by
  obtain ⟨R0, q, f0, h⟩ := h
  obtain ⟨f1, o1, b1⟩ := f0.shr (is := is)
  exact ⟨R0, shrF is q, f1, AnS.late (Lat.sub o1) b1 h⟩
theorem tS_for {l : LV} {it : I} {b : Ss} (h : tS Z K ex (.for l it b) D σ H) : tFor (tI Z K ex it) (tG Z K l) (tSs Z K ex b) D σ H := by
  obtain ⟨R0, q, f0, h⟩ := h
  refine ⟨R0, q, f0, AnS.bind (f := evI K it q) (g := fun ds q1 => loopF (fun d q => evL K l (.val d) q) (evSs K b) ds q1) h fun q1 J H1 ds _ la bk p z => ?_⟩
  obtain ⟨f1, G, Y, wk, gG, gY⟩ := p
  refine for_it wk (fun i σi Hi => ∃ qi, FR Z R0 σi qi Hi ∧ Lat (Ow σ q1) H1 (Ow σi qi) Hi ∧ BKs σ q1 σi qi ∧ AnS Z ex R0 σ q H D (loopF (fun d q => evL K l (.val d) q) (evSs K b) (ds.drop i) qi)) ?_ ?_ ?_ ?_
  · exact ⟨q1, f1, Lat.refl _ _, BKs.refl _ _, z⟩
  · rintro i σi Hi hi ⟨qi, fi, li, _, _⟩
    exact gG _ Hi li.more
  · rintro i x σi Hi H2 hi ⟨qi, fi, li, bi, z⟩ y
    obtain ⟨d, hd⟩ : ∃ d, ds[i]? = some d := ⟨ds[i], by simp [hi]⟩
    obtain ⟨sm, rx⟩ := gY i x (Rt R0 σi qi) Hi H2 d hd li.more (fun b hb => fi.rtT hb) y
    rw [drop_at hd, loopF] at z
    have f2 : FR Z R0 σi qi H2 := fi.on sm (fun _ y => .inl y) fun b y => (Lat.same (R := Ow σ q) sm).tr b (fi.trk b y)
    refine ⟨R0, qi, .val d, ⟨f2, rx⟩, ?_⟩
    cases e1 : evL K l (.val d) qi with
    | bad => rw [e1] at z; exact z.elim
    | exc _ _ _ => rw [e1] at z; exact z.elim
    | ok u q3 =>
      rw [e1] at z
      dsimp only at z
      intro σ3 H3 l3 b3 _ _ f3
      have l3' : Lat (Ow σi qi) H2 (Ow σ3 q3) H3 := ⟨fun b o hb n => l3.kp b o hb fun y => Or.elim y n fun y => y.elim, fun b y => Or.elim (l3.nw b y) (fun y => Or.elim y .inl fun y => y.elim) .inr, l3.tr⟩
      have l03 : Lat (Ow σ q1) H1 (Ow σ3 q3) H3 := (li.trans (Lat.same sm)).trans l3'
      have b03 : BKs σ q1 σ3 q3 := bi.trans b3
      refine ⟨R0, q3, f3, ?_⟩
      cases e2 : evSs K b q3 with
      | bad => rw [e2] at z; exact z.elim
      | nx q4 =>
        rw [e2] at z
        intro σ' H' l' b' f'
        exact ⟨q4, f', l03.trans l', b03.trans b', z⟩
      | cnt q4 =>
        rw [e2] at z
        intro σ' H' l' b' f'
        exact ⟨q4, f', l03.trans l', b03.trans b', z⟩
      | brk q4 =>
        rw [e2] at z
        intro σ' H' l' b' f'
        exact z σ' H' (la.trans (l03.trans l')) (bk.s.trans (b03.trans b')) f'
      | ret r q4 =>
        rw [e2] at z
        intro w σ' H' l' b' p'
        exact z w σ' H' (la.trans (l03.trans l')) (bk.s.trans (b03.trans b')) (p'.early' fun b hb => (la.trans l03).new hb)
      | exc c es q4 =>
        rw [e2] at z
        intro d σ' H' l' b' f' x
        exact z d σ' H' (la.trans (l03.trans l')) (bk.s.trans (b03.trans b')) f' x
  · rintro σi Hi ⟨qi, fi, li, bi, z⟩
    rw [List.drop_length, loopF] at z
    exact z σi Hi (la.trans li) (bk.s.trans bi) fi
end
section
variable {W : Wo} {X : Cx} {ex : XK} {n : Nat} {pos p1 p2 p3 p4 : Pos} {a b c e tg iter : Expr} {A B : E} {x : Str} {sa sb : List Stmt} {ta tb : Ss} {st : Stmt} {s : S}
theorem mss_nil : MSs W X ex [] .nil := pss_nil.imp fun _ _ _ h => tSs_nil h
theorem mss_cons (h1 : MS W X ex st s) (h2 : MSs W X ex sb tb) : MSs W X ex (st :: sb) (.cons s tb) := (pss_cons h1 h2).imp fun _ _ _ h => tSs_cons h
theorem ms_expr (h : ME W X ex a A) (hs : swapsWith a none pos.line X.env = pure false := by rfl) : MS W X ex (.Expr a pos) (.expr A) := (ps_expr (h false) hs).imp fun _ _ _ h => tS_expr h
theorem ms_ret (h : ME W X ex a A) : MS W X ex (.Return (some a) pos) (.ret A) := (ps_ret (h false)).imp fun _ _ _ h => tS_ret h
theorem mss_kil {is : List Nat} (h : MSs W X ex sb tb) : MSs W X ex sb (.cons (.kil is) tb) := h.imp fun _ _ _ h => tSs_kil h
theorem mss_shr {is : List Nat} (h : MSs W X ex sb tb) : MSs W X ex sb (.cons (.shr is) tb) := h.imp fun _ _ _ h => tSs_shr h
theorem ms_retS (h : ME W X ex a A) : MS W X ex (.Return (some a) pos) (.retS A) := (ps_ret (h false)).imp fun _ _ _ h => tS_retS h
theorem ms_nev : MS W X ex st .nev := ps_never.imp fun _ _ _ h => tS_nev h
theorem ms_ift {t : T} (hc : MT W X ex c t) (ha : MSs W X ex sa ta) (hb : MSs W X ex sb tb) : MS W X ex (.If c sa sb pos) (.ift t ta tb) := (ps_if hc ha hb).imp fun _ _ _ h => tS_ift h
theorem ms_asg {l : LV} (he : ME W X ex e A) (hg : ML W X tg l) (hs : swapsWithSole [tg] e pos.line X.env = pure false := by rfl) (hw : swappedStores [tg] e X.env = pure none := by rfl) (h1 : (assignEach [tg] X.env).map (·.2) = [assign tg X.env] := by rfl) :
    MS W X ex (.Assign [tg] e pos) (.asg l A) := (ps_asg (he false) hg hs hw h1).imp fun _ _ _ h => tS_asg h
theorem ms_asgS {l : LV} (he : ME W X ex e A) (hg : ML W X tg l) (hs : swapsWithSole [tg] e pos.line X.env = pure false := by rfl) (hw : swappedStores [tg] e X.env = pure none := by rfl) (h1 : (assignEach [tg] X.env).map (·.2) = [assign tg X.env] := by rfl) :
    MS W X ex (.Assign [tg] e pos) (.asgS l A) := (ps_asg (he false) hg hs hw h1).imp fun _ _ _ h => tS_asgS h
theorem ms_for [Calm W] {l : LV} {it : I} (g : Gd W n X ex) (hp : PassesOwn (model X.prog X.w) X.A X.env X.xe) (hi : MI W X ex tg iter it) (hg : ML W X tg l) (hb : MSs W X ex sb tb) (hs : ∀ x, foldedSetIterable iter X.env x = pure x := by intro _; rfl) : MS W X ex (.For tg iter sb [] pos) (.for l it tb) :=
  (ps_for hp g.calm hi hg hb hs).imp fun _ _ _ h => tS_for h
end
end M

set_option Elab.async false
set_option linter.all false
set_option maxRecDepth 100000
set_option maxHeartbeats 4000000
/-! G3: lists that grow and shrink, x op= e, while; texts, repr, in; calls with names, methods. -/
namespace M
open PySem L2 PyProof.Rows SlX
section
variable {Z : Zc} {K : Calls} {ex : XK} {σ : Sg} {H : Hp} {D : Ends}
/-- an owned list to which a method is applied -/
theorem own_recv {i : Nat} {e : E} {g : M.D → Fm → Res RV} {Q : VK} {T : V → List V → Hp → VK → Prop} (h : TR Z ex (fun q => if isOwn q[i]? then bindR (ev K e false q) fun r q1 => match r.vd with
      | some d => g d q1
      | none => .bad
      else .bad) (PoV Z) σ H Q)
    (k : ∀ (R0 : Pr) (q q1 : Fm) (d : M.D) (w : V) (H1 : Hp) (a : Addr), FR Z R0 σ q1 H1 → σ[i]? = some (some (.ref a)) → Rep Z H1 (Rt R0 σ q1) w d → An Z ex R0 σ q1 H1 (PoV Z R0 σ H1) Q (g d q1) → T (.ref a) [w] H1 Q) :
    tBM Z.K "list" T (tVar i) (tCons (tE Z K ex e false) tNil) σ H Q := by
  obtain ⟨R0, q, f0, h⟩ := h
  dsimp only at h
  cases hq : q[i]? with
  | none => rw [hq] at h; exact h.elim
  | some t =>
    cases t with
    | no => rw [hq] at h; exact h.elim
    | pin => rw [hq] at h; exact h.elim
    | sh _ _ => rw [hq] at h; exact h.elim
    | ow b d0 =>
      rw [if_pos (by rw [hq]; rfl)] at h
      obtain ⟨a, ha, _, ds, xs, _, hx, _⟩ := f0.ow i b d0 hq
      refine ⟨.ref a, ha, .inl ⟨rfl, xs, SqL.of hx⟩, R0, q, f0, h.bind fun q1 w H1 r _ l bk p z => ?_⟩
      cases e1 : r.vd with
      | none => rw [e1] at z; exact z.elim
      | some d =>
        rw [e1] at z
        obtain ⟨f1, rw1⟩ := p.vd f0 e1
        exact k R0 q q1 d w H1 a f1 ha rw1 (lateV' l bk z)
theorem tE_app {i : Nat} {e : E} {pk : Bool} {Q : VK} (h : tE Z K ex (.app i e) pk σ H Q) : tBM Z.K "list" rAppend (tVar i) (tCons (tE Z K ex e false) tNil) σ H Q := by
  refine own_recv (g := fun d q1 => appR i d q1) h fun R0 q q1 d w H1 a f ha rw1 z => ?_
  unfold appR at z
  cases hq : q1[i]? with
  | none => rw [hq] at z; exact z.elim
  | some t =>
    cases t with
    | no => rw [hq] at z; exact z.elim
    | pin => rw [hq] at z; exact z.elim
    | sh _ _ => rw [hq] at z; exact z.elim
    | ow b d0 =>
      obtain ⟨a', ha', _, ds, xs, rfl, hx, hr⟩ := f.ow i b d0 hq
      rw [ha] at ha'; cases ha'
      rw [hq] at z
      dsimp only at z
      by_cases hl : ds.length < sizeLine
      · rw [if_pos hl] at z
        obtain ⟨f3, l3, b3⟩ := f.put hq ha (hr.append (.cons rw1 .nil))
        exact ⟨a, xs, w, rfl, rfl, hx, by rw [hr.length]; exact hl, z .non _ l3 b3 ⟨f3, .non⟩⟩
      · rw [if_neg hl] at z; exact z.elim
/-- l.extend(x), x a list or a tuple that stands anywhere -/
def rExtA (K : PySem.W.Frag) : V → List V → Hp → VK → Prop := fun x vs H Q => ∃ l b xs zs, x = .ref l ∧ vs = [.ref b] ∧ H l = some (.lst xs) ∧ (SqL K H b zs ∨ SqT K H b zs) ∧ xs.length + zs.length ≤ sizeLine ∧ Q .non (upd H l (.lst (xs ++ zs)))
theorem list_extendL (l : Addr) (its : Array Value) (n : Nat) (b : Addr) (its2 : Array Value) (n2 : Nat) (dd : Option Addr) (sl : Array (Option Value)) (h0 : ¬(!its.isEmpty && Builtin.List.listTooLong (its.size + its2.size)) = true) (h1 : its.size ≤ sizeLine) (h2 : its.size + its2.size ≤ sizeLine + 1) :
    Meets (Builtin.«list.extend» ⟨[.ref l, .ref b], []⟩) (fun _ R s => s.heap.get? l = some { cls := .type "list", dict := none, data := .seq its n, slots := #[] } ∧ s.heap.get? b = some { cls := .type "list", dict := dd, data := .seq its2 n2, slots := sl } ∧ R (.ok (.ret Value.none)) { s with heap := s.heap.update l (Obj.mapSeq fun x => x ++ its2), toks := s.toks }) :=
  .of_wp fun prog w A R s h => by
    obtain ⟨hp, g, d, tk, os⟩ := s
    obtain ⟨hl, hb, h⟩ := h
    have f1 := AutoSeq1.idx_int
    have f2 := AutoSeq1.sub_tuple_tuple
    have f3 := AutoSeq1.sub_list_list
    have f4 := AutoSeq1.sub_tuple_list
    have f5 := AutoSeq1.sub_list_tuple
    have hz : (its ++ its2).size ≤ sizeLine + 1 := by rw [Array.size_append]; exact h2
    wp_walk using (wpAny_updateSeq hl rfl (hz := h1) (_hz' := hz)), wpAny_loadPart' hl, wpAny_loadPart' hb
    exact ⟨_, rfl, h⟩
theorem list_extendT (l : Addr) (its : Array Value) (n : Nat) (b : Addr) (its2 : Array Value) (n2 : Nat) (dd : Option Addr) (sl : Array (Option Value)) (h0 : ¬(!its.isEmpty && Builtin.List.listTooLong (its.size + its2.size)) = true) (h1 : its.size ≤ sizeLine) (h2 : its.size + its2.size ≤ sizeLine + 1) :
    Meets (Builtin.«list.extend» ⟨[.ref l, .ref b], []⟩) (fun _ R s => s.heap.get? l = some { cls := .type "list", dict := none, data := .seq its n, slots := #[] } ∧ s.heap.get? b = some { cls := .type "tuple", dict := dd, data := .seq its2 n2, slots := sl } ∧ R (.ok (.ret Value.none)) { s with heap := s.heap.update l (Obj.mapSeq fun x => x ++ its2), toks := s.toks }) :=
  .of_wp fun prog w A R s h => by
    obtain ⟨hp, g, d, tk, os⟩ := s
    obtain ⟨hl, hb, h⟩ := h
    have f1 := AutoSeq1.idx_int
    have f2 := AutoSeq1.sub_tuple_tuple
    have f3 := AutoSeq1.sub_list_list
    have f4 := AutoSeq1.sub_tuple_list
    have f5 := AutoSeq1.sub_list_tuple
    have hz : (its ++ its2).size ≤ sizeLine + 1 := by rw [Array.size_append]; exact h2
    wp_walk using (wpAny_updateSeq hl rfl (hz := h1) (_hz' := hz)), wpAny_loadPart' hl, wpAny_loadPart' hb
    exact ⟨_, rfl, h⟩
theorem mt_extA {X : Cx} : MtM X "list.extend" (rExtA X.K) := by
  intro pins s σ H x vs v us Q I rx rv h
  obtain ⟨l, b, xs, zs, rfl, rfl, hH, hB, hz, q⟩ := h
  cases rx
  obtain ⟨u, rfl, ru⟩ := rv.one
  cases ru
  obtain ⟨_, its, n, r, hl, e⟩ := I.lstM hH
  have hw : ∀ its2 : List Value, zs.length = its2.length → ¬ (!its.toArray.isEmpty && Builtin.List.listTooLong (its.toArray.size + its2.toArray.size)) = true ∧ its.toArray.size ≤ sizeLine ∧ its.toArray.size + its2.toArray.size ≤ sizeLine + 1 := fun its2 h2 => by
    have hs : its.toArray.size + its2.toArray.size ≤ sizeLine := by rw [List.size_toArray, List.size_toArray]; omega
    refine ⟨by rw [notLongL hs, Bool.and_false]; exact Bool.false_ne_true, by rw [List.size_toArray]; omega, by omega⟩
  rcases hB with hB | hB
  · obtain ⟨its2, r2, ⟨⟨cls, dd, data, sl⟩, n2, ho, hc, hd, he⟩, z2⟩ := I.list hB
    simp only at hc hd he
    subst hc hd he
    obtain ⟨w1, w2, w3⟩ := hw its2 r2.length
    refine call_meets PySem.F.slot_list_extend ⟨_, e, rfl⟩ PySem.F.entry_list_extend (PySem.F.args_list_extend_2 _ _) (list_extendL l its.toArray n b its2.toArray n2 none sl w1 w2 w3) ⟨e, ho, ?_⟩
    exact ⟨.non, _, I.lset (its' := its ++ its2) hH e (by simp) (r.append r2) (by rw [List.length_append]; omega), rfl, q⟩
  · obtain ⟨its2, r2, ⟨⟨cls, dd, data, sl⟩, ho, hc, n2, he⟩, z2⟩ := I.tuple hB
    simp only at hc he
    subst hc he
    obtain ⟨w1, w2, w3⟩ := hw its2 r2.length
    refine call_meets PySem.F.slot_list_extend ⟨_, e, rfl⟩ PySem.F.entry_list_extend (PySem.F.args_list_extend_2 _ _) (list_extendT l its.toArray n b its2.toArray n2 dd sl w1 w2 w3) ⟨e, ho, ?_⟩
    exact ⟨.non, _, I.lset (its' := its ++ its2) hH e (by simp) (r.append r2) (by rw [List.length_append]; omega), rfl, q⟩
theorem tE_ext {i : Nat} {e : E} {pk : Bool} {Q : VK} (h : tE Z K ex (.ext i e) pk σ H Q) : tBM Z.K "list" (rExtA Z.K) (tVar i) (tCons (tE Z K ex e false) tNil) σ H Q := by
  refine own_recv (g := fun d q1 => extR i d q1) h fun R0 q q1 d w H1 a f ha rw1 z => ?_
  unfold extR at z
  cases hq : q1[i]? with
  | none => rw [hq] at z; cases d <;> exact z.elim
  | some t =>
    cases t with
    | no => rw [hq] at z; cases d <;> exact z.elim
    | pin => rw [hq] at z; cases d <;> exact z.elim
    | sh _ _ => rw [hq] at z; cases d <;> exact z.elim
    | ow b d0 =>
      obtain ⟨a', ha', _, ds, xs, rfl, hx, hr⟩ := f.ow i b d0 hq
      rw [ha] at ha'; cases ha'
      rw [hq] at z
      cases d with
      | lst ys =>
        dsimp only at z
        by_cases hl : ds.length + ys.length ≤ sizeLine
        · rw [if_pos hl] at z
          cases rw1 with
          | lst hb hr2 =>
            obtain ⟨f3, l3, b3⟩ := f.put hq ha (hr.append hr2)
            exact ⟨a, _, xs, _, rfl, rfl, hx, .inl hb.sq, by rw [hr.length, hr2.length]; exact hl, z .non _ l3 b3 ⟨f3, .non⟩⟩
        · rw [if_neg hl] at z; exact z.elim
      | tup ys =>
        dsimp only at z
        by_cases hl : ds.length + ys.length ≤ sizeLine
        · rw [if_pos hl] at z
          cases rw1 with
          | tup hb hr2 =>
            obtain ⟨f3, l3, b3⟩ := f.put hq ha (hr.append hr2)
            exact ⟨a, _, xs, _, rfl, rfl, hx, .inr hb.sq, by rw [hr.length, hr2.length]; exact hl, z .non _ l3 b3 ⟨f3, .non⟩⟩
        · rw [if_neg hl] at z; exact z.elim
      | _ => exact z.elim
end
section
variable {W : Wo} {X : Cx} {ex : XK} {n : Nat} {pos p1 p2 p3 p4 apos : Pos} {a b c : Expr} {A B C : E} {x : Str}
theorem me_grow {name : Str} {id : String} {T : V → List V → Hp → VK → Prop} {t : E} (i : Nat) (hN : X.N[i]? = some x) (hv : Vis X.env.scope x) (hd : (x == ("__debug__" : Str)) = false) (hcd : (x == ("__classdict__" : Str)) = false) (slot : PySem.Slot "list" name id) (ty : typeOf (.builtin id) = pure (.type "method_descriptor")) (hm : MtR X id T)
    (ht : ∀ pk s H Q, tE W.Z W.K ex t pk s H Q → tBM X.K "list" T (tVar i) (tCons (tE W.Z W.K ex A false) tNil) s H Q) (ha : ME W X ex a A) (hbase : attributeBase (.Name x p1) name X.env (eval (.Name x p1) X.env) = eval (.Name x p1) X.env) (hline : (apos.endLine == pos.line) = true)
    (hs : starEach [a] X.env = (false, eval a X.env) :: starEach [] X.env) (hfew : ((backTo pos (starEach [a] X.env)).all (fun x => !x.1) && (backToKw pos (keywordEach [] X.env)).all (fun x => x.1.isSome) && decide (([a] : List Expr).length + ([] : List Keyword).length + (if ([] : List Keyword).isEmpty then 0 else 1) < 30)) = true) : ME W X ex (.Call (.Attribute (.Name x p1) name apos) [a] [] pos) t := fun pk =>
  (pe_bm PySem.F.plainAttrs_list slot ty hm (pe_var hN hv hd hcd) (pa_cons (ha false) pa_nil hs) (hbase := hbase) (hline := hline) (hs := hs) (hfew := hfew)).imp fun s H Q h => ht pk s H Q h
theorem me_app (g : Gd W n X ex) (i : Nat) (ha : ME W X ex a A) (hN : X.N[i]? = some x := by rfl) (hv : Vis X.env.scope x := by first | exact Or.inl rfl | exact Or.inr (Or.inl rfl) | exact Or.inr (Or.inr rfl)) (hd : (x == ("__debug__" : Str)) = false := by decide) (hcd : (x == ("__classdict__" : Str)) = false := by decide)
    (hbase : attributeBase (.Name x p1) "append" X.env (eval (.Name x p1) X.env) = eval (.Name x p1) X.env := by rfl) (hline : (apos.endLine == pos.line) = true := by rfl) (hs : starEach [a] X.env = (false, eval a X.env) :: starEach [] X.env := by rfl)
    (hfew : ((backTo pos (starEach [a] X.env)).all (fun x => !x.1) && (backToKw pos (keywordEach [] X.env)).all (fun x => x.1.isSome) && decide (([a] : List Expr).length + ([] : List Keyword).length + (if ([] : List Keyword).isEmpty then 0 else 1) < 30)) = true := by rfl) : ME W X ex (.Call (.Attribute (.Name x p1) "append" apos) [a] [] pos) (.app i A) :=
  me_grow i hN hv hd hcd PySem.F.slot_list_append PySem.F.type_list_append mt_append (fun pk s H Q h => by rw [g.hK]; exact tE_app h) ha hbase hline hs hfew
theorem me_ext (g : Gd W n X ex) (i : Nat) (ha : ME W X ex a A) (hN : X.N[i]? = some x := by rfl) (hv : Vis X.env.scope x := by first | exact Or.inl rfl | exact Or.inr (Or.inl rfl) | exact Or.inr (Or.inr rfl)) (hd : (x == ("__debug__" : Str)) = false := by decide) (hcd : (x == ("__classdict__" : Str)) = false := by decide)
    (hbase : attributeBase (.Name x p1) "extend" X.env (eval (.Name x p1) X.env) = eval (.Name x p1) X.env := by rfl) (hline : (apos.endLine == pos.line) = true := by rfl) (hs : starEach [a] X.env = (false, eval a X.env) :: starEach [] X.env := by rfl)
    (hfew : ((backTo pos (starEach [a] X.env)).all (fun x => !x.1) && (backToKw pos (keywordEach [] X.env)).all (fun x => x.1.isSome) && decide (([a] : List Expr).length + ([] : List Keyword).length + (if ([] : List Keyword).isEmpty then 0 else 1) < 30)) = true := by rfl) : ME W X ex (.Call (.Attribute (.Name x p1) "extend" apos) [a] [] pos) (.ext i A) :=
  me_grow i hN hv hd hcd PySem.F.slot_list_extend PySem.F.type_list_extend mt_extA (fun pk s H Q h => by rw [g.hK]; exact tE_ext h) ha hbase hline hs hfew
end
/-! ### x op= e, while -/
section
variable {Z : Zc} {K : Calls} {ex : XK} {σ : Sg} {H : Hp} {D : Ends}
end
section
variable {W : Wo} {X : Cx} {ex : XK} {n : Nat} {pos p1 p2 p3 p4 apos : Pos} {a b c e : Expr} {A B C : E} {x : Str} {sb : List Stmt} {tb : Ss}
end
/-! ### x, y = a, b by way of a tuple (names that inner scopes read) -/
section
variable {Z : Zc} {K : Calls} {ex : XK} {R0 : Pr} {σ : Sg} {q : Fm} {H : Hp} {D : Ends}
def later (D : Ends) : Ends := { D with nx := fun σ2 H2 => ∀ H3, Same H2 H3 → D.nx σ2 H3 }
theorem AnS.later : ∀ {r : SRes}, AnS Z ex R0 σ q H D r → AnS Z ex R0 σ q H (later D) r
  | .nx q', h => fun σ2 H2 l b f H3 sm => h σ2 H3 (l.trans (Lat.same sm)) b (f.on sm (fun _ z => .inl z) fun b hb => (Lat.same (R := Ow σ q) sm).tr b (f.trk b hb))
  | .brk _, h => h
  | .cnt _, h => h
  | .ret _ _, h => h
  | .exc _ _ _, h => h
  | .bad, h => h
theorem tS_later {s : S} (h : tS Z K ex s D σ H) : tS Z K ex s (later D) σ H := by
  obtain ⟨R0, q, f, h⟩ := h
  exact ⟨R0, q, f, h.later⟩
theorem two_fit : 2 ≤ sizeLine := by decide
end
section
variable {W : Wo} {X : Cx} {ex : XK} {n : Nat} {pos p1 p2 p3 p4 p5 : Pos} {a b c : Expr} {A B C : E} {x y z : Str}
theorem ms_tpar2 [Calm W] {i j kt k2 : Nat} (g : Gd W n X ex) (ha : ME W X ex a A) (hb : ME W X ex b B) (hi : X.N[i]? = some x := by rfl) (hj : X.N[j]? = some y := by rfl) (hij : i ≠ j := by decide) (hx : Loc X.env.scope x := by first | exact Or.inl rfl | exact Or.inr rfl) (hy : Loc X.env.scope y := by first | exact Or.inl rfl | exact Or.inr rfl)
    (hfx : X.fn x = true ∨ X.env.scope.names.lookup x = some .local := by first | exact .inl rfl | exact .inr rfl) (hfy : X.fn y = true ∨ X.env.scope.names.lookup y = some .local := by first | exact .inl rfl | exact .inr rfl)
    (hs : starEach [a, b] X.env = (false, eval a X.env) :: starEach [b] X.env := by rfl) (hs2 : starEach [b] X.env = (false, eval b X.env) :: starEach [] X.env := by rfl)
    (hw : swappedStores [.Tuple [.Name x p1, .Name y p2] kt p3] (.Tuple [a, b] k2 p4) X.env = pure none := by rfl) (hsw : swapsWithSole [.Tuple [.Name x p1, .Name y p2] kt p3] (.Tuple [a, b] k2 p4) pos.line X.env = pure false := by rfl)
    (h1 : (assignEach [.Tuple [.Name x p1, .Name y p2] kt p3] X.env).map (·.2) = [assign (.Tuple [.Name x p1, .Name y p2] kt p3) X.env] := by rfl) (h2 : (assignEach [.Name x p1, .Name y p2] X.env).map (·.2) = assign (.Name x p1) X.env :: (assignEach [.Name y p2] X.env).map (·.2) := by rfl)
    (h3 : (assignEach [.Name y p2] X.env).map (·.2) = assign (.Name y p2) X.env :: (assignEach [] X.env).map (·.2) := by rfl) (hn : (assignEach [.Name x p1, .Name y p2] X.env).length = 2 := by rfl) (hst : (assignEach [.Name x p1, .Name y p2] X.env).findIdx? (·.1) = none := by rfl) :
    MS W X ex (.Assign [.Tuple [.Name x p1, .Name y p2] kt p3] (.Tuple [a, b] k2 p4) pos) (.par2 i j A B) :=
  (ps_asg (pe_tup (pa_cons (ha false) (pa_cons (hb false) pa_nil hs2) hs)) (pg_tup g.calm (pgs_cons (pg_name g.nd hi hx hfx) (pgs_cons (pg_name g.nd hj hy hfy) pgs_nil h3) h2) hn hst) hsw hw h1).imp fun D s H h => by
    refine TR.mono (tS_par2 hij (tS_later h)) fun v H1 k => TR.mono k fun w H2 k => ?_
    obtain ⟨v', w', e, q⟩ := k
    cases e
    refine ⟨two_fit, fun p hp => ⟨p, _, rfl, .inl (.inl upd_same), rfl, _, _, rfl, _, _, rfl, rfl, ?_⟩⟩
    exact q _ (same_upd hp)
end
end M

set_option Elab.async false
set_option linter.all false
set_option maxRecDepth 100000
set_option maxHeartbeats 4000000
/-! G4: repr, f-strings, in, [::-1], calls with names, methods. -/
namespace M
open PySem L2 PyProof.Rows SlX
/-! ### repr -/
mutual
theorem Dq.reads {X : Cx} {pins : List (Addr × Obj)} {σ : Sg} {H : Hp} {s : Shared} (I : Inv X pins σ H s) (sy : ∃ o, H sysModules = some (.frz o (.own 0))) (ks : X.K.lookup sysModules = none) :
    ∀ (d : PyData) (v : V) (u : Value), Dq X.K H v d → RelV v u → ∃ as, Reads s.heap u d as ∧ sysModules ∉ as
  | .none, _, _, h, r => by
    cases h
    cases r
    exact ⟨_, Reads.none, by simp⟩
  | .bool b, _, _, h, r => by
    cases h
    cases r
    exact ⟨_, Reads.bool b, by simp⟩
  | .int i, _, _, h, r => by
    cases h
    obtain ⟨t, rfl⟩ := r
    exact ⟨_, Reads.int i t, by simp⟩
  | .str x, _, _, h, r => by
    cases h
    obtain ⟨t, rfl⟩ := r
    exact ⟨_, Reads.str x t, by simp⟩
  | .list ds, _, _, h, r => by
    cases h with
    | @lst a _ _ hs ha =>
      cases r
      have hne : a ≠ sysModules := fun z => by
        subst z
        obtain ⟨o, e⟩ := sy
        rcases hs with (h1 | ⟨o2, h1⟩) | ⟨o2, its, n, h1, _⟩
        · rw [e] at h1; cases h1
        · rw [e] at h1; cases h1
        · rw [ks] at h1; cases h1
      obtain ⟨its, rv, ⟨o, n, ho, hc, _, hd⟩, _⟩ := I.list hs
      obtain ⟨as, hr, hn⟩ := Dq.readsAll I sy ks ds _ its ha rv
      exact ⟨_, Reads.list ho hc hd hr, fun z => by
        rcases List.mem_cons.mp z with z | z
        · exact hne z.symm
        · exact hn z⟩
  | .tuple ds, _, _, h, r => by
    cases h with
    | tup hs ha =>
      cases r
      obtain ⟨its, rv, ⟨o, ho, hc, n, hd⟩, _⟩ := I.tuple hs
      obtain ⟨as, hr, hn⟩ := Dq.readsAll I sy ks ds _ its ha rv
      exact ⟨_, Reads.tuple ho hc hd hr, hn⟩
  | .dict kvs0, _, u0, h, r => by
    cases h with
    | @dct a kvs ea =>
      cases r
      have ok : ObjOk X.prog X.w H s.heap a (.dK (kvs.map fun p => ((Sum.inr p.1 : Key), V.int p.2))) := I.hok a _ ea
      obtain ⟨_, hsm, vs, kv, o, es, ep, ho, hx, hd, _, ps, _⟩ := ok
      have key : ∀ (kvs : List (Str × Int)) (vs : List (Key × Value)) (es : List DictEntry), KV (kvs.map fun p => ((Sum.inr p.1 : Key), V.int p.2)) vs → Pairs (mixKind X.prog X.w) es vs →
          ReadsAll s.heap (es.map (·.key)) (kvs.map fun p => PyData.str p.1) [] ∧ ReadsAll s.heap (es.map (·.val)) (kvs.map fun p => PyData.int p.2) [] := by
        intro kvs
        induction kvs with
        | nil =>
          intro vs es h1 h2
          cases h1
          cases h2
          exact ⟨.nil, .nil⟩
        | cons p kvs ih =>
          intro vs es h1 h2
          cases h1 with
          | @cons _ kw _ _ hp h1 =>
            cases h2 with
            | cons hk hv h2 =>
              obtain ⟨i1, i2⟩ := ih _ _ h1 h2
              obtain ⟨e1, e2⟩ := hp
              have e1 : (Sum.inr p.1 : Key) = kw.1 := e1
              have e2 : L2.RelV (V.int p.2) kw.2 := e2
              obtain ⟨t2, e2⟩ := e2
              rw [← e1] at hk
              obtain ⟨t1, e3⟩ := Value.isStrOf_shape (show Value.isStrOf p.1 _ = true from hk)
              refine ⟨?_, ?_⟩
              · rw [List.map_cons, List.map_cons, e3]
                exact ReadsAll.cons (as := []) (Reads.str _ _) i1
              · rw [List.map_cons, List.map_cons, hv, e2]
                exact ReadsAll.cons (as := []) (Reads.int _ _) i2
      obtain ⟨i1, i2⟩ := key kvs vs es.toList kv ps
      refine ⟨a :: [] ++ [], Reads.dict ho hx.1 hd ?_ ?_, fun z => ?_⟩
      · rw [List.map_map]; exact i1
      · rw [List.map_map]; exact i2
      · have e : sysModules = a := by simpa using z
        rw [e] at hsm
        simp at hsm
theorem Dq.readsAll {X : Cx} {pins : List (Addr × Obj)} {σ : Sg} {H : Hp} {s : Shared} (I : Inv X pins σ H s) (sy : ∃ o, H sysModules = some (.frz o (.own 0))) (ks : X.K.lookup sysModules = none) :
    ∀ (ds : List PyData) (vs : List V) (us : List Value), DqAll X.K H vs ds → Vals vs us → ∃ as, ReadsAll s.heap us ds as ∧ sysModules ∉ as
  | [], _, _, h, r => by
    cases h
    cases r
    exact ⟨_, ReadsAll.nil, by simp⟩
  | d :: ds, _, _, h, r => by
    cases h with
    | cons h1 h2 =>
      cases r with
      | cons r1 r2 =>
        obtain ⟨as, q1, n1⟩ := Dq.reads I sy ks d _ _ h1 r1
        obtain ⟨bs, q2, n2⟩ := Dq.readsAll I sy ks ds _ _ h2 r2
        exact ⟨_, ReadsAll.cons q1 q2, fun z => (List.mem_append.mp z).elim n1 n2⟩
end
def rRepr (K : PySem.W.Frag) : List V → Hp → VK → Prop := fun xs H Q => ∃ x p, xs = [x] ∧ Dq K H x p ∧ (∃ o, H sysModules = some (.frz o (.own 0))) ∧ K.lookup sysModules = none ∧ p.showable = true ∧ p.depth ≤ 64 ∧ p.shown.length ≤ sizeLine ∧ Q (.str p.shown) H
theorem call_reprD {X : Cx} (qu : Qu X.A) (hu : X.A.units + 65 < cLine) : CallR X (.builtin "repr") (rRepr X.K) := by
  intro pins s σ H xs us Q I r h
  obtain ⟨x, p, rfl, hd, sy, ks, hs, hdp, hl, q⟩ := h
  obtain ⟨u, rfl, ru⟩ := r.one
  obtain ⟨as, rd, nsm⟩ := Dq.reads I sy ks p x u hd ru
  have big : ∀ {a : Addr}, u = .ref a → wpAny (model X.prog X.w) X.A (call (.builtin "repr") [u]) (EP X pins σ Q) X.xe s := fun {a} e => by
    subst e
    exact repr_of_reads' rd hs (fun _ => nsm) qu (by omega) (fun _ _ e => e) (fun h' t tk k => ⟨.str p.shown, H, I.kept (t' := tk) k, ⟨_, rfl⟩, q⟩) hl
  cases hd with
  | non =>
    cases ru
    rw [show PyData.none.shown = "None" from by simp only [PyData.shown]] at q
    exact PySem.P.repr_of_none ⟨.str _, H, I.tok _, ⟨_, rfl⟩, q⟩
  | bl b =>
    cases ru
    rw [show (PyData.bool b).shown = if b then Str.ofString "True" else Str.ofString "False" from by simp only [PyData.shown]] at q
    exact PySem.P.repr_of_bool ⟨.str _, H, I.tok _, ⟨_, rfl⟩, q⟩
  | int i =>
    obtain ⟨t, rfl⟩ := ru
    rw [show (PyData.int i).shown = toString i from by simp only [PyData.shown]] at q
    exact PySem.P.repr_of_int (by simpa [PyData.showable] using hs) ⟨.str _, H, I.tok _, ⟨_, rfl⟩, q⟩
  | str z =>
    obtain ⟨t, rfl⟩ := ru
    rw [show (PyData.str z).shown = reprText z from by simp only [PyData.shown]] at q hl
    exact PySem.P.repr_of_str ⟨.str _, H, I.tok _, ⟨_, rfl⟩, q⟩ hl
  | lst a b => exact big ru
  | tup a b => exact big ru
  | dct a => exact big ru
theorem pr_repr {Z : Zc} {x : V} {H : Hp} {Q : VK} (h : PrimPost Z .repr [x] H Q) : rRepr Z.K [x] H Q := by
  obtain ⟨R, ds, ht, hr, nw, d, e, k⟩ := h
  obtain ⟨d0, rfl, rp⟩ := repPs1 hr
  have e : reprD d0 = some (nw, d) := e
  unfold reprD at e
  cases hp : d0.py with
  | none => rw [hp] at e; cases e
  | some p =>
    rw [hp] at e
    dsimp only at e
    by_cases hc : p.showable = true ∧ p.depth ≤ 64 ∧ p.shown.length ≤ sizeLine
    · rw [if_pos hc] at e
      cases e
      exact ⟨x, p, rfl, rp.dp hp, ht.1.sy, ht.1.ks, hc.1, hc.2.1, hc.2.2, k _ H (Same.refl H) (.str _)⟩
    · rw [if_neg hc] at e; cases e
/-! ### in -/
def rInX (K : PySem.W.Frag) (neg : Bool) : R2 := fun x y H Q => (∃ i j, x = .str i ∧ y = .str j ∧ Q (.bl (neg ^^ !(Builtin.Str.occurrences j i 0 j.length 1).isEmpty)) H) ∨
  ∃ d ds, Dp K H x d ∧ (Dp K H y (.list ds) ∨ Dp K H y (.tuple ds)) ∧ SeqAt.shaped d = true ∧ SeqAt.shaped (.list ds) = true ∧ Q (.bl (neg ^^ ds.any fun z => PyData.eqv z d)) H
theorem op_inX {X : Cx} (hu : X.A.units + 65 < cLine) : OpR X (compareOp .In) (rInX X.K false) := by
  intro pins s σ H x y v u Q I rx ry h
  rcases h with ⟨i, j, rfl, rfl, q⟩ | ⟨d, ds, hd, he, sd, se, q⟩
  · exact op_in_str pins s σ H _ _ v u Q I rx ry ⟨i, j, rfl, rfl, by simpa using q⟩
  · obtain ⟨as, r1⟩ := Dp.reads I d x v hd rx
    have q' : Q (.bl (ds.any fun z => PyData.eqv z d)) H := by simpa using q
    rcases he with he | he
    · obtain ⟨bs, r2⟩ := Dp.reads I (.list ds) y u he ry
      exact SeqAt.in_list_reads r2 r1 (SeqAt.canLay_of_shaped se) (SeqAt.canLay_of_shaped sd) (room_in_shaped sd hu) ⟨.bl _, H, I, rfl, q'⟩
    · obtain ⟨bs, r2⟩ := Dp.reads I (.tuple ds) y u he ry
      exact SeqAt.in_tuple_reads r2 r1 (SeqAt.canLay_of_shaped se) (SeqAt.canLay_of_shaped sd) (room_in_shaped sd hu) ⟨.bl _, H, I, rfl, q'⟩
theorem shapedD_inv {d : D} {p : PyData} (h : shapedD d = some p) : d.py = some p ∧ SeqAt.shaped p = true := by
  unfold shapedD at h
  cases hp : d.py with
  | none => rw [hp] at h; cases h
  | some p' =>
    rw [hp] at h
    dsimp only at h
    by_cases hs : SeqAt.shaped p' = true
    · rw [if_pos hs] at h; cases h; exact ⟨rfl, hs⟩
    · rw [if_neg hs] at h; cases h
theorem shapedL_inv {ds : List D} {ps : List PyData} (h : shapedL ds = some ps) : D.pys ds = some ps ∧ SeqAt.shaped (.list ps) = true := by
  unfold shapedL at h
  cases hp : D.pys ds with
  | none => rw [hp] at h; cases h
  | some p' =>
    rw [hp] at h
    dsimp only at h
    by_cases hs : SeqAt.shaped (.list p') = true
    · rw [if_pos hs] at h; cases h; exact ⟨rfl, hs⟩
    · rw [if_neg hs] at h; cases h
theorem inD_inv {Z : Zc} {H : Hp} {R : Pr} {x y : V} {a b : D} {c : Bool} (h : inD a b = some c) (ra : RepP Z H R x a) (rb : RepP Z H R y b) : (∃ i j, x = .str i ∧ y = .str j ∧ c = !(Builtin.Str.occurrences j i 0 j.length 1).isEmpty) ∨
    ∃ d ds, Dp Z.K H x d ∧ (Dp Z.K H y (.list ds) ∨ Dp Z.K H y (.tuple ds)) ∧ SeqAt.shaped d = true ∧ SeqAt.shaped (.list ds) = true ∧ c = ds.any fun z => PyData.eqv z d := by
  have seq : ∀ {ds : List D} {b : D}, (match shapedD a, shapedL ds with | some p, some ps => some (ps.any fun z => PyData.eqv z p) | _, _ => none) = some c → (b = .lst ds ∨ b = .tup ds) → RepP Z H R y b →
      ∃ d ds, Dp Z.K H x d ∧ (Dp Z.K H y (.list ds) ∨ Dp Z.K H y (.tuple ds)) ∧ SeqAt.shaped d = true ∧ SeqAt.shaped (.list ds) = true ∧ c = ds.any fun z => PyData.eqv z d := fun {ds b} h hb rb => by
    cases h1 : shapedD a with
    | none => rw [h1] at h; cases h
    | some p =>
      cases h2 : shapedL ds with
      | none => rw [h1, h2] at h; cases h
      | some ps =>
        rw [h1, h2] at h
        cases h
        obtain ⟨e1, s1⟩ := shapedD_inv h1
        obtain ⟨e2, s2⟩ := shapedL_inv h2
        refine ⟨p, ps, (ra.dp e1).shaped s1, ?_, s1, s2, rfl⟩
        rcases hb with rfl | rfl
        · exact .inl ((rb.dp (by unfold D.py; rw [e2])).shaped s2)
        · exact .inr ((rb.dp (by unfold D.py; rw [e2])).shaped s2)
  cases b with
  | lst ds =>
    unfold inD at h
    cases a <;> exact .inr (seq h (.inl rfl) rb)
  | tup ds =>
    unfold inD at h
    cases a <;> exact .inr (seq h (.inr rfl) rb)
  | str j =>
    cases a with
    | str i => cases h; exact .inl ⟨i, j, ra.str, rb.str, rfl⟩
    | _ => cases h
  | _ => cases a <;> cases h
theorem pr_isIn {Z : Zc} {x y : V} {H : Hp} {Q : VK} (h : PrimPost Z .isIn [x, y] H Q) : rInX Z.K false x y H Q := by
  obtain ⟨R, ds, ht, hr, nw, d, e, k⟩ := h
  obtain ⟨d1, d2, rfl, r1, r2⟩ := repPs2 hr
  obtain ⟨c, e1, e2⟩ := Option.map_eq_some_iff.mp (show (inD d1 d2).map _ = _ from e)
  cases e2
  have z := k _ H (Same.refl H) (.bl c)
  rcases inD_inv e1 r1 r2 with ⟨i, j, h1, h2, rfl⟩ | ⟨d, ds, h1, h2, h3, h4, rfl⟩
  · exact .inl ⟨i, j, h1, h2, by simpa using z⟩
  · exact .inr ⟨d, ds, h1, h2, h3, h4, by simpa using z⟩
/-! ### f-strings -/
theorem str_nil_app (a : Str) : Str.empty ++ a = a := by
  obtain ⟨a⟩ := a
  show Str.mk (#[] ++ a) = Str.mk a
  rw [Array.empty_append]
theorem str_app_nil (a : Str) : a ++ Str.empty = a := by
  obtain ⟨a⟩ := a
  show Str.mk (a ++ #[]) = Str.mk a
  rw [Array.append_empty]
section
variable {Z : Zc} {K : Calls} {ex : XK} {s : Sg} {H : Hp}
theorem tE_fst {pre post : Str} {e : E} {pk : Bool} {Q : VK} (h : tE Z K ex (.fst pre e post) pk s H Q) : tE Z K ex e true s H fun x H1 => ∃ i : Int, x = .int i ∧ i.natAbs.log2 < 1920 ∧ ((pre ++ toString i) ++ post).length ≤ sizeLine ∧ Q (.str ((pre ++ toString i) ++ post)) H1 := by
  unfold tE at h
  rw [show ev K (.fst pre e post) pk = fun q => bindR (ev K e true q) fun r q1 => match r with
    | .val (.int i) => if i.natAbs.log2 < 1920 ∧ ((pre ++ toString i) ++ post).length ≤ sizeLine then .ok (.val (.str ((pre ++ toString i) ++ post))) q1 else .bad
    | _ => .bad from rfl] at h
  refine TR.bind h fun R0 q q1 r w H1 f0 l b p z => ?_
  cases r with
  | new d => exact z.elim
  | slot d => exact z.elim
  | val d =>
    cases d with
    | int i =>
      dsimp only at z
      by_cases hc : i.natAbs.log2 < 1920 ∧ ((pre ++ toString i) ++ post).length ≤ sizeLine
      case neg => rw [if_neg hc] at z; exact z.elim
      rw [if_pos hc] at z
      obtain ⟨f1, rp⟩ := p
      exact ⟨i, by cases rp; rfl, hc.1, hc.2, z _ H1 l b ⟨f1, .str _⟩⟩
    | _ => exact z.elim
end
section
variable {W : Wo} {X : Cx} {ex : XK} {n m k j : Nat} {pos p1 p2 p3 p4 apos : Pos} {a b c e : Expr} {es : List Expr} {A B C : E} {x y : Str} {gs : Gs} {kws : List Keyword}
theorem size_of_1000 {k : Nat} (h : k ≤ 1000) : k ≤ sizeLine := Nat.le_trans h (by decide)
theorem me_fst2 {pre : Str} {j : Nat} (ha : ME W X ex a A) (hp : pre.length ≤ 1000 := by decide) : ME W X ex (.JoinedStr [.Constant (.str pre) j p1, .FormattedValue a (-1) none p2] pos) (.fst pre A Str.empty) := fun pk =>
  (pe_joined (.cons pe_str (.cons (pe_fmt (ha true)) .nil))).imp fun s H Q h => by
    refine ⟨pre, rfl, by rw [str_nil_app]; exact size_of_1000 hp, (tE_fst h).mono fun v H1 z => ?_⟩
    obtain ⟨i, rfl, h1, h2, q⟩ := z
    rw [str_app_nil] at h2 q
    exact .inr ⟨i, rfl, h1, _, rfl, by rw [str_nil_app]; exact h2, by rw [str_nil_app]; exact q⟩
/-! ### builtins, operators -/
theorem boot_repr' : bootBuiltins "repr" = some (.builtin "repr") := by decide +kernel
theorem me_repr (g : Gd W n X ex) (hm : W.mg "repr" = none) (ha : ME W X ex a A) (hg : Gl X "repr" := by rfl) (he : starEach [a] X.env = (false, eval a X.env) :: starEach [] X.env := by rfl) : ME W X ex (.Call (.Name "repr" p1) [a] [] pos) (.prm .repr (.cons A .nil)) :=
  me_b1 (call_reprD g.qu g.un) (fun x H Q h => by rw [g.hK]; exact pr_repr h) boot_repr' (by rw [g.hm]; exact hm) ha hg (he := he)
def cm_in (g : Gd W n X ex) : Cm W X .In .isIn where
  r := rInX X.K false
  ho := op_inX g.un
  hp := fun x y H Q h => by rw [g.hK]; exact pr_isIn h
  hb := fun x y H Q Q' h i => h.imp (fun ⟨a, b, h1, h2, q⟩ => ⟨a, b, h1, h2, i _ _ q⟩) fun ⟨d, ds, h1, h2, h3, h4, q⟩ => ⟨d, ds, h1, h2, h3, h4, i _ _ q⟩
theorem repL_rev {Z : Zc} {H : Hp} {R : Pr} : ∀ {ds : List D} {vs : List V}, RepL Z H R vs ds → RepL Z H R vs.reverse ds.reverse
  | [], _, h => by cases h; exact .nil
  | d :: ds, _, h => by
    cases h with
    | cons a b =>
      rw [List.reverse_cons, List.reverse_cons]
      exact (repL_rev b).append (.cons a .nil)
/-! ### calls with names -/
theorem tCons_lit {Z : Zc} {K : Calls} {ex : XK} {t2 : TA} {d : D} {w : V} {s : Sg} {H : Hp} {Q : List V → Hp → Prop} (hw : ∀ R, Rep Z H R w d) (h : tCons (tE Z K ex (.con d) false) t2 s H Q) : t2 s H fun ws H2 => Q (w :: ws) H2 := by
  obtain ⟨R, k⟩ := tE_lit (d := d) h (fun q => rfl)
  exact k w (hw R)
/-- the keywords' values -/
def MKs (W : Wo) (X : Cx) (ex : XK) (kws : List Keyword) (m : Nat) (gs : Gs) : Prop := ∃ tk, PK X kws tk ∧ ∀ s H Q Q', (∀ zs H2, zs.length = m → Q zs H2 → Q' zs H2) → tGs W.Z W.K ex gs s H Q → tk s H Q'
theorem mks_nil : MKs W X ex [] 0 .nil := ⟨tNil, pk_nil, fun s H Q Q' i h => i [] H rfl (tGs_nil h)⟩
theorem mks_cons {nm : Option Str} {kp : Pos} (ha : ME W X ex a A) (hr : MKs W X ex kws m gs) : MKs W X ex (⟨nm, a, kp⟩ :: kws) (m + 1) (.v A gs) := by
  obtain ⟨tk, h1, h2⟩ := hr
  exact ⟨_, pk_cons (ha false) h1, fun s H Q Q' i h => TR.mono (tGs_v h) fun x H1 z => h2 s H1 _ _ (fun zs H2 l q => i (x :: zs) H2 (by rw [List.length_cons, l]) q) z⟩
/-- a def called with names -/
structure Fk (W : Wo) (n : Nat) (x : Str) (f : Nat) (m : Nat) (ks : List Str) (pm : List Nat) : Prop where
  ex : ∃ a, FnK W.P W.w W.Z.K W.mg W.base (L2.CX W.P W.w) n a m ks pm (spF W.Z W.K f) ∧ W.mg x = some (.ref a) ∧ PySem.W.keepIn W.Z.K (.ref a) = true
theorem Gd.fk {m : Nat} {ks : List Str} {pm : List Nat} (g : Gd W n X ex) {f : Addr} {sp : Sp} (F : FnK W.P W.w W.Z.K W.mg W.base (L2.CX W.P W.w) k f m ks pm sp) : FnK X.prog X.w X.K X.mg X.base (L2.CX X.prog X.w) k f m ks pm sp := by
  rw [g.hP, g.hw, g.hK, g.hm, g.hb]; exact F
/-- a class whose constructor is called with names -/
structure Mk0 (W : Wo) (k : Nat) (x : Str) (c : Nat) (ks : List Str) (pm : List Nat) : Prop where
  ex : ∃ a, Mk W.Z.K (W.Z.C c) a ∧ FnK W.P W.w W.Z.K W.mg W.base (L2.CX W.P W.w) k a 1 ks (0 :: pm.map (· + 1)) (spC W.Z W.K c) ∧ W.mg x = some (.ref (W.Z.C c))
  lt : c < W.Z.nc
theorem pick_self {α : Type} (x : α) (l : List α) : ∀ pm : List Nat, pick (pm.map (· + 1)) (x :: l) = pick pm l
  | [] => rfl
  | i :: pm => by
    have ih := pick_self x l pm
    unfold pick at ih ⊢
    rw [List.map_cons, List.filterMap_cons, List.filterMap_cons, ih]
    rfl
theorem me_makeP0 [Calm W] {c : Nat} {ks : List Str} {pm : List Nat} (g : Gd W n X ex) (md : Mk0 W k x c ks pm) (ha : MKs W X ex kws ks.length gs) (hk : k + 1 ≤ n := by omega) (hg : Gl X x := by rfl) (hall : (backToKw pos (keywordEach kws X.env)).all (·.1.isSome) = true := by rfl) (hks : (backToKw pos (keywordEach kws X.env)).filterMap (·.1) = ks := by rfl)
    (hdb : (x == ("__debug__" : Str)) = false := by decide) (hpl : ((backTo pos (starEach [] X.env)).any (·.1) || (backToKw pos (keywordEach kws X.env)).any (·.1.isNone)) = false := by rfl) :
    ME W X ex (.Call (.Name x p1) [] kws pos) (.makeP c pm gs) := fun pk => by
  obtain ⟨a, h1, h2, h3⟩ := md.ex
  obtain ⟨tk, t2, t3⟩ := ha
  have mk : Mk X.K (W.Z.C c) a := by rw [g.hK]; exact h1
  refine ⟨fun pins s σ H Q I h => wpAny_Call_Name_kw (ld_glob I hg (by rw [g.hm]; exact h3) ?_ hdb)⟩
  have z := t3 σ H _ (fun zs H2 => zs.length = ks.length ∧ ∀ x dx, H2 x = none → H2 dx = none → dx ≠ x → spC W.Z W.K c (.ref x :: pick pm zs) (upd (upd H2 dx (.own x)) x (.ins (W.Z.C c) dx [])) (fun v H3 => v = .non ∧ Q (.ref x) H3) ex) (fun zs H2 l2 q => ⟨l2, q⟩) (tE_makeP md.lt h)
  refine PySem.W.callWith_KW0 (h₀ := X.base) I.ok.mod.kin mk.kp hall (thn (t2.run pos pins s σ H _ I z) fun ws s2 ⟨zs, H2, I2, rz, l2, q2⟩ => ⟨I2.kIn, ?_⟩) hpl
  rw [hks]
  refine run_makeKw (n := 0) (vs := []) (us := []) mk (g.fk h2) g.qu (g.room.mono hk) g.ps I2 .nil rz rfl l2 fun y dy hy hdy ne => ?_
  have e : pick (0 :: pm.map (· + 1)) (V.ref y :: [] ++ zs) = .ref y :: pick pm zs := by
    show pick (0 :: pm.map (· + 1)) (V.ref y :: zs) = _
    have := pick_self (V.ref y) zs pm
    unfold pick at this ⊢
    rw [List.filterMap_cons, this]
    rfl
  rw [e]
  exact q2 y dy hy hdy ne
/-! ### a class's own methods -/
structure Cd (W : Wo) (k : Nat) (x m : Str) (c f : Nat) : Prop where
  ex : ∃ mc p a, ClX.CRead W.Z.K (W.Z.C c) mc ∧ ClX.CMet W.Z.K (W.Z.C c) mc m p a ∧ FnG W.P W.w W.Z.K W.mg W.base (L2.CX W.P W.w) k a (spF W.Z W.K f)
  mg : W.mg x = some (.ref (W.Z.C c))
/-- C.m(..), m a class method -/
theorem me_cls [Calm W] {c f : Nat} {e : Expr} {m : Str} {pl : Sem Bool} (g : Gd W n X ex) (D : Cd W k x m c f) (ha : MG W X ex (e :: es) gs) (hk : k ≤ n := by omega) (hg : Gl X x := by rfl) (hdb : (x == ("__debug__" : Str)) = false := by decide) (hst : starEach (e :: es) X.env = (false, eval e X.env) :: starEach es X.env := by rfl) (hpl : (backTo pos (starEach es X.env)).any (·.1) = false := by rfl)
    (ht : eval (.Call (.Attribute (.Name x p1) m apos) (e :: es) [] pos) X.env = (do
      let ov ← eval (.Name x p1) X.env
      standAt apos.atName
      let (f, first) ← holding [ov] (getMethod ov m pl)
      callWith pos f first (backTo pos (starEach (e :: es) X.env)) (backToKw pos (keywordEach [] X.env))) := by rfl) :
    ME W X ex (.Call (.Attribute (.Name x p1) m apos) (e :: es) [] pos) (.call f (.v (.con (.cls c)) gs)) := fun pk => by
  obtain ⟨mc, p, a, h1, h2, h3⟩ := D.ex
  refine ⟨fun pins s σ H Q I h => PySem.W.methodCall_KW (pl := pl) (ld_glob I hg (by rw [g.hm]; exact D.mg) ?_ hdb) ht⟩
  have z := tCons_lit (w := V.ref (W.Z.C c)) (fun R => .cls c) (tGs_v (tE_call h))
  have cr : ClX.CRead X.K (W.Z.C c) mc := by rw [g.hK]; exact h1
  have cm : ClX.CMet X.K (W.Z.C c) mc m p a := by rw [g.hK]; exact h2
  refine ClX.getmethcm_ok I cr cm fun s2 I2 => ?_
  refine ClX.callwith_cm I2 (ClX.base_none I (Nat.le_refl _)) cm.fi (thn (ha.run pos _ s2 σ H _ I2 z) fun us s3 ⟨vs, H2, I3, rv, q2⟩ => ⟨⟨ClX.pin_at I3, I3.kIn⟩, ?_⟩) hst hpl
  exact thn (wpAny_call (PySem.W.method_call (ClX.pin_at I3) (run_G (us := .ref (W.Z.C c) :: us) (vs := .ref (W.Z.C c) :: vs) (g.fn h3) g.qu (g.room.mono hk) I3.env0 g.ps I3 (.cons rfl rv) q2))) fun _ _ y => ClX.unpinE y
/-- a method of an instance with slots -/
structure Id (W : Wo) (k : Nat) (m : Str) (c f : Nat) : Prop where
  sc : SCls W.Z.K (W.Z.C c)
  ex : ∃ a, Meth W.Z.K (W.Z.C c) m a ∧ FnG W.P W.w W.Z.K W.mg W.base (L2.CX W.P W.w) k a (spF W.Z W.K f)
theorem rgc_of {i j c0 : Int} (h1 : -(2 ^ 62) ≤ i) (h2 : i < 2 ^ 62) (h3 : -(2 ^ 62) ≤ j) (h4 : j < 2 ^ 62) (hc : 0 < c0) (hc2 : c0 < 1000000) : RgC i j c0 (Builtin.Range.rangeSize i j c0).toNat := by
  have hs : Builtin.Range.rangeSize i j c0 = if i < j then (j - i - 1) / c0 + 1 else 0 := by
    unfold Builtin.Range.rangeSize
    rw [if_pos hc]
  have hb : 0 ≤ Builtin.Range.rangeSize i j c0 ∧ Builtin.Range.rangeSize i j c0 ≤ 2 ^ 63 - 1 := by
    rw [hs]
    by_cases hij : i < j
    · rw [if_pos hij]
      have z1 : 0 ≤ (j - i - 1) / c0 := Int.ediv_nonneg (by omega) (by omega)
      have z2 : (j - i - 1) / c0 ≤ j - i - 1 := Int.ediv_le_self _ (by omega)
      omega
    · rw [if_neg hij]; omega
  refine ⟨by omega, by omega, ?_, (Int.toNat_of_nonneg hb.1).symm⟩
  unfold Builtin.Range.small
  simp only [Builtin.Range.rangeFitsLong, Bool.and_eq_true, Bool.or_eq_true, decide_eq_true_eq, beq_iff_eq]
  refine ⟨⟨⟨⟨⟨by omega, by omega⟩, ⟨by omega, by omega⟩⟩, ⟨by omega, by omega⟩⟩, ⟨by omega, by omega⟩⟩, .inr ?_⟩
  rw [if_pos hc, Bool.and_eq_true]
  exact ⟨decide_eq_true (by omega), decide_eq_true (by omega)⟩
theorem mi_rng3 {tg : Expr} (g : Gd W n X ex) (hm : W.mg "range" = none) (ha : ME W X ex a A) (hb : ME W X ex b B) (hc : ME W X ex c C) (hg : Gl X "range" := by rfl) (hs : starEach [a, b, c] X.env = (false, eval a X.env) :: starEach [b, c] X.env := by rfl) (hs2 : starEach [b, c] X.env = (false, eval b X.env) :: starEach [c] X.env := by rfl) (hs3 : starEach [c] X.env = (false, eval c X.env) :: starEach [] X.env := by rfl) (hpl : (backTo pos (starEach [b, c] X.env)).any (·.1) = false := by rfl) : MI W X ex tg (.Call (.Name "range" p1) [a, b, c] [] pos) (.rng3 A B C) :=
  (pi_range3 hg (by rw [g.hm]; exact hm) (pa_cons (ha false) (pa_cons (hb false) (pa_cons (hc false) pa_nil hs3) hs2) hs) hs hpl).imp fun s H Q h => (tI_3 rfl h).mono fun v H1 z => z.mono fun v2 H2 z => z.mono fun v3 H3 z => by
    obtain ⟨R, d, d2, d3, l, r1, r2, r3, e, k⟩ := z
    cases d <;> first | (cases e; done) | skip
    cases d2 <;> first | (cases e; done) | skip
    cases d3 <;> first | (cases e; done) | skip
    rename_i i j c0
    simp only [rng3F] at e
    split at e
    · rename_i hr
      cases e
      simp only [Bool.and_eq_true, decide_eq_true_eq] at hr
      obtain ⟨h1, h2⟩ := inR_iff hr.1.1.1
      obtain ⟨h3, h4⟩ := inR_iff hr.1.1.2
      exact ⟨i, j, c0, _, by rw [rep_int r1, rep_int r2, rep_int r3], rgc_of h1 h2 h3 h4 hr.1.2 hr.2, k _ gen_rngC⟩
    · cases e
end
end M

set_option Elab.async false
set_option linter.all false
set_option maxRecDepth 100000
set_option maxHeartbeats 4000000
/-! G5: str(x), len(x), repr(x), bool(x) of an instance with slots, by the class's own defs. -/
namespace M
open PySem L2 PyProof.Rows SlX
section
variable {P : Program} {w : World} {A : Around} {E : Value → Shared → Prop} {s : Shared} {K : PySem.W.Frag} {x C f : Addr} {ox : Obj} {od : Option Obj}
/-- the body of len -/
theorem len_bodyG {Q : Value → Shared → Prop} (kin : K.In s.heap) (J : PySem.W.InstAt s.heap x ox C od) (hs : PySem.W.findIn K (.ref C) "__len__" = some (some (.ref f))) (hf : PySem.W.isFn K (.ref f) = true)
    (h : wpAny (model P w) A (call (.ref f) [.ref x]) (fun r s2 => ∃ n u, r = .int n u ∧ (0 ≤ n ∧ n < 2 ^ 63) ∧ Q (.int n s2.toks) { s2 with toks := s2.toks + 1 }) E s) :
    wpAny (model P w) A (Builtin.«len» ⟨[.ref x], []⟩) (fun fin s2 => ∃ v, fin = .done (.ret v) ∧ Q v s2) E s := by
  unfold Builtin.«len»
  refine wpAny_bind (m := oneArg "len" _) (wpAny_pure (wpAny_bind (m := callSpecial? (.ref x) (Str.ofString "__len__")) (PySem.W.special_fn kin J hs (beq_iff_eq.mp hf) (wpAny_mono h (fun r s2 z => ?_) fun _ _ y => y))))
  obtain ⟨n, u, rfl, ⟨h0, h1⟩, q⟩ := z
  refine wpAny_bind (wpAny_holding (wpAny_pure (wpAny_bind (wpAny_letGo ?_))))
  have n0 : ¬ n < 0 := by omega
  have n1 : ¬ n ≥ 2 ^ 63 := by omega
  show wpAny _ _ (if n < 0 then _ else (if n ≥ 2 ^ 63 then _ else _)) _ _ _
  rw [if_neg n0, if_neg n1]
  exact wpAny_bind (wpAny_mkInt (wpAny_pure ⟨_, rfl, q⟩))
theorem len_callG {Q : Value → Shared → Prop} (kin : K.In s.heap) (J : PySem.W.InstAt s.heap x ox C od) (hs : PySem.W.findIn K (.ref C) "__len__" = some (some (.ref f))) (hf : PySem.W.isFn K (.ref f) = true)
    (h : wpAny (model P w) A.in1 (call (.ref f) [.ref x]) (fun r s2 => ∃ n u, r = .int n u ∧ (0 ≤ n ∧ n < 2 ^ 63) ∧ Q (.int n s2.toks) { s2 with toks := s2.toks + 1 }) E s) : wpAny (model P w) A (call (.builtin "len") [.ref x]) Q E s :=
  Calls.call_function_entry kind_len plain_len entry_len (args_len1 _) (len_bodyG kin J hs hf h)
end
section
variable {X : Cx} {CX : CXT} {C f : Addr} {sp : Sp} {E : XK} {n : Nat}
/-- an instance of the class at C; its def's promise -/
def rOwn1 (C : Addr) (sp : Sp) (E : XK) (T : VK → VK) : List V → Hp → VK → Prop := fun xs H Q => ∃ a dx vs, xs = [V.ref a] ∧ Slt H a C dx vs ∧ sp [.ref a] H (T Q) E
def tStr : VK → VK := fun Q z H => ∃ t, z = .str t ∧ Q (.str t) H
def tLen : VK → VK := fun Q z H => ∃ i : Int, z = .int i ∧ (0 ≤ i ∧ i < 2 ^ 62) ∧ Q (.int i) H
theorem call_strG (hs : PySem.W.findIn X.K (.ref C) "__str__" = some (some (.ref f))) (hf : PySem.W.isFn X.K (.ref f) = true) (F : FnG X.prog X.w X.K X.mg X.base CX n f sp) (qu : Qu X.A) (hr : Room (n + 2) X.A) (hx : Passes CX X E) : CallR X (.type "str") (rOwn1 C sp E tStr) := by
  intro pins s σ H xs us Q I r h
  obtain ⟨a, dx, vs, rfl, hsl, q⟩ := h
  obtain ⟨u, rfl, ru⟩ := r.one
  cases (show u = Value.ref a from ru)
  obtain ⟨sl, od, _, J, _⟩ := slt_inst I hsl
  have hr2 : Room n X.A.in1.in1 := (show Room (n + 1) X.A.in1 from Room.in1 hr).in1
  have go : wpAny (model X.prog X.w) X.A.in1.in1 (call (.ref f) [.ref a]) (EP X pins σ (tStr Q)) X.xe s := wpAny_call (run_G (us := [.ref a]) (vs := [.ref a]) F qu.in1.in1 hr2 I.env0.in1.in1 hx I (.cons rfl .nil) q)
  refine PySem.W.kso_call hr2.units0 I.kIn J hs hf (wpAny_mono go (fun v s2 z => ?_) fun _ _ y => y)
  obtain ⟨z2, H2, I2, rz, t, ez, qz⟩ := z
  subst ez
  obtain ⟨k, e⟩ := (show ∃ k, v = Value.str t k from rz)
  subst e
  exact ⟨.str t, H2, I2, ⟨k, rfl⟩, qz⟩
theorem call_lenG (hs : PySem.W.findIn X.K (.ref C) "__len__" = some (some (.ref f))) (hf : PySem.W.isFn X.K (.ref f) = true) (F : FnG X.prog X.w X.K X.mg X.base CX n f sp) (qu : Qu X.A) (hr : Room (n + 1) X.A) (hx : Passes CX X E) : CallR X (.builtin "len") (rOwn1 C sp E tLen) := by
  intro pins s σ H xs us Q I r h
  obtain ⟨a, dx, vs, rfl, hsl, q⟩ := h
  obtain ⟨u, rfl, ru⟩ := r.one
  cases (show u = Value.ref a from ru)
  obtain ⟨sl, od, _, J, _⟩ := slt_inst I hsl
  have hr2 : Room n X.A.in1 := Room.in1 hr
  have go : wpAny (model X.prog X.w) X.A.in1 (call (.ref f) [.ref a]) (EP X pins σ (tLen Q)) X.xe s := wpAny_call (run_G (us := [.ref a]) (vs := [.ref a]) F qu.in1 hr2 I.env0.in1 hx I (.cons rfl .nil) q)
  refine len_callG I.kIn J hs hf (wpAny_mono go (fun v s2 z => ?_) fun _ _ y => y)
  obtain ⟨z2, H2, I2, rz, i, ez, ⟨b0, b1⟩, qz⟩ := z
  subst ez
  obtain ⟨k, e⟩ := (show ∃ k, v = Value.int i k from rz)
  subst e
  exact ⟨i, k, rfl, ⟨b0, by omega⟩, .int i, H2, I2.tok _, ⟨_, rfl⟩, qz⟩
end
end M

set_option Elab.async false
set_option linter.all false
set_option maxRecDepth 100000
set_option maxHeartbeats 4000000
/-! G6: bool(x) of an instance with slots. -/
namespace M
open PySem L2 PyProof.Rows SlX
section
variable {P : Program} {w : World} {A : Around} {E : Value → Shared → Prop} {s : Shared} {K : PySem.W.Frag} {x C f : Addr} {ox : Obj} {od : Option Obj}
end
section
variable {X : Cx} {CX : CXT} {C f : Addr} {sp : Sp} {E : XK} {n : Nat}
end
section
variable {Z : Zc} {H : Hp} {x : V} {Q : VK}
theorem pr_asStr (h : PrimPost Z .asStr [x] H Q) : ∃ a, x = .str a ∧ Q (.str a) H := by
  obtain ⟨R, ds, ht, hr, nw, d, e, k⟩ := h
  obtain ⟨d1, rfl, r1⟩ := repPs1 hr
  cases d1 <;> first | (cases e; done) | skip
  cases e
  exact ⟨_, r1.str, k _ H (Same.refl H) (.str _)⟩
theorem pr_asLen (h : PrimPost Z .asLen [x] H Q) : ∃ i : Int, x = .int i ∧ (0 ≤ i ∧ i < 2 ^ 62) ∧ Q (.int i) H := by
  obtain ⟨R, ds, ht, hr, nw, d, e, k⟩ := h
  obtain ⟨d1, rfl, r1⟩ := repPs1 hr
  cases d1 <;> first | (cases e; done) | skip
  rename_i i
  have e : (if 0 ≤ i ∧ i < 4611686018427387904 then some (false, D.int i) else none) = some (nw, d) := e
  by_cases hi : 0 ≤ i ∧ i < 4611686018427387904
  · rw [if_pos hi] at e; cases e
    exact ⟨i, r1.int, ⟨hi.1, by omega⟩, k _ H (Same.refl H) (.int _)⟩
  · rw [if_neg hi] at e; cases e
end
section
variable {W : Wo} {n k : Nat} {X : Cx} {ex : XK} {a : Expr} {A : E} {pos p1 : Pos}
/-- the def x of the class c: its promise -/
structure Dd (W : Wo) (k c : Nat) (x : Str) (f : Nat) : Prop where
  sc : SCls W.Z.K (W.Z.C c)
  ex : ∃ a, PySem.W.findIn W.Z.K (.ref (W.Z.C c)) x = some (some (.ref a)) ∧ PySem.W.isFn W.Z.K (.ref a) = true ∧ FnG W.P W.w W.Z.K W.mg W.base (L2.CX W.P W.w) k a (spF W.Z W.K f)
theorem no_pass {X : Cx} : Passes (L2.CX X.prog X.w) X E0 := fun pins σ H s e s3 I hx => by
  obtain ⟨_, _, _, _, _, _, _, _, _, _, _, _, z⟩ := hx
  exact z.elim
theorem tE_own {c f : Nat} {p : P} {T : VK → VK} {s : Sg} {H : Hp} {Q : VK} {pk : Bool} (hp : ∀ (Z : Zc) x H (Q : VK), PrimPost Z p [x] H Q → T Q x H) (h : tE W.Z W.K ex (.prm p (.cons (.prop c f A) .nil)) pk s H Q) : tE W.Z W.K ex A false s H fun v H1 => rOwn1 (W.Z.C c) (spF W.Z W.K f) E0 T [v] H1 Q :=
  (tE_prop (tEs1 (tE_prm h))).mono fun v H1 z => by
    obtain ⟨⟨R, ds, hr⟩, q⟩ := z
    obtain ⟨_, a2, dx, xs, rfl, hs, _⟩ := slt_of hr
    exact ⟨a2, dx, _, rfl, hs, TR.mono q fun x H2 y => hp _ _ _ _ y⟩
theorem me_strOwn [Calm W] {c f : Nat} (g : Gd W n X ex) (S : Dd W k c "__str__" f) (hm : W.mg "str" = none) (ha : ME W X ex a A) (hk : k + 2 ≤ n := by omega) (hg : Gl X "str" := by rfl) (he : starEach [a] X.env = (false, eval a X.env) :: starEach [] X.env := by rfl) :
    ME W X ex (.Call (.Name "str" p1) [a] [] pos) (.prm .asStr (.cons (.prop c f A) .nil)) := fun pk => by
  obtain ⟨b, h1, h2, F⟩ := S.ex
  exact (pe_callTy (call_strG (by rw [g.hK]; exact h1) (by rw [g.hK]; exact h2) (g.fn F) g.qu (g.room.mono hk) no_pass) hg (by rw [g.hm]; exact hm) boot_str'' (pa_cons (ha false) pa_nil he) (by decide) (by decide) he rfl).imp fun s H Q h => tE_own (fun Z x H Q y => pr_asStr y) h
theorem me_lenOwn [Calm W] {c f : Nat} (g : Gd W n X ex) (S : Dd W k c "__len__" f) (hm : W.mg "len" = none) (ha : ME W X ex a A) (hk : k + 1 ≤ n := by omega) (hg : Gl X "len" := by rfl) (he : starEach [a] X.env = (false, eval a X.env) :: starEach [] X.env := by rfl) :
    ME W X ex (.Call (.Name "len" p1) [a] [] pos) (.prm .asLen (.cons (.prop c f A) .nil)) := fun pk => by
  obtain ⟨b, h1, h2, F⟩ := S.ex
  exact (pe_callB (call_lenG (by rw [g.hK]; exact h1) (by rw [g.hK]; exact h2) (g.fn F) g.qu (g.room.mono hk) no_pass) hg (by rw [g.hm]; exact hm) boot_len (pa_cons (ha false) pa_nil he) (by decide) (by decide) he rfl).imp fun s H Q h => tE_own (fun Z x H Q y => pr_asLen y) h
end
end M

set_option Elab.async false
set_option linter.all false
set_option maxRecDepth 100000
set_option maxHeartbeats 4000000
/-! G7: == and != of two instances with slots, by the class's own __eq__. -/
namespace M
open PySem L2 PyProof.Rows SlX
section
variable {P : Program} {w : World} {A : Around} {E : Value → Shared → Prop} {s : Shared} {K : PySem.W.Frag} {x y C f : Addr} {ox oy : Obj} {od od2 : Option Obj}
theorem bound_bltn {id : String} {name : Str} {args : List Value} {Q : Option Value → Shared → Prop} (kin : K.In s.heap) (J : PySem.W.InstAt s.heap x ox C od) (hs : PySem.W.findIn K (.ref C) name = some (some (.builtin id))) (hb : ∀ self, bindSpecial (.builtin id) self = pure (.builtin id, [self]))
    (h : wpAny (model P w) A (call (.builtin id) (.ref x :: args)) (fun v => Q (some v)) E s) : wpAny (model P w) A (callSpecialIfBound? (.ref x) name args) Q E s := by
  simp only [callSpecialIfBound?, bindSpecialIfBound?]
  refine wpAny_holding (wpAny_bind (wpAny_bind (wpAny_bind (J.type.here ((PySem.W.looks_findIn kin hs).here (wpAny_bind (wpAny_askSetting (wpAny_ite ?_))))))))
  have fin : wpAny (model P w) A (call (.builtin id) ([.ref x] ++ args) >>= fun v => pure (some v)) Q E s := wpAny_bind (wpAny_mono h (fun v s2 z => wpAny_pure z) fun _ _ z => z)
  split
  · exact wpAny_bind ((PySem.W.Looks.of_pure (hb _)).here (wpAny_pure (by exact fin)))
  · exact wpAny_tryCatch (wpAny_bind ((PySem.W.Looks.of_pure (hb _)).here (wpAny_pure (by exact fin))))
theorem rich_one {op : CmpOp} {Q : Value → Shared → Prop} (hu : A.units < cLine) (J : PySem.W.InstAt s.heap x ox C od) (J2 : PySem.W.InstAt s.heap y oy C od2)
    (one : wpAny (model P w) A (tryCompare (.ref x) (cmpInfo op).2.1 (.ref y)) (fun r s2 => ∃ v, r = some v ∧ Q v s2) E s) : wpAny (model P w) A (richCompare op (.ref x) (.ref y)) Q E s := by
  unfold richCompare
  simp only [PySem.oneThing_ref]
  refine wpAny_holding (wpAny_bind (wpAny_cRoomFor hu (wpAny_bind (J.type.here (wpAny_bind (J2.type.here ?_))))))
  rw [show (Value.ref C != Value.ref C) = false from by simp]
  refine wpAny_bind (wpAny_pure ?_)
  show wpAny _ _ (tryCompare _ _ _ >>= _) _ _ _
  refine wpAny_bind (wpAny_mono one (fun r s2 z => ?_) fun _ _ z => z)
  obtain ⟨v, rfl, q⟩ := z
  first
    | exact wpAny_pure q
    | exact wpAny_pure (wpAny_pure q)
theorem eq_callG {Q : Value → Shared → Prop} (hu : A.units < cLine) (kin : K.In s.heap) (J : PySem.W.InstAt s.heap x ox C od) (J2 : PySem.W.InstAt s.heap y oy C od2) (hs : PySem.W.findIn K (.ref C) "__eq__" = some (some (.ref f))) (hf : PySem.W.isFn K (.ref f) = true)
    (h : wpAny (model P w) A (call (.ref f) [.ref x, .ref y]) (fun v s2 => ∃ b, v = .bool b ∧ Q v s2) E s) : wpAny (model P w) A (richCompare .Eq (.ref x) (.ref y)) Q E s := by
  refine rich_one hu J J2 ?_
  unfold tryCompare
  refine wpAny_bind (PySem.W.ifBound_K kin J (by exact hs) hf (wpAny_mono h (fun v s2 z => ?_) fun _ _ z => z))
  obtain ⟨b, rfl, q⟩ := z
  exact wpAny_pure ⟨_, rfl, q⟩
theorem ne_callG {Q : Value → Shared → Prop} (hu : A.units < cLine) (hu1 : A.in1.units < cLine) (kin : K.In s.heap) (J : PySem.W.InstAt s.heap x ox C od) (J2 : PySem.W.InstAt s.heap y oy C od2) (hm : PySem.W.mroIn K C (.type "object") = some true)
    (hn : PySem.W.findIn K (.ref C) "__ne__" = some (some (.builtin "object.__ne__"))) (hs : PySem.W.findIn K (.ref C) "__eq__" = some (some (.ref f))) (hf : PySem.W.isFn K (.ref f) = true)
    (h : wpAny (model P w) A.in1 (call (.ref f) [.ref x, .ref y]) (fun v s2 => ∃ b, v = .bool b ∧ Q (.bool (!b)) s2) E s) : wpAny (model P w) A (richCompare .NotEq (.ref x) (.ref y)) Q E s := by
  refine rich_one hu J J2 ?_
  unfold tryCompare
  refine wpAny_bind (bound_bltn kin J (by exact hn) (fun self => rfl) (wpAny_call (codeAny_call_builtin (by decide +kernel) PySem.F.cmpEntry_ne
    (PySem.W.check_slot (i := "object.__ne__") (owner := "object") (n := "__ne__") (by decide +kernel) (by decide +kernel) (J.type.andThen (PySem.W.looks_mroIn kin hm)) (PySem.F.cmpArgs_ne (.ref x) (.ref y)) ?_))))
  unfold Builtin.«object.__ne__»
  refine wpAny_bind (m := slotArgs "__ne__" 1 _) (wpAny_pure (wpAny_bind (wpAny_cRoomFor hu1 (wpAny_bind (m := callSpecialIfBound? (.ref x) (Str.ofString "__eq__") _) (PySem.W.ifBound_K kin J hs hf (wpAny_mono h (fun v s2 z => ?_) fun _ _ z => z))))))
  obtain ⟨b, rfl, q⟩ := z
  exact wpAny_bind (wpAny_truthy_bool (wpAny_pure (wpAny_pure ⟨_, rfl, q⟩)))
end
section
variable {W : Wo} {n k : Nat} {X : Cx} {ex : XK} {a b : Expr} {A B : E} {pos : Pos}
/-- two instances of the class at C; their def's promise -/
def rOwn2 (C : Addr) (sp : Sp) (E : XK) (g : Bool → Bool) : R2 := fun x y H Q => ∃ a dx vs b dy ws, x = .ref a ∧ y = .ref b ∧ Slt H a C dx vs ∧ Slt H b C dy ws ∧ sp [x, y] H (fun z H' => ∃ c, z = .bl c ∧ Q (.bl (g c)) H') E
theorem op_eqG {CX : CXT} {C f : Addr} {sp : Sp} {E : XK} (hs : PySem.W.findIn X.K (.ref C) "__eq__" = some (some (.ref f))) (hf : PySem.W.isFn X.K (.ref f) = true) (F : FnG X.prog X.w X.K X.mg X.base CX n f sp) (qu : Qu X.A) (hr : Room n X.A) (hx : Passes CX X E) : OpR X (compareOp .Eq) (rOwn2 C sp E _root_.id) := by
  intro pins s σ H x y v u Q I rx ry h
  obtain ⟨a, dx, vs, b, dy, ws, rfl, rfl, ha, hb, q⟩ := h
  cases (show v = Value.ref a from rx)
  cases (show u = Value.ref b from ry)
  obtain ⟨sl, od, _, J, _⟩ := slt_inst I ha
  obtain ⟨sl2, od2, _, J2, _⟩ := slt_inst I hb
  have go : wpAny (model X.prog X.w) X.A (call (.ref f) [.ref a, .ref b]) (EP X pins σ _) X.xe s := wpAny_call (run_G (us := [.ref a, .ref b]) (vs := [.ref a, .ref b]) F qu hr I.env0 hx I (.cons rfl (.cons rfl .nil)) q)
  show wpAny (model X.prog X.w) X.A (richCompare .Eq (.ref a) (.ref b)) _ _ _
  refine eq_callG hr.units0 I.kIn J J2 hs hf (wpAny_mono go (fun r s2 z => ?_) fun _ _ y => y)
  obtain ⟨z2, H2, I2, rz, c, ez, qz⟩ := z
  subst ez
  exact ⟨c, rz, .bl c, H2, I2, rz, qz⟩
theorem op_neG {CX : CXT} {C f : Addr} {sp : Sp} {E : XK} (hm : PySem.W.mroIn X.K C (.type "object") = some true) (hn : PySem.W.findIn X.K (.ref C) "__ne__" = some (some (.builtin "object.__ne__"))) (hs : PySem.W.findIn X.K (.ref C) "__eq__" = some (some (.ref f))) (hf : PySem.W.isFn X.K (.ref f) = true) (F : FnG X.prog X.w X.K X.mg X.base CX n f sp)
    (qu : Qu X.A) (hr : Room (n + 1) X.A) (hx : Passes CX X E) : OpR X (compareOp .NotEq) (rOwn2 C sp E Bool.not) := by
  intro pins s σ H x y v u Q I rx ry h
  obtain ⟨a, dx, vs, b, dy, ws, rfl, rfl, ha, hb, q⟩ := h
  cases (show v = Value.ref a from rx)
  cases (show u = Value.ref b from ry)
  obtain ⟨sl, od, _, J, _⟩ := slt_inst I ha
  obtain ⟨sl2, od2, _, J2, _⟩ := slt_inst I hb
  have hr2 : Room n X.A.in1 := Room.in1 hr
  have go : wpAny (model X.prog X.w) X.A.in1 (call (.ref f) [.ref a, .ref b]) (EP X pins σ _) X.xe s := wpAny_call (run_G (us := [.ref a, .ref b]) (vs := [.ref a, .ref b]) F qu.in1 hr2 I.env0.in1 hx I (.cons rfl (.cons rfl .nil)) q)
  show wpAny (model X.prog X.w) X.A (richCompare .NotEq (.ref a) (.ref b)) _ _ _
  refine ne_callG (hr.mono (Nat.le_succ n)).units0 hr2.units0 I.kIn J J2 hm hn hs hf (wpAny_mono go (fun r s2 z => ?_) fun _ _ y => y)
  obtain ⟨z2, H2, I2, rz, c, ez, qz⟩ := z
  subst ez
  exact ⟨c, rz, .bl (!c), H2, I2, rfl, qz⟩
theorem pr_asBl {Z : Zc} {H : Hp} {x : V} {Q : VK} (h : PrimPost Z .asBl [x] H Q) : ∃ c, x = .bl c ∧ Q (.bl c) H := by
  obtain ⟨R, ds, ht, hr, nw, d, e, k⟩ := h
  obtain ⟨d1, rfl, r1⟩ := repPs1 hr
  cases d1 <;> first | (cases e; done) | skip
  cases e
  exact ⟨_, r1.bl, k _ H (Same.refl H) (.bl _)⟩
theorem pr_notBl {Z : Zc} {H : Hp} {x : V} {Q : VK} (h : PrimPost Z .notBl [x] H Q) : ∃ c, x = .bl c ∧ Q (.bl (!c)) H := by
  obtain ⟨R, ds, ht, hr, nw, d, e, k⟩ := h
  obtain ⟨d1, rfl, r1⟩ := repPs1 hr
  cases d1 <;> first | (cases e; done) | skip
  cases e
  exact ⟨_, r1.bl, k _ H (Same.refl H) (.bl _)⟩
theorem tE_own2 {c f : Nat} {p : P} {g : Bool → Bool} {s : Sg} {H : Hp} {Q : VK} {pk : Bool} (hp : ∀ (Z : Zc) x H (Q : VK), PrimPost Z p [x] H Q → ∃ c, x = .bl c ∧ Q (.bl (g c)) H) (h : tE W.Z W.K ex (.prm p (.cons (.callI c f (.v A (.v B .nil))) .nil)) pk s H Q) :
    tE W.Z W.K ex A false s H fun x H1 => tE W.Z W.K ex B false s H1 fun y H2 => rOwn2 (W.Z.C c) (spF W.Z W.K f) ex g x y H2 Q :=
  (tGs_v (tE_callI (tEs1 (tE_prm h)))).mono fun x H1 z => (tGs_v z).mono fun y H2 z => by
    obtain ⟨hi, q⟩ := tGs_nil z
    obtain ⟨R, ds, hr⟩ := hi x (by simp)
    obtain ⟨R2, ds2, hr2⟩ := hi y (by simp)
    obtain ⟨_, a, dx, xs, rfl, hs, _⟩ := slt_of hr
    obtain ⟨_, b, dy, ys, rfl, hs2, _⟩ := slt_of hr2
    exact ⟨a, dx, _, b, dy, _, rfl, rfl, hs, hs2, TR.mono q fun x H2 y => hp _ _ _ _ y⟩
theorem me_eqOwn [Calm W] {c f : Nat} (g : Gd W n X ex) (S : Dd W k c "__eq__" f) (ha : ME W X ex a A) (hb : ME W X ex b B) (hk : k ≤ n := by omega) (h1 : behindInMarks .Eq b = false := by rfl) : ME W X ex (.Compare a [.Eq] [b] pos) (.prm .asBl (.cons (.callI c f (.v A (.v B .nil))) .nil)) := fun pk => by
  obtain ⟨i, e1, e2, F⟩ := S.ex
  exact (pe_cmpR (op_eqG (by rw [g.hK]; exact e1) (by rw [g.hK]; exact e2) (g.fn F) g.qu (g.room.mono hk) g.ps) (ha false) (hb false) h1).imp fun s H Q h => tE_own2 (fun Z x H Q y => pr_asBl y) h
theorem me_neOwn [Calm W] {c f : Nat} (g : Gd W n X ex) (S : Dd W k c "__eq__" f) (om : PySem.W.mroIn W.Z.K (W.Z.C c) (.type "object") = some true) (ne : PySem.W.findIn W.Z.K (.ref (W.Z.C c)) "__ne__" = some (some (.builtin "object.__ne__"))) (ha : ME W X ex a A) (hb : ME W X ex b B) (hk : k + 1 ≤ n := by omega) (h1 : behindInMarks .NotEq b = false := by rfl) :
    ME W X ex (.Compare a [.NotEq] [b] pos) (.prm .notBl (.cons (.callI c f (.v A (.v B .nil))) .nil)) := fun pk => by
  obtain ⟨i, e1, e2, F⟩ := S.ex
  exact (pe_cmpR (op_neG (by rw [g.hK]; exact om) (by rw [g.hK]; exact ne) (by rw [g.hK]; exact e1) (by rw [g.hK]; exact e2) (g.fn F) g.qu (g.room.mono hk) g.ps) (ha false) (hb false) h1).imp fun s H Q h => tE_own2 (fun Z x H Q y => pr_notBl y) h
end
end M

set_option Elab.async false
set_option linter.all false
set_option maxRecDepth 100000
set_option maxHeartbeats 4000000
/-! G8: C.m(name=..), m a class method. -/
namespace M
open PySem L2 PyProof.Rows SlX
section
variable {W : Wo} {n k : Nat} {X : Cx} {ex : XK} {pos p1 apos : Pos} {gs : Gs} {kws : List Keyword} {x : Str}
/-- the class method m of the class c, its values by the names ks -/
structure Ck (W : Wo) (k : Nat) (x m : Str) (c f : Nat) (ks : List Str) (pm : List Nat) : Prop where
  ex : ∃ mc p a, ClX.CRead W.Z.K (W.Z.C c) mc ∧ ClX.CMet W.Z.K (W.Z.C c) mc m p a ∧ FnK W.P W.w W.Z.K W.mg W.base (L2.CX W.P W.w) k a 1 ks pm (spF W.Z W.K f)
  mg : W.mg x = some (.ref (W.Z.C c))
end
end M

set_option Elab.async false
set_option linter.all false
set_option maxRecDepth 100000
set_option maxHeartbeats 4000000
/-! G9: t[::-1], t a list or a tuple. -/
namespace M
open PySem L2 PyProof.Rows SlX HT
section
variable {P : Program} {w : World} {A : Around} {E : Value → Shared → Prop} {s : Shared}
theorem adj_rev (n : Nat) : Builtin.Slice.sliceAdjust none none (-1) (n : Int) = ((n : Int) - 1, -1) := by
  unfold Builtin.Slice.sliceAdjust; simp
theorem places_rev (n : Nat) : Builtin.Slice.slicePlaces ((n : Int) - 1) (-1) (-1) = n := by
  unfold Builtin.Slice.slicePlaces; simp
  split <;> omega
theorem applied_rev {sl : Addr} {vs : Value} {n : Nat} {Q : Int × Int × Nat → Shared → Prop} (hs : s.heap.IsSliceOf sl .none .none vs) (ps : IsPart vs (some (-1)))
    (h : Q ((n : Int) - 1, -1, n) s) : wpAny (model P w) A (Builtin.Slice.sliceApplied (.ref sl) (pure (n : Int))) Q E s := by
  obtain ⟨so, g1, g2, g3⟩ := id hs
  unfold Builtin.Slice.sliceApplied; unfold Builtin.Slice.sliceFields
  refine wpAny_bind (wpAny_bind (wpAny_field g1 g3 (x := .none) rfl (wpAny_bind (wpAny_field g1 g3 (x := .none) rfl (wpAny_bind (wpAny_field g1 g3 (x := vs) rfl (wpAny_pure (wpAny_bind (HT.slicePart_ ps ?_)))))))))
  show wpAny _ _ (if ((-1 : Int) == 0) = true then _ else _) _ _ s
  rw [if_neg (show ¬ ((-1 : Int) == 0) = true by decide)]
  refine wpAny_bind (HT.slicePart_ .none (wpAny_bind (HT.slicePart_ .none (wpAny_bind (wpAny_pure ?_)))))
  show wpAny _ _ (match Builtin.Slice.sliceAdjust none none (-1) (n : Int) with | (lo, hi) => pure (lo, (-1 : Int), Builtin.Slice.slicePlaces lo hi (-1))) _ _ s
  rw [adj_rev n]
  show wpAny _ _ (pure ((n : Int) - 1, (-1 : Int), Builtin.Slice.slicePlaces ((n : Int) - 1) (-1) (-1))) _ _ s
  rw [places_rev]
  exact wpAny_pure h
theorem fm_map {α β : Type} {f : α → Option β} {g : α → β} : ∀ {l : List α}, (∀ x ∈ l, f x = some (g x)) → l.filterMap f = l.map g
  | [], _ => rfl
  | x :: l, h => by rw [List.filterMap_cons, h x (List.mem_cons_self ..), List.map_cons, fm_map fun y hy => h y (List.mem_cons_of_mem _ hy)]
theorem rng_rev {α : Type} (l : List α) (d : α) : (List.range l.length).map (fun k => l.getD k d) = l := by
  apply List.ext_getElem
  · simp
  · intro i h1 h2
    rw [List.getElem_map, List.getElem_range, List.getD_eq_getElem?_getD, List.getElem?_eq_getElem h2]; rfl
theorem pick_rev (xs : Array Value) : ((List.range xs.size).filterMap fun (k : Nat) => xs[(((xs.size : Nat) : Int) - 1 + (k : Int) * (-1)).toNat]?).toArray = xs.toList.reverse.toArray := by
  congr 1
  rw [fm_map (g := fun k => xs.toList.reverse.getD k .none) (fun k hk => ?_)]
  · have z := rng_rev xs.toList.reverse Value.none
    rw [List.length_reverse, Array.length_toList] at z
    exact z
  · have hk' := List.mem_range.1 hk
    have h1 : (((xs.size : Nat) : Int) - 1 + (k : Int) * (-1)).toNat = xs.size - 1 - k := by omega
    have h2 : xs.size - 1 - k < xs.size := by omega
    have h4 : xs.size - 1 - k < xs.toList.length := by rw [Array.length_toList]; exact h2
    have h3 : k < xs.toList.length := by rw [Array.length_toList]; exact hk'
    rw [h1, List.getD_eq_getElem?_getD, List.getElem?_reverse h3, Array.length_toList, ← Array.getElem?_toList, List.getElem?_eq_getElem h4]; rfl
theorem getItem_rev {t sl : Addr} {items : Array Value} {vs : Value} {Q : Value → Shared → Prop} (ht : IsTup s.heap t items) (hs : s.heap.IsSliceOf sl .none .none vs) (ps : IsPart vs (some (-1)))
    (h : Q (.ref s.heap.objs.size) { s with heap := s.heap.push { cls := .type "tuple", data := .seq items.toList.reverse.toArray } }) (hsz : items.size ≤ sizeLine) : wpAny (model P w) A (getItem (.ref t) (.ref sl)) Q E s := by
  have hsize : sizeOk (.seq items.toList.reverse.toArray) := by
    show items.toList.reverse.toArray.size ≤ sizeLine
    rw [List.size_toArray, List.length_reverse, Array.length_toList]; exact hsz
  obtain ⟨so, g1, g2, g3⟩ := id hs
  have hT : s.TypeIs (.ref sl) "slice" := ⟨so, g1, g2⟩
  unfold getItem
  try (with_reducible refine wpAny_holding ?_)
  try (refine wpAny_bind (wpAny_pure ?_))
  refine wpAny_bind (wpAny_sequenceKey ht.typeIs (by decide) (wpAny_bind (wpAny_callSpecial?_slot (name := Str.ofString "__getitem__") ht.typeIs PyProof.Rows.slot_tuple_getitem
    (wpAny_call_entry PyProof.Rows.slot_tuple_getitem ht.typeIs entry_tuple_getitem ?_ (args_tuple_getitem _ _)))))
  show wpAny (model P w) _ (Builtin.Tuple.tupleItemsOf (.ref t) >>= _) _ _ s
  refine wpAny_bind (tupleItemsOf_ ht (wpAny_bind (wpAny_typeOf hT ?_)))
  rw [if_pos (show (Value.type "slice" == Value.type "slice") = true by decide)]
  refine wpAny_bind (applied_rev (n := items.size) hs ps ?_)
  have hno : ¬ ((((items.size : Nat) : Int) - 1 == 0 && (-1 : Int) == 1 && items.size == items.size) = true) := by simp
  show wpAny _ _ (if ((((items.size : Nat) : Int) - 1 == 0 && (-1 : Int) == 1 && items.size == items.size)) = true then _ else _) _ _ s
  rw [if_neg hno, pick_rev]
  first
    | exact wpAny_bind (m := Builtin.Tuple.tupleExact _) (wpAny_newObj_type (wpAny_pure ⟨_, rfl, wpAny_pure h⟩) hsize)
    | exact wpAny_bind (m := Builtin.Tuple.tupleExact _) (wpAny_newObj_type (wpAny_bind (wpAny_pure (wpAny_pure ⟨_, rfl, wpAny_pure h⟩))) hsize)
    | exact wpAny_bind (wpAny_bind (m := Builtin.Tuple.tupleExact _) (wpAny_newObj_type (wpAny_pure (wpAny_pure ⟨_, rfl, wpAny_pure h⟩)) hsize))
    | exact wpAny_bind (wpAny_bind (m := Builtin.Tuple.tupleExact _) (wpAny_newObj_type (wpAny_pure ⟨_, rfl, wpAny_pure h⟩) hsize))
end
section
variable {X : Cx}
def tRevB (K : PySem.W.Frag) (te : TE) : TE := fun σ H Q => te σ H fun x H1 => ∃ a xs, x = .ref a ∧ ((SqL K H1 a xs ∧ ∀ p, H1 p = none → Q (.ref p) (upd H1 p (.lst xs.reverse))) ∨ (SqT K H1 a xs ∧ ∀ p, H1 p = none → Q (.ref p) (upd H1 p (.tup xs.reverse))))
theorem pe_revB {e : Expr} {te : TE} {k : Nat} {p1 p2 p3 pos : Pos} (he : PE X e te) : PE X (.Subscript e (.Slice none none (some (.UnaryOp .USub (.Constant (.int 1) k p1) p2)) p3) pos) (tRevB X.K te) := by
  refine ⟨fun pins s σ H Q I h => Subscript_ (thn (he.run pins s σ H _ I h) fun v s1 ⟨x, H1, I1, r1, q1⟩ => ?_)⟩
  obtain ⟨a, xs, ex, hq⟩ := q1
  subst ex
  cases r1
  have minus : PO X (some (.UnaryOp .USub (.Constant (.int 1) k p1) p2)) (tPart (tUn (rU fun i => .int (-i)) (tC (.int 1)))) := po_some (pe_un un_neg pe_int)
  refine wpAny_Slice (thn (po_none.run pins s1 σ H1 (fun o H2 => o = none ∧ H2 = H1) I1 ⟨rfl, rfl⟩) fun vl s2 ⟨lo, H2, I2, pl, e1, e2⟩ => ?_)
  subst e1 e2
  refine thn (po_none.run pins s2 σ H2 (fun o H3 => o = none ∧ H3 = H2) I2 ⟨rfl, rfl⟩) fun vu s3 ⟨hi, H3, I3, pu, e1, e3⟩ => ?_
  subst e1 e3
  refine thn (minus.run pins s3 σ H3 (fun o H4 => o = some (-1) ∧ H4 = H3) I3 ⟨1, rfl, -1, rfl, rfl, rfl⟩) fun vs s4 ⟨st, H4, I4, ps, e1, e4⟩ => ?_
  subst e1 e4
  cases pl
  cases pu
  have I5 : Inv X pins σ H4 { s4 with heap := s4.heap.push { cls := .type "slice", data := .fields #[.none, .none, vs] } } := I4.kept (t' := s4.toks) fun b ob q => Heap.get?_push_of_some _ q
  show wpAny (model X.prog X.w) X.A (subscriptTail e (.Slice none none (some (.UnaryOp .USub (.Constant (.int 1) k p1) p2)) p3) (.ref a) (.ref s4.heap.objs.size)) (EP X pins σ Q) X.xe { s4 with heap := s4.heap.push { cls := .type "slice", data := .fields #[.none, .none, vs] } }
  rcases hq with ⟨hx, q⟩ | ⟨hx, q⟩
  · obtain ⟨its, r, ht, hz⟩ := I5.list hx
    have hlen := r.length
    refine tail_any (ops := [.ref a, .ref s4.heap.objs.size]) ht.isList.typeIs (PySem.slot_list_getitem.lookup) (wpAny_getItem_list_slice ht.isList (Heap.IsSliceOf.new _ .none .none vs) .none .none ps (by decide) ?_ (by rw [List.size_toArray]; omega)) (by with_unfolding_all rfl)
    rw [PySem.W.krv_pick]
    exact ⟨.ref _, _, I5.laid (t' := s4.toks) (o := .lst xs.reverse) (fun b ob q => Heap.get?_push_of_some _ q) (Nat.le_refl _) ⟨by rw [List.length_reverse]; exact hz, _, 0, r.reverse, Heap.get?_push_size _ rfl⟩, rfl, q _ (I5.hok.fresh (Nat.le_refl _))⟩
  · obtain ⟨its, r, ht, hz⟩ := I5.tuple hx
    have hlen := r.length
    refine tail_any (ops := [.ref a, .ref s4.heap.objs.size]) ht.typeIs PyProof.Rows.slot_tuple_getitem.lookup (getItem_rev ht (Heap.IsSliceOf.new _ .none .none vs) ps ?_ (by rw [List.size_toArray]; omega)) (by with_unfolding_all rfl)
    exact ⟨.ref _, _, I5.laid (t' := s4.toks) (o := .tup xs.reverse) (fun b ob q => Heap.get?_push_of_some _ q) (Nat.le_refl _) ⟨by rw [List.length_reverse]; exact hz, _, r.reverse, IsTup.new _ _⟩, rfl, q _ (I5.hok.fresh (Nat.le_refl _))⟩
end
section
variable {W : Wo} {n : Nat} {X : Cx} {ex : XK} {a : Expr} {A : E} {pos p1 p2 p3 : Pos}
theorem me_rev {k0 : Nat} (ha : ME W X ex a A) (g : Gd W n X ex) : ME W X ex (.Subscript a (.Slice none none (some (.UnaryOp .USub (.Constant (.int 1) k0 p1) p2)) p3) pos) (.prm .revL (.cons A .nil)) := fun pk =>
  (pe_revB (ha true)).imp fun s H Q h => (tEs1 (tE_prm h)).mono fun x H1 z => by
    obtain ⟨R, ds, ht, hr, nw, d, e, kk⟩ := z
    obtain ⟨d0, rfl, rp⟩ := repPs1 hr
    cases d0 <;> first | (cases e; done) | skip
    · cases e
      obtain ⟨p, xs, rfl, h1, h2⟩ := rp.tup
      rw [g.hK]
      exact ⟨p, xs, rfl, .inr ⟨h1.sq, fun q hq => kk _ _ (same_upd hq) (rep_new_tup ht.2 hq (repL_rev h2))⟩⟩
    · cases e
      obtain ⟨p, xs, rfl, h1, h2⟩ := rp.lst
      rw [g.hK]
      exact ⟨p, xs, rfl, .inl ⟨h1, fun q hq => kk _ _ (same_upd hq) (repN_new_lst hq (repL_rev h2))⟩⟩
end
end M

set_option Elab.async false
set_option linter.all false
set_option maxRecDepth 100000
set_option maxHeartbeats 4000000
/-! G10: sorted(list, key=a def of the text). -/
namespace M
open PySem L2 PyProof.Rows SlX
section
variable {X : Cx} {pins : List (Addr × Obj)} {σ : Sg} {H : Hp} {s : Shared}
end
section
variable {X : Cx} {pins : List (Addr × Obj)} {σ : Sg} {H : Hp} {s : Shared} {A : Around} {D kS : Addr} {vs : List Value} {kz : List Int} {keys : Array Value} {e e1 : Nat} {P : PySem.Fin → Shared → Prop}
end
section
variable {X : Cx} {pins : List (Addr × Obj)} {σ : Sg} {H : Hp} {s : Shared} {D kS f : Addr} {vs : List Value} {xs : List V} {e1 n : Nat} {P : PySem.Fin → Shared → Prop} {sp : Sp} {Q : List Int → Hp → Prop}
end
end M

set_option Elab.async false
set_option linter.all false
set_option maxRecDepth 100000
set_option maxHeartbeats 4000000
/-! G11: sorted(list, key=a def): the call. -/
namespace M
open PySem L2 PyProof.Rows SlX
inductive F2 {α β : Type} (R : α → β → Prop) : List α → List β → Prop
  | nil : F2 R [] []
  | cons {a : α} {b : β} {l : List α} {m : List β} (r : R a b) (h : F2 R l m) : F2 R (a :: l) (b :: m)
section
variable {X : Cx} {f : Addr} {sp : Sp} {n : Nat}
end
end M

set_option Elab.async false
set_option linter.all false
set_option maxRecDepth 100000
set_option maxHeartbeats 4000000
/-! G12: sorted(list, key=a def): the tree's reading. -/
namespace M
open PySem L2 PyProof.Rows SlX
/-! sorting by distinct keys -/
section
variable {Z : Zc} {K : Calls} {ex : XK} {s : Sg} {R0 : Pr} {q1 : Fm} {f : Nat}
end
end M

set_option Elab.async false
set_option linter.all false
set_option maxRecDepth 100000
set_option maxHeartbeats 4000000
/-! G13: sorted(list, key=a def): read in the text. -/
namespace M
open PySem L2 PyProof.Rows SlX
section
variable {W : Wo} {n k : Nat} {X : Cx} {ex : XK} {a : Expr} {A : E} {pos p1 p2 kp : Pos} {fx : Str} {f : Nat}
end
end M

set_option Elab.async false
set_option linter.all false
set_option maxRecDepth 100000
set_option maxHeartbeats 4000000
/-! A15: defs and constructors. -/
namespace M
open PySem L2 PyProof.Rows SlX

abbrev cxF (W : Wo) (N : List Str) (qual : Str) (sc : Scope) (f : Addr) (cdv : Value) (A : Around) (outer : List Env) (s : Shared) (H : Hp) (E : XK) : Cx := cxOf (L2.CX W.P W.w) W.P W.w W.Z.K W.mg W.base N qual sc f cdv A outer s H E
section
variable {W : Wo} {N ps : List Str} {qual : Str} {sc : Scope} {f : Addr} {cdv : Value} {A : Around} {outer : List Env} {s : Shared} {H : Hp} {E : XK} {n : Nat}
theorem gd_cx (S : FnScope N ps sc) (qu : Qu A) (hr : Room n (A.deeper (envOfC qual sc s.heap.objs.size f cdv))) : Gd W n (cxF W N qual sc f cdv A outer s H E) E :=
  ⟨rfl, rfl, rfl, rfl, rfl, fun _ => rfl, S.nd, ⟨hr.dp, hr.un⟩, fun _ => hr.hd, passes_call (takes_of rfl rfl rfl rfl) fun _ _ _ _ h => h, qu⟩
theorem po_cx : PassesOwn (model (cxF W N qual sc f cdv A outer s H E).prog (cxF W N qual sc f cdv A outer s H E).w) (cxF W N qual sc f cdv A outer s H E).A (cxF W N qual sc f cdv A outer s H E).env (cxF W N qual sc f cdv A outer s H E).xe := passes_of rfl
end
section
variable {Z : Zc} {R0 R1 : Pr} {σ : Sg} {q : Fm} {H H' : Hp}
theorem rep_none_get {i k : Nat} {v : V} : (List.replicate k (none : Option V))[i]? ≠ some (some v) := by
  rw [List.getElem?_replicate]
  split <;> (intro h; cases h)
theorem rep_no_get {i k : Nat} {t : Slot} (h : (List.replicate k Slot.no)[i]? = some t) : t = .no := by
  rw [List.getElem?_replicate] at h
  split at h
  · cases h; rfl
  · cases h
theorem ext_slot {k i : Nat} {t : Slot} (h : (q ++ List.replicate k Slot.no)[i]? = some t) : q[i]? = some t ∨ t = .no := by
  by_cases hi : i < q.length
  · rw [List.getElem?_append_left hi] at h; exact .inl h
  · rw [List.getElem?_append_right (by omega)] at h; exact .inr (rep_no_get h)
theorem ext_val {k i : Nat} {v : V} : (σ ++ List.replicate k none)[i]? = some (some v) ↔ σ[i]? = some (some v) := by
  by_cases hi : i < σ.length
  · rw [List.getElem?_append_left hi]
  · rw [List.getElem?_append_right (by omega), List.getElem?_eq_none (l := σ) (by omega)]
    exact ⟨fun h => absurd h rep_none_get, fun h => nomatch h⟩
theorem ext_ow {k : Nat} {b : Addr} : Ow (σ ++ List.replicate k none) (q ++ List.replicate k .no) b ↔ Ow σ q b := by
  constructor
  · rintro ⟨i, b', d, h1, h2⟩
    rcases ext_slot h1 with h | h
    · exact ⟨i, b', d, h, ext_val.mp h2⟩
    · cases h
  · rintro ⟨i, b', d, h1, h2⟩
    exact ⟨i, b', d, by rw [List.getElem?_append_left (List.getElem?_eq_some_iff.mp h1).1]; exact h1, ext_val.mpr h2⟩
theorem FR.ext (f : FR Z R0 σ q H) (k : Nat) : FR Z R0 (σ ++ List.replicate k none) (q ++ List.replicate k .no) H := by
  have lt : Lat (Rt R0 σ q) H (Rt R0 (σ ++ List.replicate k none) (q ++ List.replicate k .no)) H := Lat.sub fun b z => Or.elim z .inl fun z => .inr (ext_ow.mp z)
  refine ⟨by rw [List.length_append, List.length_append, List.length_replicate, List.length_replicate, f.len], f.tb, f.trk, fun i b d e => ?_, fun i b d e => ?_, fun i j b b' d d' a e e' h1 h2 => ?_⟩
  · rcases ext_slot e with e | e
    · obtain ⟨v, h1, h2⟩ := f.sh i b d e
      exact ⟨v, ext_val.mpr h1, h2.lat lt⟩
    · cases e
  · rcases ext_slot e with e | e
    · obtain ⟨v, h1, h2, h3⟩ := f.ow i b d e
      exact ⟨v, ext_val.mpr h1, h2, h3.lat lt rfl⟩
    · cases e
  · rcases ext_slot e with e | e
    · rcases ext_slot e' with e' | e'
      · exact f.sep i j b b' d d' a e e' (ext_val.mp h1) (ext_val.mp h2)
      · cases e'
    · cases e
/-- self ahead -/
theorem pin_ow {x : V} {b : Addr} : Ow (some x :: σ) (.pin :: q) b ↔ Ow σ q b := by
  constructor
  · rintro ⟨i, b', d, h1, h2⟩
    cases i with
    | zero => simp at h1
    | succ i => exact ⟨i, b', d, by simpa using h1, by simpa using h2⟩
  · rintro ⟨i, b', d, h1, h2⟩
    exact ⟨i + 1, b', d, by simpa using h1, by simpa using h2⟩
theorem FR.pin (f : FR Z R0 σ q H) (x : V) : FR Z R0 (some x :: σ) (.pin :: q) H := by
  have lt : Lat (Rt R0 σ q) H (Rt R0 (some x :: σ) (.pin :: q)) H := Lat.sub fun b z => Or.elim z .inl fun z => .inr (pin_ow.mp z)
  refine ⟨by rw [List.length_cons, List.length_cons, f.len], f.tb, f.trk, fun i b d e => ?_, fun i b d e => ?_, fun i j b b' d d' a e e' h1 h2 => ?_⟩
  · cases i with
    | zero => simp at e
    | succ i =>
      obtain ⟨v, h1, h2⟩ := f.sh i b d (by simpa using e)
      exact ⟨v, by simpa using h1, h2.lat lt⟩
  · cases i with
    | zero => simp at e
    | succ i =>
      obtain ⟨v, h1, h2, h3⟩ := f.ow i b d (by simpa using e)
      exact ⟨v, by simpa using h1, h2, h3.lat lt rfl⟩
  · cases i with
    | zero => simp at e
    | succ i =>
      cases j with
      | zero => simp at e'
      | succ j => rw [f.sep i j b b' d d' a (by simpa using e) (by simpa using e') (by simpa using h1) (by simpa using h2)]
/-- the frame of the end, cut to the parameters -/
theorem cut_slot {n i : Nat} {t : Slot} (h : (lentBack n q)[i]? = some t) (ht : t ≠ .no) : q[i]? = some t ∧ i < n ∧ t.isBor = true := by
  unfold lentBack at h
  rw [List.getElem?_map] at h
  cases e : (q.take n)[i]? with
  | none => rw [e] at h; cases h
  | some u =>
    rw [e] at h
    have hi : i < n := by
      have := (List.getElem?_eq_some_iff.mp e).1
      rw [List.length_take] at this
      omega
    rw [List.getElem?_take_of_lt hi] at e
    have h : (if u.isBor then u else .no) = t := by simpa using h
    cases hb : u.isBor with
    | true => rw [hb] at h; simp at h; subst h; exact ⟨e, hi, hb⟩
    | false => rw [hb] at h; exact absurd h.symm ht
theorem FR.cut {vs : List V} {q0 : Fm} {k : Nat} (f : FR Z R1 σ q H') (hq : vs.length ≤ q.length) (b : BKs (vs.map some ++ List.replicate k none) q0 σ q) : FR Z R1 (vs.map some) (lentBack vs.length q) H' ∧ (∀ c, Ow (vs.map some) (lentBack vs.length q) c → Ow σ q c) ∧ BK q0 (lentBack vs.length q) := by
  have key : ∀ {i : Nat} {t : Slot}, (lentBack vs.length q)[i]? = some t → t ≠ .no → q[i]? = some t ∧ bor q0 i ∧ (vs.map some)[i]? = σ[i]? := fun {i t} h ht => by
    obtain ⟨h1, h2, h3⟩ := cut_slot h ht
    obtain ⟨b1, b2⟩ := b i ⟨t, h1, h3⟩
    rw [List.getElem?_append_left (by simpa using h2)] at b2
    exact ⟨h1, b1, b2.symm⟩
  have ow : ∀ c, Ow (vs.map some) (lentBack vs.length q) c → Ow σ q c := fun c ⟨i, b', d, h1, h2⟩ => by
    obtain ⟨e1, _, e2⟩ := key h1 (fun z => nomatch z)
    exact ⟨i, b', d, e1, by rw [← e2]; exact h2⟩
  have lt : Lat (Rt R1 σ q) H' (Rt R1 (vs.map some) (lentBack vs.length q)) H' := Lat.sub fun c z => Or.elim z .inl fun z => .inr (ow c z)
  refine ⟨⟨?_, f.tb, f.trk, fun i b d e => ?_, fun i b d e => ?_, fun i j b b' d d' a e e' h1 h2 => ?_⟩, ow, fun i ⟨t, h1, h2⟩ => ?_⟩
  · unfold lentBack
    rw [List.length_map, List.length_map, List.length_take]
    omega
  · obtain ⟨e1, _, e2⟩ := key e (fun z => nomatch z)
    obtain ⟨v, h1, h2⟩ := f.sh i b d e1
    exact ⟨v, by rw [e2]; exact h1, h2.lat lt⟩
  · obtain ⟨e1, _, e2⟩ := key e (fun z => nomatch z)
    obtain ⟨v, h1, h2, h3⟩ := f.ow i b d e1
    exact ⟨v, by rw [e2]; exact h1, h2, h3.lat lt rfl⟩
  · obtain ⟨e1, _, e2⟩ := key e (fun z => nomatch z)
    obtain ⟨e3, _, e4⟩ := key e' (fun z => nomatch z)
    exact f.sep i j b b' d d' a e1 e3 (by rw [← e2]; exact h1) (by rw [← e4]; exact h2)
  · have ht : t ≠ .no := fun z => by subst z; cases h2
    exact (key h1 ht).2.1
end
theorem spF_len {W : Wo} {K' : Calls} {fi : Nat} {d : FDef} (hK : ∀ as, K'.fn fi as = runF W.K d as) {vs : List V} {H : Hp} {Q : VK} {E : XK} (h : spF W.Z K' fi vs H Q E) : vs.length = d.nps := by
  obtain ⟨R0, as, f, h⟩ := h
  have h : An W.Z E R0 (vs.map some) as H (PoV W.Z R0 (vs.map some) H) Q (noSlot (K'.fn fi as)) := h
  rw [hK] at h
  unfold runF at h
  by_cases hl : as.length = d.nps
  · rw [← hl, ← f.len, List.length_map]
  · rw [if_neg hl] at h; exact h.elim
/-- THE RULE for a def -/
theorem fn_ok {W : Wo} {n : Nat} {K' : Calls} {fi : Nat} {d : FDef} {N ps : List Str} {x qual : Str} {st : Stmt} {f : Addr} {fd : FuncData} (hK : ∀ as, K'.fn fi as = runF W.K d as) (Fu : L2.Fun W.Z.K x qual st f fd) (S : FnScope N ps (defScope st)) (hN : N.length = d.nN) (hp : ps.length = d.nps)
    (body : ∀ cdv A outer s H E, Gd W n (cxF W N qual (defScope st) f cdv A outer s H E) E → MSs W (cxF W N qual (defScope st) f cdv A outer s H E) E (defBody st) d.body) : FnA W.P W.w W.Z.K W.mg W.base (L2.CX W.P W.w) (n + 1) f fd ps (spF W.Z K' fi) := by
  have hle : d.nps ≤ d.nN := by
    have := congrArg List.length S.pre
    rw [List.length_take] at this
    omega
  refine fnA_of Fu S (fun vs H Q E h => (spF_len hK h).trans hp.symm) fun cdv A outer s H vs Q E qu hr h => ⟨tSs W.Z W.K E d.body, body cdv A outer s H E (gd_cx S qu hr), ?_⟩
  have hl := spF_len hK h
  obtain ⟨R0, as, f0, h⟩ := h
  have h : An W.Z E R0 (vs.map some) as H (PoV W.Z R0 (vs.map some) H) Q (noSlot (K'.fn fi as)) := h
  rw [hK] at h
  unfold runF at h
  have hal : as.length = d.nps := by rw [← f0.len, List.length_map, hl]
  rw [if_pos hal] at h
  have hk : N.length - vs.length = d.nN - d.nps := by rw [hN, hl]
  refine ⟨R0, as ++ List.replicate (d.nN - d.nps) .no, ?_, ?_⟩
  · unfold L2.start
    rw [hk]
    exact f0.ext _
  · unfold L2.start
    rw [hk]
    have cutL : ∀ {σ' : Sg} {q' : Fm} {H' : Hp} {R1 : Pr}, Lat (Ow (vs.map some ++ List.replicate (d.nN - d.nps) none) (as ++ List.replicate (d.nN - d.nps) .no)) H (Ow σ' q') H' → BKs (vs.map some ++ List.replicate (d.nN - d.nps) none) (as ++ List.replicate (d.nN - d.nps) .no) σ' q' → FR W.Z R1 σ' q' H' → d.nps ≤ q'.length →
        FR W.Z R1 (vs.map some) (lentBack d.nps q') H' ∧ Lat (Ow (vs.map some) as) H (Ow (vs.map some) (lentBack d.nps q')) H' ∧ BK as (lentBack d.nps q') ∧ ∀ b, Rt R1 (vs.map some) (lentBack d.nps q') b → Rt R1 σ' q' b := fun {σ' q' H' R1} l b f len => by
      have hq : vs.length ≤ q'.length := by rw [hl]; exact len
      obtain ⟨f2, ow, bk⟩ := f.cut hq b
      rw [hl] at f2 ow bk
      refine ⟨f2, ⟨fun c o hc n => l.kp c o hc fun z => n (ext_ow.mp z), fun c z => Or.elim (l.nw c (ow c z)) (fun z => .inl (ext_ow.mp z)) .inr, l.tr⟩, fun i hi => ?_, fun b z => Or.elim z .inl fun z => .inr (ow b z)⟩
      obtain ⟨t, h1, h2⟩ := bk i hi
      rcases ext_slot h1 with h1 | h1
      · exact ⟨t, h1, h2⟩
      · subst h1; cases h2
    cases e : evSs W.K d.body (as ++ List.replicate (d.nN - d.nps) .no) with
    | bad => rw [e] at h; exact h
    | brk _ => rw [e] at h; exact h.elim
    | cnt _ => rw [e] at h; exact h.elim
    | nx q' =>
      rw [e] at h
      dsimp only at h
      by_cases len : d.nps ≤ q'.length
      case neg => rw [if_neg len] at h; exact h.elim
      rw [if_pos len] at h
      intro σ' H' l b f
      obtain ⟨f2, l2, b2, up⟩ := cutL l b f len
      exact h .non H' l2 b2 ⟨f2, .non⟩
    | ret r q' =>
      rw [e] at h
      dsimp only at h
      by_cases len : d.nps ≤ q'.length
      case neg => rw [if_neg len] at h; exact h.elim
      rw [if_pos len] at h
      intro w σ' H' l b p
      cases r with
      | slot i =>
        have h : An W.Z E R0 (vs.map some) as H (PoV W.Z R0 (vs.map some) H) Q (noSlot (match q'[i]? with
          | some (.ow false d2) => if noOwA as then .ok (.new d2) (lentBack d.nps (q'.set i .no)) else .bad
          | _ => .bad)) := h
        obtain ⟨f, hw, bb, dd, hs⟩ := p
        rw [hs] at h
        cases bb with
        | true => exact h.elim
        | false =>
          cases hn : noOwA as with
          | false => rw [hn] at h; exact h.elim
          | true =>
            rw [hn] at h
            obtain ⟨a, ew, oa, f1, o1, l1, b1⟩ := f.give hw hs
            have h0 : H a = none := Or.elim (l.nw a oa) (fun z => absurd (ext_ow.mp z) (no_ow hn)) fun z => z
            obtain ⟨f2, l2, b2, up⟩ := cutL (l.trans l1) (b.trans b1) f1 (by rw [List.length_set]; exact len)
            exact h w H' l2 b2 ⟨a, ew, h0, f2, o1.lat (Lat.sub up) rfl⟩
      | val dd =>
        obtain ⟨f, rp⟩ := p
        obtain ⟨f2, l2, b2, up⟩ := cutL l b f len
        exact h w H' l2 b2 ⟨f2, rp.lat (Lat.sub up)⟩
      | new dd =>
        obtain ⟨a, ew, hn, f, o⟩ := p
        obtain ⟨f2, l2, b2, up⟩ := cutL l b f len
        exact h w H' l2 b2 ⟨a, ew, hn, f2, o.lat (Lat.sub up) rfl⟩
    | exc c ds q' =>
      rw [e] at h
      dsimp only at h
      intro d' σ' H' l b f x
      have lx : Lat (Ow σ' q') H' (Ow (σ' ++ List.replicate d.nps none) (q' ++ List.replicate d.nps .no)) H' := Lat.sub fun b z => ext_ow.mp z
      have bx : BKs σ' q' (σ' ++ List.replicate d.nps none) (q' ++ List.replicate d.nps .no) := fun i ⟨t, h1, h2⟩ => by
        rcases ext_slot h1 with h1 | h1
        · refine ⟨⟨t, h1, h2⟩, ?_⟩
          rw [List.getElem?_append_left (by rw [f.len]; exact (List.getElem?_eq_some_iff.mp h1).1)]
        · subst h1; cases h2
      obtain ⟨f2, l2, b2, up⟩ := cutL (l.trans lx) (b.trans bx) (f.ext d.nps) (by rw [List.length_append, List.length_replicate]; omega)
      exact h d' H' l2 b2 f2 (x.lat (Lat.sub fun b z => by
        rcases up b z with z | z
        · exact .inl z
        · exact .inr (ext_ow.mp z)))
/-! ### constructors -/
structure KP (σ : Sg) (q : Fm) (H H' : Hp) (x dx : Addr) : Prop where
  kp : ∀ b o, H b = some o → ¬ Ow σ q b → b ≠ x → b ≠ dx → NT o → H' b = some o
  tr : ∀ b, H b ≠ none → H' b ≠ none
def AnM (Z : Zc) (E : XK) (C : Addr) (R0 : Pr) (σ : Sg) (q : Fm) (H : Hp) (x dx : Addr) (D : Ends) : Res (List M.D) → Prop
  | .ok ds _ => ∀ w σ' H', KP σ q H H' x dx → Grd Z H' → H' x = some (SlO x C dx [some w]) → H' dx = some (.xd []) → RepL Z H' R0 [w] ds → D.nx σ' H'
  | .exc c ds _ => ∀ d H', KP σ q H H' x dx → Grd Z H' → XRep Z H' R0 c ds d → E (.ref (Z.C c)) d H'
  | .bad => False
/-- self stands at x, nothing stored as yet -/
structure Raw (C : Addr) (R0 : Pr) (σ : Sg) (H : Hp) (x dx : Addr) : Prop where
  s0 : σ[0]? = some (some (.ref x))
  hx : H x = some (.ins C dx [])
  hd : H dx = some (.own x)
  ne : dx ≠ x
  nx : R0 x
  nd : R0 dx
def tC (Z : Zc) (K : Calls) (E : XK) (C : Addr) (pre : Ss) (e : M.E) : TS := fun D σ H => ∃ R0 q x dx, FR Z R0 σ q H ∧ Raw C R0 σ H x dx ∧ AnM Z E C R0 σ q H x dx D (evM K e pre q)
def MC (W : Wo) (X : Cx) (ex : XK) (C : Addr) (st : List Stmt) (pre : Ss) (e : M.E) : Prop := PSs X st (tC W.Z W.K ex C pre e)
section
variable {Z : Zc} {K : Calls} {ex : XK} {R0 : Pr} {σ : Sg} {q : Fm} {H : Hp} {D : Ends} {C : Addr} {x dx : Addr} {e : M.E}
theorem Raw.not (r : Raw C R0 σ H x dx) (f : FR Z R0 σ q H) : ¬ Ow σ q x ∧ ¬ Ow σ q dx := by
  constructor <;> intro z
  · obtain ⟨xs, h⟩ := f.owT z
    rw [r.hx] at h; cases h
  · obtain ⟨xs, h⟩ := f.owT z
    rw [r.hd] at h; cases h
theorem KP.late {σ' : Sg} {q' : Fm} {H1 H' : Hp} (l : Lat (Ow σ q) H (Ow σ' q') H1) (k : KP σ' q' H1 H' x dx) : KP σ q H H' x dx := ⟨fun b o h n h1 h2 nt => k.kp b o (l.kp b o h n nt) (fun z => by
  rcases l.nw b z with z | z
  · exact n z
  · rw [h] at z; cases z) h1 h2 nt, fun b h => k.tr b (l.tr b h)⟩
theorem AnM.late {σ' : Sg} {q' : Fm} {H1 : Hp} (l : Lat (Ow σ q) H (Ow σ' q') H1) : ∀ {r : Res (List M.D)}, AnM Z ex C R0 σ q H x dx D r → AnM Z ex C R0 σ' q' H1 x dx D r
  | .ok _ _, h => fun w s2 H' k => h w s2 H' (KP.late l k)
  | .exc _ _ _, h => fun d H' k => h d H' (KP.late l k)
  | .bad, h => h
theorem tC_cons {s : S} {r : Ss} (h : tC Z K ex C (.cons s r) e D σ H) : tSeq (tS Z K ex s) (tC Z K ex C r e) D σ H := by
  obtain ⟨R0, q, x, dx, f, rw0, h⟩ := h
  refine ⟨R0, q, f, ?_⟩
  rw [show evM K e (.cons s r) q = (match evS K s q with
    | .nx q1 => if isPin q1[0]? then evM K e r q1 else .bad
    | .exc c ds q1 => .exc c ds q1
    | _ => .bad) from rfl] at h
  obtain ⟨n1, n2⟩ := rw0.not f
  cases e1 : evS K s q with
  | nx q1 =>
    rw [e1] at h
    intro σ' H' l b f'
    dsimp only at h
    cases hp : isPin q1[0]? with
    | false => rw [hp] at h; exact h.elim
    | true =>
      rw [hp] at h
      have hb : bor q1 0 := by
        unfold isPin at hp
        split at hp
        · rename_i heq
          exact ⟨.pin, heq, rfl⟩
        · cases hp
      refine ⟨R0, q1, x, dx, f', ⟨(b 0 hb).2.trans rw0.s0, l.kp _ _ rw0.hx n1 (fun _ z => nomatch z), l.kp _ _ rw0.hd n2 (fun _ z => nomatch z), rw0.ne, rw0.nx, rw0.nd⟩, AnM.late l h⟩
  | exc c ds q1 =>
    rw [e1] at h
    intro d σ' H' l b f' xr
    exact h d H' ⟨fun b o hb n _ _ nt => l.kp b o hb n nt, l.tr⟩ f'.tb (xr.lat (Lat.sub fun b z => .inl z))
  | bad => rw [e1] at h; exact h.elim
  | ret _ _ => rw [e1] at h; exact h.elim
  | brk _ => rw [e1] at h; exact h.elim
  | cnt _ => rw [e1] at h; exact h.elim
theorem tC_nil {K2 : PySem.W.Frag} {fn : Str} {p : Addr} (hK : K2 = Z.K) (sc : SCls Z.K C) (sl : Slot1 Z.K C fn p 0) (h : tC Z K ex C .nil e D σ H) : sSl K2 (tVar 0) (tE Z K ex e false) fn D σ H := by
  subst hK
  obtain ⟨R0, q, x, dx, f, rw0, h⟩ := h
  rw [show evM K e .nil q = bindR (ev K e false q) fun r q1 => match r.vd with
    | some d => .ok [d] q1
    | none => .bad from rfl] at h
  refine ⟨R0, q, f, ?_⟩
  obtain ⟨n1, n2⟩ := rw0.not f
  cases e1 : ev K e false q with
  | bad => rw [e1] at h; exact h.elim
  | exc c ds q1 =>
    rw [e1] at h
    intro d H' l b f' xr
    exact h d H' ⟨fun b o hb n _ _ nt => l.kp b o hb n nt, l.tr⟩ f'.tb (xr.lat (Lat.sub fun b z => .inl z))
  | ok r q1 =>
    rw [e1] at h
    have h : AnM Z ex C R0 σ q H x dx D (match r.vd with
      | some d => .ok [d] q1
      | none => .bad) := h
    intro w H' l b pv
    cases e2 : r.vd with
    | none => rw [e2] at h; exact h.elim
    | some d =>
      rw [e2] at h
      obtain ⟨f1, rv⟩ := pv.vd f e2
      have hx := l.kp _ _ rw0.hx n1 (fun _ z => nomatch z)
      have hd := l.kp _ _ rw0.hd n2 (fun _ z => nomatch z)
      have trS : ∀ b, H' b ≠ none → slH H' x C dx [some w] b ≠ none := fun b hb => by
        by_cases h1 : b = x
        · rw [h1]; unfold slH; rw [upd_same]; exact fun z => nomatch z
        · by_cases h2 : b = dx
          · rw [h2]; unfold slH; rw [upd_ne rw0.ne, upd_same]; exact fun z => nomatch z
          · rw [slH_ne h1 h2]; exact hb
      refine ⟨.ref x, rw0.s0, x, C, dx, p, [], 0, rfl, .inl ⟨hx, rfl⟩, sc, sl, h w σ _ ⟨fun b o hb n h1 h2 nt => ?_, fun b hb => trS b (l.tr b hb)⟩ (f1.tb.up fun b o hb g => ?_) ?_ ?_ (.cons ?_ .nil)⟩
      · rw [slH_ne h1 h2]; exact l.kp b o hb n nt
      · rw [slH_ne (fun z => by rw [z, hx] at hb; cases hb; exact g.ins rfl) (fun z => by rw [z, hd] at hb; cases hb; exact g.own rfl)]; exact hb
      · unfold slH; rw [upd_same]; rfl
      · unfold slH; rw [upd_ne rw0.ne, upd_same]
      · have lr : Lat (Rt R0 σ q1) H' R0 H' := Lat.sub fun b z => .inl z
        refine (rv.lat lr).lat ⟨fun b o hb n _ => ?_, fun b z => .inl z, trS⟩
        rw [slH_ne (fun z => n (by rw [z]; exact rw0.nx)) (fun z => n (by rw [z]; exact rw0.nd))]; exact hb
end
/-- a class: its __init__ -/
theorem mc_nil {W : Wo} {X : Cx} {ex : XK} {n c : Nat} {fn : Str} {A : M.E} {a : Expr} {x : Str} {p1 p2 pos : Pos} (g : Gd W n X ex) (S : Sd W c fn 0) (ha : ME W X ex a A) (hN : X.N[0]? = some x := by rfl) (hv : Vis X.env.scope x := by first | exact Or.inl rfl | exact Or.inr (Or.inl rfl) | exact Or.inr (Or.inr rfl)) (hd : (x == ("__debug__" : Str)) = false := by decide)
    (hcd : (x == ("__classdict__" : Str)) = false := by decide) (hs : swapsWith a (some (.Attribute (.Name x p1) fn p2)) pos.line X.env = pure false := by rfl) : MC W X ex (W.Z.C c) [.Assign [.Attribute (.Name x p1) fn p2] a pos] .nil A := by
  obtain ⟨p, sl⟩ := S.sl
  exact (pss_one (ps_sl (pe_var hN hv hd hcd) (ha false) hs)).imp fun _ _ _ h => tC_nil g.hK S.sc sl h
theorem mc_cons {W : Wo} {X : Cx} {ex : XK} {C : Addr} {st : Stmt} {sts : List Stmt} {s : S} {r : Ss} {e : M.E} (h1 : MS W X ex st s) (h2 : MC W X ex C sts r e) : MC W X ex C (st :: sts) (.cons s r) e := (pss_cons h1 h2).imp fun _ _ _ h => tC_cons h
theorem ini_ok {W : Wo} {n : Nat} {K' : Calls} {c : Nat} {d : CDef} {N ps : List Str} {x qual : Str} {st : Stmt} {f : Addr} {fd : FuncData} (hK : ∀ as, K'.cn c as = runM W.K d as) (Fu : L2.Fun W.Z.K x qual st f fd) (S : FnScope N ps (defScope st)) (hN : N.length = d.nN) (hp : ps.length = d.nps)
    (body : ∀ cdv A outer s H E, Gd W n (cxF W N qual (defScope st) f cdv A outer s H E) E → MC W (cxF W N qual (defScope st) f cdv A outer s H E) E (W.Z.C c) (defBody st) d.pre d.fs) : FnA W.P W.w W.Z.K W.mg W.base (L2.CX W.P W.w) (n + 1) f fd ps (spC W.Z K' c) := by
  have hlen : ∀ {vs H Q E}, spC W.Z K' c vs H Q E → vs.length = d.nps := fun {vs H Q E} h => by
    obtain ⟨x, dx, vs', R0, q, rfl, hx, hd, ne, r1, r2, f0, no, h⟩ := h
    rw [hK] at h
    unfold runM at h
    by_cases hl : q.length + 1 = d.nps
    · rw [List.length_cons, ← hl, ← f0.len, List.length_map]
    · rw [if_neg hl] at h; exact h.elim
  refine fnA_of Fu S (fun vs H Q E h => (hlen h).trans hp.symm) fun cdv A outer s H vs Q E qu hr h => ⟨tC W.Z W.K E (W.Z.C c) d.pre d.fs, body cdv A outer s H E (gd_cx S qu hr), ?_⟩
  have hl := hlen h
  obtain ⟨x, dx, vs', R0, q, rfl, hx, hd, ne, r1, r2, f0, no, h⟩ := h
  rw [hK] at h
  unfold runM at h
  have hq : q.length + 1 = d.nps := by rw [← hl, List.length_cons, ← f0.len, List.length_map]
  rw [if_pos hq] at h
  have hk : N.length - (V.ref x :: vs').length = d.nN - d.nps := by rw [hN, hl]
  have es : L2.start N (V.ref x :: vs') = (some (V.ref x) :: vs'.map some) ++ List.replicate (d.nN - d.nps) none := by
    unfold L2.start
    rw [hk]; rfl
  rw [es]
  have nOw : ∀ b, ¬ Ow ((some (V.ref x) :: vs'.map some) ++ List.replicate (d.nN - d.nps) none) ((Slot.pin :: q) ++ List.replicate (d.nN - d.nps) .no) b := fun b z => by
    obtain ⟨i, b', dd, h1, _⟩ := pin_ow.mp (ext_ow.mp z)
    exact no i b' dd h1
  refine ⟨R0, (Slot.pin :: q) ++ List.replicate (d.nN - d.nps) .no, x, dx, (f0.pin _).ext _, ⟨rfl, hx, hd, ne, r1, r2⟩, ?_⟩
  cases e : evM W.K d.fs d.pre (.pin :: q ++ List.replicate (d.nN - d.nps) .no) with
  | bad => rw [e] at h; exact h.elim
  | exc c' ds q' =>
    rw [e] at h
    intro dd H' k gr x2
    exact h dd H' ⟨fun b o hb n1 n2 nt => k.kp b o hb (nOw b) n1 n2 nt, k.tr⟩ gr x2
  | ok ds q' =>
    rw [e] at h
    intro w σ' H' k gr h1 h2 h3
    exact h [w] H' ⟨fun b o hb n1 n2 nt => k.kp b o hb (nOw b) n1 n2 nt, k.tr⟩ gr h1 h2 h3
end M

set_option Elab.async false
set_option linter.all false
set_option maxRecDepth 100000
set_option maxHeartbeats 4000000
/-! B1: list(zip(*rows)), rows of one length. -/
namespace M
open PySem L2 PyProof.Rows

structure Src where
  b : Bool
  a : Addr
  items : Array Value
def TupAt (h : Heap) (T : Addr) (vs : Array Value) : Prop := h.get? T = some { cls := .type "tuple", data := .seq vs }
def itsL (N n : Nat) : List Value := (List.range n).map fun k => .ref (N + k)
def Lo (N : Nat) (rows : List Src) : Prop := ∀ (k : Nat) (r : Src), rows[k]? = some r → r.a < N
def Rs (h : Heap) (N : Nat) (rows : List Src) (pos : Nat → Nat) : Prop := ∀ (k : Nat) (r : Src), rows[k]? = some r → IterX r.b h (N + k) r.a (pos k) ∧ SeqX r.b h r.a r.items
theorem SeqX.at_ {b : Bool} {h h' : Heap} {a : Addr} {items : Array Value} (x : SeqX b h a items) (k : ∀ o, h.get? a = some o → h'.get? a = some o) : SeqX b h' a items := by
  cases b with
  | true => exact Heap.IsTuple.at x k
  | false => exact Heap.IsList.at x k
section
variable {prog : Program} {w : World} {A : Around} {E : Value → Shared → Prop} {s : Shared} {N n i : Nat} {rows : List Src}
/-- the zip over n rows: its iterators at N .., then TI, TO, the zip -/
structure ZS (h : Heap) (N : Nat) (rows : List Src) (pos : Nat → Nat) : Prop where
  ti : TupAt h (N + rows.length) (itsL N rows.length).toArray
  rs : Rs h N rows pos
  lo : Lo N rows
abbrev ZAt (h : Heap) (N n : Nat) (f0 : Value) : Prop := IsZip h (N + n + 2) (N + n) (N + n + 1) f0
/-- one iterator goes on -/
theorem Rs.step {h h' : Heap} {k : Nat} {r : Src} {pos : Nat → Nat} (z : Rs h N rows pos) (lo : Lo N rows) (e : rows[k]? = some r) (st : IterX r.b h' (N + k) r.a (pos k + 1)) (sb : Heap.SameBut (N + k) h h') :
    Rs h' N rows (fun j => if j = k then pos k + 1 else pos j) := fun j r2 e2 => by
  obtain ⟨h1, h2⟩ := z j r2 e2
  have hk : r2.a ≠ N + k := Nat.ne_of_lt (Nat.lt_of_lt_of_le (lo j r2 e2) (Nat.le_add_right _ _))
  refine ⟨?_, h2.at_ fun o q => sb.extBut _ _ hk q⟩
  by_cases hj : j = k
  · subst hj
    rw [e] at e2; cases e2
    show IterX r.b h' (N + j) r.a (if j = j then pos j + 1 else pos j)
    rw [if_pos rfl]; exact st
  · show IterX r2.b h' (N + j) r2.a (if j = k then pos k + 1 else pos j)
    rw [if_neg hj]
    have hj2 : N + j ≠ N + k := fun z => hj (Nat.add_left_cancel z)
    exact h1.at_ fun o q => sb.extBut _ _ hj2 q
theorem Rs.over {h h' : Heap} {pos : Nat → Nat} {x : Addr} (z : Rs h N rows pos) (lo : Lo N rows) (sb : ∀ b o, b ≠ x → h.get? b = some o → h'.get? b = some o) (hx : N + rows.length ≤ x) : Rs h' N rows pos := fun j r e => by
  obtain ⟨h1, h2⟩ := z j r e
  have hj : j < rows.length := (List.getElem?_eq_some_iff.mp e).1
  have h3 : (r.a : Nat) < N := lo j r e
  have e1 : (N + j : Nat) ≠ x := fun z => by rw [← z] at hx; exact absurd hx (by omega)
  have e2 : r.a ≠ x := Nat.ne_of_lt (Nat.lt_of_lt_of_le h3 (Nat.le_trans (Nat.le_add_right _ _) hx))
  exact ⟨h1.at_ fun o q => sb _ _ e1 q, h2.at_ fun o q => sb _ _ e2 q⟩
end
/-! ### pyNext -/
section
variable {prog : Program} {w : World} {A : Around} {E : Value → Shared → Prop} {s : Shared} {N n i : Nat} {rows : List Src}
end
end M

set_option Elab.async false
set_option linter.all false
set_option maxRecDepth 100000
set_option maxHeartbeats 4000000
/-! B2: the zip begins; the list that takes it. -/
namespace M
open PySem L2 PyProof.Rows
section
variable {prog : Program} {w : World} {A : Around} {E : Value → Shared → Prop} {s : Shared} {N n i : Nat} {rows : List Src}
end
end M

set_option Elab.async false
set_option linter.all false
set_option maxRecDepth 100000
set_option maxHeartbeats 4000000
/-! B3: list(zip). -/
namespace M
open PySem L2 PyProof.Rows
section
variable {prog : Program} {w : World} {A : Around} {E : Value → Shared → Prop} {s : Shared} {N n i : Nat} {rows : List Src} {R : Result → Shared → Prop} {S m : Nat}
def LstAt (h : Heap) (S : Addr) (acc : Array Value) : Prop := ∃ c, h.get? S = some { cls := .type "list", dict := none, data := .seq acc c, slots := #[] }
structure XL (hp h : Heap) (N S : Nat) (rows : List Src) (j : Nat) (acc : Array Value) : Prop where
  zs : ZS h N rows (fun _ => j)
  fl : (j = 0 ∧ ZAt h N rows.length .none ∧ ∃ vs, TupAt h (N + rows.length + 1) vs ∧ vs.size = rows.length) ∨ ∃ T oT f, IsZipHeld h (N + rows.length + 2) (N + rows.length) (N + rows.length + 1) T f ∧ h.get? T = some oT ∧ N + rows.length + 2 < T ∧ T ≠ S
  ls : LstAt h S acc
  sz : acc.size = j
  it : ∀ j', j' < j → ∃ (T : Nat) (xs : Array Value), acc[j']? = some (.ref T) ∧ N + rows.length + 2 < T ∧ T ≠ S ∧ TupAt h T xs ∧ xs.size = rows.length ∧ ∀ (k : Nat) (r : Src), rows[k]? = some r → xs[k]? = r.items[j']?
  kp : ∀ (c : Nat) o, c < N → hp.get? c = some o → h.get? c = some o
  hi : N + rows.length + 2 < S
  lt : S < h.objs.size
/-- at the end -/
structure XE (hp h : Heap) (N S : Nat) (rows : List Src) (m : Nat) (acc : Array Value) : Prop where
  ls : LstAt h S acc
  sz : acc.size = m
  it : ∀ j', j' < m → ∃ (T : Nat) (xs : Array Value), acc[j']? = some (.ref T) ∧ N + rows.length + 2 < T ∧ T ≠ S ∧ TupAt h T xs ∧ xs.size = rows.length ∧ ∀ (k : Nat) (r : Src), rows[k]? = some r → xs[k]? = r.items[j']?
  kp : ∀ (c : Nat) o, c < N → hp.get? c = some o → h.get? c = some o
theorem XL.fin {hp h h' : Heap} {j : Nat} {acc : Array Value} (x : XL hp h N S rows j acc) (k : ∀ (c : Nat) o, c < N ∨ N + rows.length + 2 < c → h.get? c = some o → h'.get? c = some o) : XE hp h' N S rows j acc := by
  obtain ⟨c, e⟩ := x.ls
  refine ⟨⟨c, k S _ (.inr x.hi) e⟩, x.sz, fun j' hj => ?_, fun c o hc e => k c o (.inl hc) (x.kp c o hc e)⟩
  obtain ⟨T, xs, y1, y2, y3, y4, y5, y6⟩ := x.it j' hj
  exact ⟨T, xs, y1, y2, y3, k T _ (.inr y2) y4, y5, y6⟩
theorem XL.next {hp h h' h2 : Heap} {j T : Nat} {acc xs : Array Value} (x : XL hp h N S rows j acc) (z : ZS h' N rows (fun _ => j + 1)) (f : ∃ T' oT f, IsZipHeld h' (N + rows.length + 2) (N + rows.length) (N + rows.length + 1) T' f ∧ h'.get? T' = some oT ∧ N + rows.length + 2 < T' ∧ T' ≠ S)
    (hT : TupAt h' T xs) (eT : T = h.objs.size) (hx : xs.size = rows.length) (hxi : ∀ (k : Nat) (r : Src), rows[k]? = some r → xs[k]? = r.items[j]?) (sz : h'.objs.size = h.objs.size + 1) (k : ∀ (c : Nat) o, c < N ∨ N + rows.length + 2 < c → h.get? c = some o → h'.get? c = some o)
    (sb : ∀ b o, b ≠ S → h'.get? b = some o → h2.get? b = some o) (l2 : LstAt h2 S (acc.push (.ref T))) (s2 : h2.objs.size = h'.objs.size) : XL hp h2 N S rows (j + 1) (acc.push (.ref T)) := by
  have hS := x.hi
  have hTS : T ≠ S := by have := x.lt; omega
  have hTN : N + rows.length + 2 < T := by have := x.lt; omega
  refine ⟨⟨sb _ _ (show (N + rows.length : Nat) ≠ S by omega) z.ti, z.rs.over z.lo (fun b o hb e => sb b o hb e) (by omega), z.lo⟩, .inr ?_, l2, by rw [Array.size_push, x.sz], fun j' hj => ?_, fun c o hc e => sb c o (show (c : Nat) ≠ S by omega) (k c o (.inl hc) (x.kp c o hc e)), hS, ?_⟩
  · obtain ⟨T', oT, f, f1, f2, f3, f4⟩ := f
    exact ⟨T', oT, f, sb _ _ (show (N + rows.length + 2 : Nat) ≠ S by omega) f1, sb _ _ f4 f2, f3, f4⟩
  · by_cases e : j' = j
    · subst e
      refine ⟨T, xs, ?_, hTN, hTS, sb _ _ hTS hT, hx, hxi⟩
      rw [← x.sz]
      exact Array.getElem?_push_size
    · obtain ⟨T1, ys, y1, y2, y3, y4, y5, y6⟩ := x.it j' (by omega)
      refine ⟨T1, ys, ?_, y2, y3, sb _ _ y3 (k T1 _ (.inr y2) y4), y5, y6⟩
      have hlt : j' < acc.size := by rw [x.sz]; omega
      rw [Array.getElem?_push_lt hlt, ← y1]
      exact (Array.getElem?_eq_getElem hlt).symm
  · rw [s2, sz]; have := x.lt; omega
end
end M

set_option Elab.async false
set_option linter.all false
set_option maxRecDepth 100000
set_option maxHeartbeats 4000000
/-! B4: list(zip(*e)) as an expression. -/
namespace M
open PySem L2 PyProof.Rows
section
variable {Mo : Model} {A : Around} {E : Value → Shared → Prop} {s : Shared} {env : Env} {pos p : Pos} {Q : Value → Shared → Prop}
end
section
variable {X : Cx} {pins : List (Addr × Obj)} {σ : Sg} {H H' : Hp} {s : Shared}
end
/-! ### the reading -/
section
variable {Z : Zc} {H : Hp} {R : Pr}
end
end M

set_option Elab.async false
set_option linter.all false
set_option maxRecDepth 100000
set_option maxHeartbeats 4000000
/-! B5: from level to level; the law's own promise. -/
namespace M
open PySem L2 PyProof.Rows SlX

/-- a def of the text at a -/
structure Df (K : PySem.W.Frag) (x qual : Str) (st : Stmt) (ps : List Str) (a : Addr) : Prop where
  ex : ∃ fd, L2.Fun K x qual st a fd ∧ Binds K fd ps []
/-- .. called with names -/
structure Dk (K : PySem.W.Frag) (x qual : Str) (st : Stmt) (ps : List Str) (a : Addr) (m : Nat) (ks : List Str) (pm : List Nat) : Prop where
  ex : ∃ fd, L2.Fun K x qual st a fd ∧ KB K fd ps m ks pm
abbrev Wo.up (W : Wo) (K : Calls) : Wo := { W with K := K }
theorem spF_zero {Z : Zc} {t : Tab} {f : Nat} {vs : List V} {H : Hp} {Q : VK} {E : XK} (h : spF Z (calls t 0) f vs H Q E) : False := by
  obtain ⟨R0, q, f0, h⟩ := h
  exact h
theorem spC_zero {Z : Zc} {t : Tab} {f : Nat} {vs : List V} {H : Hp} {Q : VK} {E : XK} (h : spC Z (calls t 0) f vs H Q E) : False := by
  obtain ⟨x, dx, vs', R0, q, _, _, _, _, _, _, _, _, h⟩ := h
  exact h
section
variable {W : Wo} {t : Tab} {j n f c : Nat} {d : FDef} {cd : CDef} {N ps : List Str} {x qual : Str} {st : Stmt} {a : Addr}
theorem fnr_zero : FnG W.P W.w W.Z.K W.mg W.base (L2.CX W.P W.w) n a (spF W.Z (calls t 0) f) := fun _ _ _ _ _ _ _ _ _ _ _ _ h => (spF_zero h).elim
theorem fnr_next (hW : W.K = calls t j) (ht : t.fn.lookup f = some d) (D : Df W.Z.K x qual st ps a) (S : FnScope N ps (defScope st)) (hN : N.length = d.nN) (hp : ps.length = d.nps)
    (body : ∀ cdv A outer s H E, Gd W n (cxF W N qual (defScope st) a cdv A outer s H E) E → MSs W (cxF W N qual (defScope st) a cdv A outer s H E) E (defBody st) d.body) : FnG W.P W.w W.Z.K W.mg W.base (L2.CX W.P W.w) (n + 1) a (spF W.Z (calls t (j + 1)) f) := by
  obtain ⟨fd, F, hb⟩ := D.ex
  refine FnA.pos (fn_ok (W := W) (K' := calls t (j + 1)) (fi := f) (d := d) (fun as => ?_) F S hN hp body) hb
  show (match t.fn.lookup f with | some d => runF (calls t j) d as | none => .bad) = _
  rw [ht, hW]
theorem fno_next (hW : W.K = calls t j) (ht : t.fn.lookup f = some d) {fd : FuncData} (F : L2.Fun W.Z.K x qual st a fd) (S : FnScope N ps (defScope st)) (hN : N.length = d.nN) (hp : ps.length = d.nps)
    (body : ∀ cdv A outer s H E, Gd W n (cxF W N qual (defScope st) a cdv A outer s H E) E → MSs W (cxF W N qual (defScope st) a cdv A outer s H E) E (defBody st) d.body) : FnA W.P W.w W.Z.K W.mg W.base (L2.CX W.P W.w) (n + 1) a fd ps (spF W.Z (calls t (j + 1)) f) := by
  refine fn_ok (W := W) (K' := calls t (j + 1)) (fi := f) (d := d) (fun as => ?_) F S hN hp body
  show (match t.fn.lookup f with | some d => runF (calls t j) d as | none => .bad) = _
  rw [ht, hW]
theorem fnc_zero : FnG W.P W.w W.Z.K W.mg W.base (L2.CX W.P W.w) n a (spC W.Z (calls t 0) c) := fun _ _ _ _ _ _ _ _ _ _ _ _ h => (spC_zero h).elim
theorem fnc_next (hW : W.K = calls t j) (ht : t.cn.lookup c = some cd) (D : Df W.Z.K x qual st ps a) (S : FnScope N ps (defScope st)) (hN : N.length = cd.nN) (hp : ps.length = cd.nps)
    (body : ∀ cdv A outer s H E, Gd W n (cxF W N qual (defScope st) a cdv A outer s H E) E → MC W (cxF W N qual (defScope st) a cdv A outer s H E) E (W.Z.C c) (defBody st) cd.pre cd.fs) : FnG W.P W.w W.Z.K W.mg W.base (L2.CX W.P W.w) (n + 1) a (spC W.Z (calls t (j + 1)) c) := by
  obtain ⟨fd, F, hb⟩ := D.ex
  refine FnA.pos (ini_ok (W := W) (K' := calls t (j + 1)) (c := c) (d := cd) (fun as => ?_) F S hN hp body) hb
  show (match t.cn.lookup c with | some d => runM (calls t j) d as | none => .bad) = _
  rw [ht, hW]
theorem fnck_zero {m : Nat} {ks : List Str} {pm : List Nat} : FnK W.P W.w W.Z.K W.mg W.base (L2.CX W.P W.w) n a m ks pm (spC W.Z (calls t 0) c) := fun _ _ _ _ _ _ _ _ _ _ _ _ _ _ _ _ _ h => (spC_zero h).elim
theorem fnck_next {m : Nat} {ks : List Str} {pm : List Nat} (hW : W.K = calls t j) (ht : t.cn.lookup c = some cd) (D : Dk W.Z.K x qual st ps a m ks pm) (S : FnScope N ps (defScope st)) (hN : N.length = cd.nN) (hp : ps.length = cd.nps)
    (body : ∀ cdv A outer s H E, Gd W n (cxF W N qual (defScope st) a cdv A outer s H E) E → MC W (cxF W N qual (defScope st) a cdv A outer s H E) E (W.Z.C c) (defBody st) cd.pre cd.fs) : FnK W.P W.w W.Z.K W.mg W.base (L2.CX W.P W.w) (n + 1) a m ks pm (spC W.Z (calls t (j + 1)) c) := by
  obtain ⟨fd, F, hb⟩ := D.ex
  refine FnA.kws (ini_ok (W := W) (K' := calls t (j + 1)) (c := c) (d := cd) (fun as => ?_) F S hN hp body) hb
  show (match t.cn.lookup c with | some d => runM (calls t j) d as | none => .bad) = _
  rw [ht, hW]
end
/-- the law's promise: a list of at most 63 ints, True comes out -/
def spLaw (K : PySem.W.Frag) (T : List (Addr × Str)) : Sp := fun vs H Q _ => ∃ (a : Addr) (ns : List Int), vs = [.ref a] ∧ SqL K H a (ns.map V.int) ∧ ns.length ≤ 63 ∧ (∀ z ∈ ns, Builtin.Int.intBits z ≤ 1048576) ∧ (LamX.Tabs T H ∧ (∃ o, H sysModules = some (.frz o (.own 0))) ∧ K.lookup sysModules = none) ∧ ∀ H', Q (.bl true) H'
def scr (ns : List Int) : D := .lst (ns.map D.int)
theorem rep_scr {Z : Zc} {H : Hp} {R : Pr} : ∀ ns : List Int, RepL Z H R (ns.map V.int) (ns.map D.int)
  | [] => .nil
  | n :: ns => .cons (.int n) (rep_scr ns)
theorem law_of {Z : Zc} {t : Tab} {J f : Nat} (plain : ∀ ns : List Int, ns.length ≤ 63 → (∀ z ∈ ns, Builtin.Int.intBits z ≤ 1048576) → ∃ q, (calls t J).fn f [.sh false (scr ns)] = .ok (.val (.bl true)) q)
    {vs : List V} {H : Hp} {Q : VK} {E : XK} (h : spLaw Z.K Z.T vs H Q E) : spF Z (calls t J) f vs H Q E := by
  obtain ⟨a, ns, rfl, hS, hl, hb, gr, k⟩ := h
  obtain ⟨q', e⟩ := plain ns hl hb
  have nOw : ∀ {b : Addr}, ¬ Ow [some (V.ref a)] [Slot.sh false (scr ns)] b := fun {b} ⟨i, b', d, h1, h2⟩ => by
    cases i with
    | zero => simp at h1
    | succ i => simp at h1
  refine ⟨fun _ => False, [.sh false (scr ns)], ⟨rfl, ⟨gr.1, gr.2.1, gr.2.2⟩, fun b h => h.elim, fun i b d h1 => ?_, fun i b d h1 => ?_, fun i j b b' d d' c h1 => ?_⟩, ?_⟩
  · cases i with
    | zero =>
      have : Slot.sh false (scr ns) = .sh b d := by simpa using h1
      injection this with e1 e2
      subst e1 e2
      refine ⟨.ref a, rfl, .lst ?_ (rep_scr ns)⟩
      rcases hS with hS | hS
      · exact .inl ⟨hS, fun z => Or.elim z (fun z => z) nOw⟩
      · exact .inr hS
    | succ i => simp at h1
  · cases i with
    | zero => simp at h1
    | succ i => simp at h1
  · cases i with
    | zero => simp at h1
    | succ i => simp at h1
  · show An Z E _ _ _ H _ Q (noSlot ((calls t J).fn f [.sh false (scr ns)]))
    rw [e]
    intro w H' l b p
    obtain ⟨_, r⟩ := p
    cases r
    exact k H'
end M

set_option Elab.async false
set_option linter.all false
set_option maxRecDepth 100000
set_option maxHeartbeats 4000000
/-! W1: the law's own call, where nothing is being shown. -/
namespace M
open PySem L2 PyProof.Rows SlX PySem.Spec
section
variable {P : Program} {w : World} {K : PySem.W.Frag} {mg mb : Str → Option Value} {CX : CXT} {k : Nat} {fa a : Addr} {fd : FuncData} {x : Str} {sp : Sp} {s1 : Shared} {vs : List Value} {ns : List Int}
/-- the end of the law's call -/
def LEnd (s1 : Shared) (r : Result) (s2 : Shared) : Prop := r = .ok (.ret (.bool true)) ∧ OldK s1.heap s2.heap ∧ s2.os = s1.os ∧ AllBare s2.gens
theorem lend_of {H : Hp} {r : Result} {s2 : Shared} {ts : List Addr} (only : ∀ b, H b = none ∨ (b ∈ ts ∧ H b = some (.tbl #[])) ∨ ∃ o u, H b = some (.frz o u)) (hC : ∀ b ∈ ts, PySem.isCodeTable s1.heap b) (ok1 : HOk P w H s1.heap)
    (no : ∀ e, CX [] H s1 (fun _ _ _ => False) e s2 → False) (h : CR CX [] P w H s1 (fun v _ => v = .bl true) (fun _ _ _ => False) r s2) : LEnd s1 r s2 := by
  cases r with
  | error e => exact (no e h).elim
  | ok fl =>
    cases fl with
    | ret u =>
      obtain ⟨v, H2, os, bare, un, ok2, rv, ev⟩ := h
      have ev : v = .bl true := ev
      subst ev
      obtain rfl : u = Value.bool true := rv
      have key : ∀ b o, s1.heap.get? b = some o → (b ∈ ts ∧ H b = some (.tbl #[])) ∨ s2.heap.get? b = some o := fun b o e => by
        rcases only b with z | z | ⟨ob, u, z⟩
        · exact .inr (un.keep b o e z (by intro z; exact absurd (show b ∈ ([] : List Addr) from z) (by simp)) (by simp))
        · exact .inl z
        · obtain ⟨e1, _⟩ := ok1 b _ z
          obtain ⟨e2, _⟩ := ok2 b _ (un.frzs b ob _ z)
          rw [e] at e1; cases e1
          exact .inr e2
      refine ⟨rfl, ⟨fun b o e => ?_, fun b o e => ?_⟩, os, bare⟩
      · rcases key b o e with ⟨hb, z⟩ | z
        · obtain ⟨more, z2⟩ := un.tbls b #[] z
          have e1 : s1.heap.get? b = some { cls := .none, data := .fields #[] } := ok1 b _ z
          have e2 := ok2 b _ z2
          rw [e] at e1; cases e1
          exact .inr (.inl ⟨hC b hb, rfl, #[], more, rfl, e2⟩)
        · exact .inl z
      · rcases key b o e with ⟨hb, z⟩ | z
        · obtain ⟨more, z2⟩ := un.tbls b #[] z
          exact ⟨_, ok2 b _ z2⟩
        · exact ⟨o, z⟩
    | next => exact h.elim
    | brk => exact h.elim
    | cont => exact h.elim
/-- what is said of the code objects that make lambdas, and of their tables -/
structure CsOk (K : PySem.W.Frag) (h : Heap) (cs : List (Addr × Addr)) : Prop where
  e : ∀ p ∈ cs, h.get? p.2 = some { cls := .none, data := .fields #[] }
  n : ∀ p ∈ cs, K.lookup p.2 = none
  c : ∀ p ∈ cs, PySem.W.CodeHd h p.1 p.2
theorem law_callA {cs : List (Addr × Addr)} (KX : K.In s1.heap) (hns : s1.heap.Ns mainGlobals mg) (hb : s1.heap.Ns builtinsNs mb) (hbb : ∀ x : Str, x ≠ "__name__" → mb x = bootBuiltins x) (hlim : s1.heap.NoLimit) (hg : s1.gens = #[])
    (hbm : ∃ (bm : Addr) (ob : Obj), mg "__builtins__" = some (.ref bm) ∧ bm ≠ builtinsNs ∧ s1.heap.get? bm = some ob ∧ ob.cls = .type "module" ∧ ob.dict = some builtinsNs ∧ ob.data = .plain)
    (hcs : CsOk K s1.heap cs) (ks : K.lookup sysModules = none) (hsys : ∃ mm, s1.heap.Ns sysModules mm ∧ mm "_pylong" = none)
    (ha : s1.heap.get? a = some { cls := .type "list", data := .seq vs.toArray }) (hi : IntsAre vs ns) (hl : ns.length ≤ sizeLine) (hr : Room k callerA) (F : ∀ base : Heap, K.In base → base.Ns mainGlobals mg → (∀ p ∈ cs, LamX.TabB base mg p.1 p.2) → FnA P w K mg base CX k fa fd [x] sp)
    (bind : ∀ (s : Shared) (u : Value), BindsTo s fd ⟨[u], []⟩ [(x, u)])
    (hsp : ∀ H : Hp, (∀ p ∈ cs, H p.2 = some (.tbl #[])) → (∃ o, H sysModules = some (.frz o (.own 0))) → SqL K H a (ns.map V.int) → sp [.ref a] H (fun v _ => v = .bl true) fun _ _ _ => False)
    (no : ∀ H e s2, CX [] H s1 (fun _ _ _ => False) e s2 → False) : codeAny (model P w) callerA (.call (.ref fa) ⟨[.ref a], []⟩) (LEnd s1) s1 := by
  obtain ⟨_, ⟨o1, es1, ep1, ho1, hd1, _⟩, _⟩ := hsys
  have hsa : a ≠ sysModules := fun z => by
    rw [z, ho1] at ha
    cases ha
    cases hd1
  have memT : ∀ p ∈ cs, p.2 ∈ cs.map (·.2) := fun p hp => List.mem_map.mpr ⟨p, hp, rfl⟩
  have isT : ∀ b : Addr, b ∈ cs.map (·.2) → s1.heap.get? b = some { cls := .none, data := .fields #[] } ∧ K.lookup b = none ∧ b ≠ sysModules := fun b hb => by
    obtain ⟨p, hp, e⟩ := List.mem_map.mp hb
    rw [← e]
    exact ⟨hcs.e p hp, hcs.n p hp, fun z => by
      have q := hcs.e p hp
      rw [z, ho1] at q
      cases q
      cases hd1⟩
  have aT : a ∉ cs.map (·.2) := fun z => by
    have q := (isT a z).1
    rw [ha] at q
    have z' : Data.seq vs.toArray _ = Data.fields #[] := congrArg Obj.data (Option.some.inj q)
    cases z'
  -- from an abstract heap
  have core : ∀ H : Hp, (∀ b u, H b = some u → (b = sysModules ∧ u = .frz o1 (.own 0)) ∨ (b ∈ cs.map (·.2) ∧ u = .tbl #[]) ∨ (b = a ∧ K.lookup a = none ∧ u = .frz { cls := .type "list", data := .seq vs.toArray } (.lst (ns.map V.int)))) →
      H sysModules = some (.frz o1 (.own 0)) → (∀ p ∈ cs, H p.2 = some (.tbl #[])) → SqL K H a (ns.map V.int) → codeAny (model P w) callerA (.call (.ref fa) ⟨[.ref a], []⟩) (LEnd s1) s1 := by
    intro H hH hs hT hS
    have hok : HOk P w H s1.heap := fun b u z => by
      rcases hH b u z with ⟨rfl, rfl⟩ | ⟨hb, rfl⟩ | ⟨rfl, _, rfl⟩
      · exact ⟨ho1, o1, ho1⟩
      · exact (isT b hb).1
      · exact ⟨ha, by rw [List.length_map]; exact hl, vs, _, vals_ints hi, ha⟩
    have free : ∀ {b : Addr} {o : Obj}, s1.heap.get? b = some o → b ≠ sysModules → (∀ vs n, o.data ≠ .seq vs n) → o.data ≠ .fields #[] → H b = none := fun {b o} e n1 n2 n3 => by
      cases q : H b with
      | none => rfl
      | some u =>
        rcases hH b u q with ⟨rfl, _⟩ | ⟨hb, _⟩ | ⟨rfl, _, _⟩
        · exact absurd rfl n1
        · rw [(isT b hb).1] at e; cases e; exact absurd rfl n3
        · rw [ha] at e; cases e; exact absurd rfl (n2 _ _)
    have nsB : ∀ {b : Addr} {m : Str → Option Value}, s1.heap.Ns b m → b ≠ sysModules → (hidT s1.heap H).Ns b m := fun {b m} ⟨o, es, ep, e, d, r⟩ hb => ⟨o, es, ep, hidT_get e (free e hb (fun vs n z => by rw [d] at z; cases z) fun z => by rw [d] at z; cases z), d, r⟩
    have kB : K.In (hidT s1.heap H) := fun b o e => hidT_get (KX b o e) (by
      cases q : H b with
      | none => rfl
      | some u =>
        rcases hH b u q with ⟨rfl, _⟩ | ⟨hb, _⟩ | ⟨rfl, hk, _⟩
        · rw [ks] at e; cases e
        · rw [(isT b hb).2.1] at e; cases e
        · rw [hk] at e; cases e)
    have e0 : Env0 P w K mg (hidT s1.heap H) callerA [] s1 H := by
      refine ⟨rfl, ⟨kB, nsB hns (by decide), ⟨mb, nsB hb (by decide), hbb⟩, ?_⟩, fun b o e => of_hidT e, Nat.le_of_eq (hidT_size _ _), trivial, fun b hb => ?_, hok, .of_eq hg⟩
      · obtain ⟨mc, h1, h2⟩ := hlim
        exact ⟨mc, nsB h1 (by decide), h2⟩
      · exact absurd (show b ∈ ([] : List Addr) from hb) (by simp)
    have TB : ∀ p ∈ cs, LamX.TabB (hidT s1.heap H) mg p.1 p.2 := fun p hp => by
      have hTp := hcs.e p hp
      refine ⟨?_, ?_, fun z => ?_⟩
      · obtain ⟨o, us, file, tf, flags, tg, inF, text, tt, e1, r1, r2, r3, r4, r5, r6, r7, r8, hne⟩ := hcs.c p hp
        refine ⟨o, us, file, tf, flags, tg, inF, text, tt, hidT_get e1 (free e1 (fun z => by rw [z, ho1] at e1; cases e1; rw [hd1] at r2; cases r2) (fun vs n z => ?_) fun z => ?_), r1, r2, r3, r4, r5, r6, r7, r8, hne⟩
        · rw [r2] at z; cases z
        · rw [r2] at z
          cases z
          simp at r3
      · obtain ⟨bm, ob, b1, b2, b3, b4, b5, b6⟩ := hbm
        have c2 : bm ≠ sysModules := fun z => by rw [z, ho1] at b3; cases b3; rw [hd1] at b6; cases b6
        have nG : bm ≠ mainGlobals := fun q => by
          obtain ⟨o, es, ep, e, hd, _⟩ := hns
          rw [q, e] at b3
          cases b3
          rw [hd] at b6
          cases b6
        have nP : bm ≠ p.2 := fun q => by
          rw [q, hTp] at b3
          cases b3
          cases b6
        refine ⟨bm, ob, b1, b2, nG, nP, hidT_get b3 (free b3 c2 (fun vs n z => ?_) fun z => ?_), b4, b5, b6⟩
        · rw [b6] at z; cases z
        · rw [b6] at z; cases z
      · obtain ⟨o, es, ep, e, hd, _⟩ := hns
        rw [z, hTp] at e
        cases e
        cases hd
    refine codeAny_mono ((F _ kB (nsB hns (by decide)) TB).run callerA [] s1 H ⟨[.ref a], []⟩ [.ref a] [.ref a] _ _ rfl hr e0 (bind s1 (.ref a)) (.cons rfl .nil) (hsp H hT ⟨o1, hs⟩ hS)) fun r s2 z => lend_of (ts := cs.map (·.2)) (fun b => ?_) (fun b hb => ?_) hok (fun e => no H e s2) z
    · cases q : H b with
      | none => exact .inl rfl
      | some u =>
        rcases hH b u q with ⟨_, rfl⟩ | ⟨hb, rfl⟩ | ⟨_, _, rfl⟩
        · exact .inr (.inr ⟨_, _, rfl⟩)
        · exact .inr (.inl ⟨hb, rfl⟩)
        · exact .inr (.inr ⟨_, _, rfl⟩)
    · obtain ⟨p, hp, e⟩ := List.mem_map.mp hb
      rw [← e]
      exact ((hcs.c p hp).tab (hcs.e p hp)).isCodeTable
  cases hk : K.lookup a with
  | some o =>
    have e := (KX a o hk).symm.trans ha
    cases e
    refine core (fun b => if b = sysModules then some (.frz o1 (.own 0)) else if b ∈ cs.map (·.2) then some (.tbl #[]) else none) (fun b u z => ?_) (if_pos rfl) (fun p hp => (if_neg (isT _ (memT p hp)).2.2).trans (if_pos (memT p hp))) (.inr ⟨_, vs.toArray, _, hk, rfl, rfl, rfl, ?_, ?_⟩)
    · by_cases h1 : b = sysModules
      · rw [if_pos h1] at z; cases z; exact .inl ⟨h1, rfl⟩
      · rw [if_neg h1] at z
        by_cases h2 : b ∈ cs.map (·.2)
        · rw [if_pos h2] at z; cases z; exact .inr (.inl ⟨h2, rfl⟩)
        · rw [if_neg h2] at z; cases z
    · rw [List.size_toArray, hi.length]; exact hl
    · simpa using vals_ints hi
  | none =>
    refine core (fun b => if b = sysModules then some (.frz o1 (.own 0)) else if b ∈ cs.map (·.2) then some (.tbl #[]) else if b = a then some (.frz { cls := .type "list", data := .seq vs.toArray } (.lst (ns.map V.int))) else none) (fun b u z => ?_) (if_pos rfl)
      (fun p hp => (if_neg (isT _ (memT p hp)).2.2).trans (if_pos (memT p hp))) (.inl (.inr ⟨_, (if_neg hsa).trans ((if_neg aT).trans (if_pos rfl))⟩))
    by_cases h1 : b = sysModules
    · rw [if_pos h1] at z; cases z; exact .inl ⟨h1, rfl⟩
    · rw [if_neg h1] at z
      by_cases h2 : b ∈ cs.map (·.2)
      · rw [if_pos h2] at z; cases z; exact .inr (.inl ⟨h2, rfl⟩)
      · rw [if_neg h2] at z
        by_cases h3 : b = a
        · rw [if_pos h3] at z; cases z; exact .inr (.inr ⟨h3, hk, rfl⟩)
        · rw [if_neg h3] at z; cases z
end
theorem FnA.imp {P : Program} {w : World} {K : PySem.W.Frag} {mg : Str → Option Value} {base : Heap} {CX : CXT} {k : Nat} {f : Addr} {fd : FuncData} {ps : List Str} {sp sp2 : Sp} (F : FnA P w K mg base CX k f fd ps sp) (h : ∀ vs H Q E, sp2 vs H Q E → sp vs H Q E) : FnA P w K mg base CX k f fd ps sp2 :=
  ⟨fun vs H Q E z => F.len vs H Q E (h _ _ _ _ z), fun A b s0 H gv us vs Q E q r e0 hb rv z => F.run A b s0 H gv us vs Q E q r e0 hb rv (h _ _ _ _ z)⟩
theorem kb_of {K : PySem.W.Frag} {x qual : Str} {st : Stmt} {a : Addr} {fd : FuncData} {ps ks : List Str} {n : Nat} {pm : List Nat} (F : L2.Fun K x qual st a fd)
    (h : ∀ (kV doc pmv : Value) (an : Option Addr) (cdv ct : Value) (us ws : List Value), us.length = n → ws.length = ks.length → bindArgs (PySem.W.fnOf x qual (defArgs st) (defBody st) (defScope st) .none kV doc pmv an cdv ct) ⟨us, ks.zip ws⟩ = pure (ps.zip (pick pm (us ++ ws)))) : KB K fd ps n ks pm := by
  obtain ⟨oc, od, kV, doc, pmv, an, cdv, ct, osl, rfl, lk, hcd⟩ := F.ex
  exact fun s0 us ws _ l1 l2 => .of_eq (h kV doc pmv an cdv ct us ws l1 l2)
theorem walk_ofA {l : PySem.W.OpenLaw} {n k : Nat} {q : Program} {loose : List Str} {XP : (Str → Option Value) → Heap → Prop} {YP : World → Heap → Prop} {d : DefRec} {K : Params → PySem.W.Frag} {CX : World → CXT} {sp : World → Sp} {x : Str} {cs : List (Addr × Addr)}
    (hn : l.most = some n) (hn2 : n ≤ sizeLine) (hdf : d.params.defaults = []) (hr : Room k callerA) (hY : ∀ (w : World) (h : Heap), YP w h → (K w.params).In h)
    (hcs : ∀ (w : World) (h : Heap), YP w h → CsOk (K w.params) h cs) (ks : ∀ w : World, (K w.params).lookup sysModules = none) (him : importsNone q = true)
    (F : ∀ (w : World) (mg : Str → Option Value) (fa : Addr) (h : Heap), (K w.params).In h → h.Ns mainGlobals mg → mg d.name = some (.ref fa) →
      ∃ fd : FuncData, (∀ (s : Shared) (u : Value), BindsTo s fd ⟨[u], []⟩ [(x, u)]) ∧ ∀ base : Heap, (K w.params).In base → base.Ns mainGlobals mg → (∀ p ∈ cs, LamX.TabB base mg p.1 p.2) → FnA l.prog w (K w.params) mg base (CX w) k fa fd [x] (sp w))
    (hsp : ∀ (w : World) (H : Hp) (a : Addr) (ns : List Int), ns.length ≤ n → (∀ z ∈ ns, Builtin.Int.intBits z ≤ 1048576) → (∀ p ∈ cs, H p.2 = some (.tbl #[])) → (∃ o, H sysModules = some (.frz o (.own 0))) → SqL (K w.params) H a (ns.map V.int) → sp w [.ref a] H (fun v _ => v = .bl true) fun _ _ _ => False)
    (no : ∀ (w : World) (H : Hp) (s : Shared) (e : Value) (s2 : Shared), CX w [] H s (fun _ _ _ => False) e s2 → False) : PySem.W.WalkO q loose XP YP l.row.toRowW d [] (fun f vs => PySem.call f vs) := by
  intro w s₀ s₁ mg mb G Y fa o pm cd doc dV kV ho hd hcd hD hmg hg args vals as hpre hlay hrd hwl hlo
  obtain rfl : dV = .none := PySem.W.Dflts.none hD hdf
  obtain rfl : kV = .none := PySem.W.Dflts.noKw hD
  obtain ⟨a, vs, ns, rfl, rfl, hobj, hints, hlen⟩ := Att.script_of hn hpre hwl
  obtain ⟨fd, hb, hF⟩ := F w mg fa _ (hY w _ Y) G.T.g hmg
  refine PySem.W.enter_call (codeAny_mono (law_callA (hY w _ Y) G.T.g G.T.b G.T.builtins G.T.nolimit hg G.T.bmain (hcs w _ Y) (ks w) (G.T.seer him).mods hobj hints (Nat.le_trans hlen hn2) hr hF hb (fun H hH hO hS => hsp w H a ns hlen (Att.script_bits hlay) hH hO hS) fun H e s2 z => no w H s₁ e s2 z) fun r s' hq => ?_)
  obtain ⟨rfl, h2, h3, h4⟩ := hq
  exact ⟨.inl ⟨.bool true, .bool true, [], rfl, fun _ => rfl, .bool true, Att.post_true l _, fun _ => ⟨List.Pairwise.nil, fun _ hm => (nomatch hm)⟩⟩, h2, h3, h4⟩
end M

set_option Elab.async false
set_option linter.all false
set_option maxRecDepth 100000
set_option maxHeartbeats 1000000
/-! C1: the plain functions of a tree, and how they stand to the evaluator: expressions. -/
namespace M
open PySem
/-- what a plain function gives -/
inductive Mo (α : Type) where
  | ok (a : α) | exc (c : Nat) (ds : List D) | bad
def Mo.bnd {α β : Type} : Mo α → (α → Mo β) → Mo β
  | .ok a, f => f a
  | .exc c ds, _ => .exc c ds
  | .bad, _ => .bad
instance : Monad Mo := { pure := .ok, bind := Mo.bnd }
section
variable {α β γ : Type}
theorem nr {α : Type} {a b : α} (h : a = b) : a = b := h
@[simp] theorem ok_bind (a : α) (f : α → Mo β) : (Mo.ok a >>= f) = f a := nr rfl
@[simp] theorem bad_bind (f : α → Mo β) : ((Mo.bad : Mo α) >>= f) = .bad := nr rfl
@[simp] theorem exc_bind (c : Nat) (ds : List D) (f : α → Mo β) : ((Mo.exc c ds : Mo α) >>= f) = .exc c ds := nr rfl
@[simp] theorem bind_ok (m : Mo α) : (m >>= fun a => Mo.ok a) = m := by cases m <;> rfl
theorem bind_bind (m : Mo α) (f : α → Mo β) (g : β → Mo γ) : ((m >>= f) >>= g) = m >>= fun a => f a >>= g := by cases m <;> rfl
/-- primitives -/
def prm (p : P) (ds : List D) : Mo D := match evP p ds with
  | some (_, d) => .ok d
  | none => .bad
def prmV (p : P) (ds : List D) : Mo D := match evP p ds with
  | some (false, d) => .ok d
  | _ => .bad
def tru (d : D) : Mo Bool := match truD d with
  | some b => .ok b
  | none => .bad
def isB : D → Mo Bool
  | .bl b => .ok b
  | _ => .bad
def seqM (d : D) : Mo (List D) := match seqD d with
  | some l => .ok l
  | none => .bad
def itemsM (d : D) : Mo (List D) := match itemsD d with
  | some l => .ok l
  | none => .bad
def optM (o : Option (List D)) : Mo (List D) := match o with
  | some l => .ok l
  | none => .bad
def fitL (l : List D) : Mo (List D) := if l.length ≤ sizeLine then .ok l else .bad
def tupM (l : List D) : Mo D := if l.length ≤ sizeLine then .ok (.tup l) else .bad
def lstM (l : List D) : Mo D := if l.length ≤ sizeLine then .ok (.lst l) else .bad
def fldM (c k : Nat) : D → Mo D
  | .ins c' fs => if c' = c then (match fs[k]? with | some d => .ok d | none => .bad) else .bad
  | _ => .bad
def isI (c : Nat) : D → Mo Unit
  | .ins c' _ => if c' = c then .ok () else .bad
  | _ => .bad
def un (n : Nat) : D → Mo (List D)
  | .tup ds => if ds.length = n then .ok ds else .bad
  | _ => .bad
def un2 : D → Mo (D × D)
  | .tup [a, b] => .ok (a, b)
  | _ => .bad
def un3 : D → Mo (D × D × D)
  | .tup [a, b, c] => .ok (a, b, c)
  | _ => .bad
/-- an error inside of a comprehension is not followed -/
def noExc : Mo α → Mo α
  | .ok a => .ok a
  | _ => .bad
def mapA (f : D → Mo D) : List D → Mo (List D)
  | [] => .ok []
  | d :: l => f d >>= fun x => mapA f l >>= fun r => .ok (x :: r)
/-- [.. for ..] -/
def mapL (f : D → Mo D) (l : List D) : Mo (List D) := if l.length ≤ sizeLine then noExc (mapA f l) else .bad
def filA (f : D → Mo (Option D)) : List D → Mo (List D)
  | [] => .ok []
  | d :: l => f d >>= fun x => filA f l >>= fun r => .ok (match x with | some y => y :: r | none => r)
/-- [.. for .. if ..] -/
def filL (f : D → Mo (Option D)) (l : List D) : Mo (List D) := if l.length ≤ sizeLine then noExc (filA f l) else .bad
/-- a comprehension whose element draws -/
def mapS {σ : Type} (f : D → σ → Mo (D × σ)) : List D → σ → Mo (List D × σ)
  | [], s => .ok ([], s)
  | d :: l, s => f d s >>= fun x => mapS f l x.2 >>= fun r => .ok (x.1 :: r.1, r.2)
def mapSL {σ : Type} (f : D → σ → Mo (D × σ)) (l : List D) (s : σ) : Mo (List D × σ) := if l.length ≤ sizeLine then noExc (mapS f l s) else .bad
/-- two `for` -/
def catA (f : D → Mo (List D)) : List D → Mo (List D)
  | [] => .ok []
  | d :: l => f d >>= fun x => catA f l >>= fun r => .ok (x ++ r)
def catL (f : D → Mo (List D)) (l : List D) : Mo (List D) := noExc (catA f l) >>= fitL
end

/-! ### relations -/
def Rl {α β : Type} (x : Res α) (m : Mo β) (P : β → α → Fm → Prop) : Prop := match m with
  | .ok b => ∃ a q, x = .ok a q ∧ P b a q
  | .exc c ds => ∃ q, x = .exc c ds q
  | .bad => True
section
variable {α β γ δ : Type} {x : Res α} {P : β → α → Fm → Prop}
theorem Rl.ok {b : β} {a : α} {q : Fm} (h : P b a q) : Rl (.ok a q) (.ok b) P := ⟨a, q, rfl, h⟩
theorem Rl.bind {m : Mo β} {f : α → Fm → Res γ} {k : β → Mo δ} {Q : δ → γ → Fm → Prop} (h : Rl x m P) (hk : ∀ b a q, P b a q → Rl (f a q) (k b) Q) : Rl (bindR x f) (m >>= k) Q := by
  cases m with
  | ok b =>
    obtain ⟨a, q, rfl, h⟩ := h
    exact hk b a q h
  | exc c ds =>
    obtain ⟨q, rfl⟩ := h
    exact ⟨q, rfl⟩
  | bad => trivial
theorem Rl.imp {m : Mo β} {Q : β → α → Fm → Prop} (h : Rl x m P) (i : ∀ b a q, P b a q → Q b a q) : Rl x m Q := by
  cases m with
  | ok b =>
    obtain ⟨a, q, e, h⟩ := h
    exact ⟨a, q, e, i b a q h⟩
  | exc c ds => exact h
  | bad => trivial
theorem Rl.map {m : Mo β} {Q : γ → α → Fm → Prop} (g : β → γ) (h : Rl x m P) (i : ∀ b a q, P b a q → Q (g b) a q) : Rl x (m >>= fun b => .ok (g b)) Q := by
  cases m with
  | ok b =>
    obtain ⟨a, q, e, h⟩ := h
    exact ⟨a, q, e, i b a q h⟩
  | exc c ds => exact h
  | bad => trivial
end
/-- an expression: V the value, F the frame then -/
def XV {α : Type} (K : Calls) (e : E) (q : Fm) (m : Mo α) (V : α → D) (F : α → Fm) : Prop := ∀ pk, Rl (ev K e pk q) m fun a r q' => q' = F a ∧ r.vd = some (V a)
/-- .. that makes a new list -/
def XN {α : Type} (K : Calls) (e : E) (q : Fm) (m : Mo α) (V : α → D) (F : α → Fm) : Prop := ∀ pk, Rl (ev K e pk q) m fun a r q' => q' = F a ∧ r = .new (V a)
/-- .. no new list -/
def XB {α : Type} (K : Calls) (e : E) (q : Fm) (m : Mo α) (V : α → D) (F : α → Fm) : Prop := ∀ pk, Rl (ev K e pk q) m fun a r q' => q' = F a ∧ r = .val (V a)
/-- an operand -/
def XA {α : Type} (K : Calls) (e : E) (q : Fm) (m : Mo α) (V : α → D) (F : α → Fm) : Prop := Rl (ev K e true q) m fun a r q' => q' = F a ∧ r.at_ q' = some (V a)
/-- operands; what they are is asked at the last frame -/
def XS {α : Type} (K : Calls) (es : Es) (q : Fm) (m : Mo α) (V : α → List D) (F : α → Fm) : Prop := Rl (evs K es q) m fun a rs q' => q' = F a ∧ atAll q' rs = some (V a)
def XAs {α : Type} (K : Calls) (es : As) (q : Fm) (m : Mo α) (V : α → List D) (F : α → Fm) : Prop := Rl (evA K es q) m fun a ds q' => q' = F a ∧ ds = V a
def XG {α : Type} (K : Calls) (gs : Gs) (q : Fm) (m : Mo α) (V : α → List Ga) (F : α → Fm) : Prop := Rl (evG K gs q) m fun a l q' => q' = F a ∧ l = V a
def XT {α : Type} (K : Calls) (t : T) (q : Fm) (m : Mo α) (V : α → Bool) (F : α → Fm) : Prop := Rl (evT K t q) m fun a b q' => q' = F a ∧ b = V a
def XI {α : Type} (K : Calls) (it : I) (q : Fm) (m : Mo α) (V : α → List D) (F : α → Fm) : Prop := Rl (evI K it q) m fun a l q' => q' = F a ∧ l = V a
/-- a target: τ what it takes apart -/
def XTg {τ : Type} (K : Calls) (l : LV) (d : D) (q : Fm) (m : Mo τ) (F : τ → Fm) : Prop := match m with
  | .ok t => evL K l (.val d) q = .ok () (F t)
  | .exc _ _ => False
  | .bad => True
section
variable {α β γ δ : Type} {K : Calls} {q : Fm} {e a b c : E} {p : P} {pk : Bool}
theorem RV.down_at {r : RV} {d : D} (q : Fm) (h : r.at_ q = some d) : r.down.at_ q = some d := by cases r <;> exact h
theorem vd_at {r : RV} {d : D} (q : Fm) (h : r.vd = some d) : r.at_ q = some d := by cases r <;> first | exact h | cases h
theorem xn_v {m : Mo α} {V : α → D} {F : α → Fm} (h : XN K e q m V F) : XV K e q m V F := fun pk => (h pk).imp fun _ _ _ ⟨h1, h2⟩ => ⟨h1, by rw [h2]; rfl⟩
theorem xb_v {m : Mo α} {V : α → D} {F : α → Fm} (h : XB K e q m V F) : XV K e q m V F := fun pk => (h pk).imp fun _ _ _ ⟨h1, h2⟩ => ⟨h1, by rw [h2]; rfl⟩
theorem xv_a {m : Mo α} {V : α → D} {F : α → Fm} (h : XV K e q m V F) : XA K e q m V F := (h true).imp fun _ _ _ ⟨h1, h2⟩ => ⟨h1, vd_at _ h2⟩
abbrev I1 : D → D := fun d => d
abbrev Fc (q : Fm) {α : Type} : α → Fm := fun _ => q
theorem xb_con {d : D} : XB K (.con d) q (.ok d) I1 (Fc q) := fun pk => by
  rw [show ev K (.con d) pk q = .ok (.val d) q from by rw [ev]]
  refine Rl.ok ?_; exact ⟨rfl, rfl⟩
theorem xb_glo {x : Str} {d : D} : XB K (.glo x d) q (.ok d) I1 (Fc q) := fun pk => by
  rw [show ev K (.glo x d) pk q = .ok (.val d) q from by rw [ev]]
  refine Rl.ok ?_; exact ⟨rfl, rfl⟩
theorem xb_var {i : Nat} {bo : Bool} {d : D} (h : q[i]? = some (.sh bo d)) : XB K (.var i) q (.ok d) I1 (Fc q) := fun pk => by
  rw [ev, h]
  refine Rl.ok ?_; exact ⟨rfl, rfl⟩
theorem xa_own {i : Nat} {bo : Bool} {d : D} (h : q[i]? = some (.ow bo d)) : XA K (.var i) q (.ok d) I1 (Fc q) := by
  unfold XA
  rw [ev, h]
  refine .ok ⟨rfl, ?_⟩
  show (match q[i]? with | some (.sh _ d) => some d | some (.ow _ d) => some d | _ => none) = _
  rw [h]
/-! operands -/
theorem xs_nil : XS K .nil q (.ok []) (fun l => l) (Fc q) := by
  unfold XS
  rw [evs]
  refine Rl.ok ?_; exact ⟨rfl, rfl⟩
theorem xs_cons {m : Mo α} {V : α → D} {F : α → Fm} {k : α → Mo β} {V2 : α → β → List D} {F2 : α → β → Fm} {r : Es} {V3 : γ → List D} {F3 : γ → Fm} (g : α → β → γ) (h : XV K e q m V F) (h2 : ∀ a, XS K r (F a) (k a) (V2 a) (F2 a))
    (hV : ∀ a b, V3 (g a b) = V a :: V2 a b := by intros; rfl) (hF : ∀ a b, F3 (g a b) = F2 a b := by intros; rfl) : XS K (.cons e r) q (m >>= fun a => k a >>= fun b => .ok (g a b)) V3 F3 := by
  unfold XS
  rw [evs]
  refine (h true).bind fun a r q' ⟨h3, h4⟩ => ?_
  subst h3
  refine (h2 a).bind fun b rs q' ⟨h5, h6⟩ => ?_
  subst h5
  refine .ok ⟨(hF a b).symm, ?_⟩
  rw [hV, atAll, RV.down_at _ (vd_at _ h4), h6]
theorem xv_prm {es : Es} {m : Mo α} {V : α → List D} {F : α → Fm} {V3 : γ → D} {F3 : γ → Fm} (g : α → D → γ) (h : XS K es q m V F) (hV : ∀ a d, V3 (g a d) = d := by intros; rfl) (hF : ∀ a d, F3 (g a d) = F a := by intros; rfl) : XV K (.prm p es) q (m >>= fun a => prm p (V a) >>= fun d => .ok (g a d)) V3 F3 := fun pk => by
  rw [ev]
  refine Rl.bind h fun a rs q' ⟨h1, h2⟩ => ?_
  subst h1
  unfold primR
  rw [h2]
  unfold prm
  dsimp only
  cases e1 : evP p (V a) with
  | none => trivial
  | some x =>
    obtain ⟨fl, d⟩ := x
    cases fl
    · refine Rl.ok ?_; exact ⟨(hF a d).symm, by rw [hV]; rfl⟩
    · refine Rl.ok ?_; exact ⟨(hF a d).symm, by rw [hV]; rfl⟩
/-! displays -/
theorem xas_nil : XAs K .nil q (.ok []) (fun l => l) (Fc q) := by
  unfold XAs
  rw [evA]
  refine Rl.ok ?_; exact ⟨rfl, rfl⟩
theorem xas_one {m : Mo α} {V : α → D} {F : α → Fm} {k : α → Mo β} {V2 : α → β → List D} {F2 : α → β → Fm} {r : As} {V3 : γ → List D} {F3 : γ → Fm} (g : α → β → γ) (h : XV K e q m V F) (h2 : ∀ a, XAs K r (F a) (k a) (V2 a) (F2 a))
    (hV : ∀ a b, V3 (g a b) = V a :: V2 a b := by intros; rfl) (hF : ∀ a b, F3 (g a b) = F2 a b := by intros; rfl) : XAs K (.one e r) q (m >>= fun a => k a >>= fun b => .ok (g a b)) V3 F3 := by
  unfold XAs
  rw [evA]
  refine (h false).bind fun a r q' ⟨h3, h4⟩ => ?_
  subst h3
  rw [h4]
  refine (h2 a).bind fun b rs q' ⟨h5, h6⟩ => ?_
  subst h5 h6
  refine Rl.ok ?_; exact ⟨(hF a b).symm, (hV a b).symm⟩
theorem xas_star {m : Mo α} {V : α → D} {F : α → Fm} {k : α → Mo β} {V2 : α → β → List D} {F2 : α → β → Fm} {r : As} {V3 : γ → List D} {F3 : γ → Fm} (g : α → List D → β → γ) (h : XA K e q m V F) (h2 : ∀ a, XAs K r (F a) (k a) (V2 a) (F2 a))
    (hV : ∀ a l b, V3 (g a l b) = l ++ V2 a b := by intros; rfl) (hF : ∀ a l b, F3 (g a l b) = F2 a b := by intros; rfl) : XAs K (.star e r) q (m >>= fun a => seqM (V a) >>= fun l => k a >>= fun b => .ok (g a l b)) V3 F3 := by
  unfold XAs
  rw [evA]
  refine Rl.bind h fun a r q' ⟨h3, h4⟩ => ?_
  subst h3
  unfold starR
  rw [h4]
  unfold seqM
  cases e1 : seqD (V a) with
  | none => trivial
  | some l =>
    show Rl (match seqD (V a) with | some l => bindR (evA K _ (F a)) fun ds q2 => .ok (l ++ ds) q2 | none => .bad) (k a >>= _) _
    rw [e1]
    refine Rl.bind (h2 a) fun b rs q' ⟨h5, h6⟩ => ?_
    subst h5 h6
    refine Rl.ok ?_; exact ⟨(hF a l b).symm, (hV a l b).symm⟩
theorem xn_lst {es : As} {m : Mo α} {V : α → List D} {F : α → Fm} {V3 : γ → D} {F3 : γ → Fm} (g : α → D → γ) (h : XAs K es q m V F) (hV : ∀ a d, V3 (g a d) = d := by intros; rfl) (hF : ∀ a d, F3 (g a d) = F a := by intros; rfl) : XN K (.lst es) q (m >>= fun a => lstM (V a) >>= fun d => .ok (g a d)) V3 F3 := fun pk => by
  rw [ev]
  refine Rl.bind h fun a ds q' ⟨h1, h2⟩ => ?_
  subst h1 h2
  unfold lstM
  by_cases hl : (V a).length ≤ sizeLine
  · rw [if_pos hl, if_pos hl]
    refine Rl.ok ?_; exact ⟨(hF _ _).symm, by rw [hV]⟩
  · rw [if_neg hl, if_neg hl]
    trivial
/-! tests -/
theorem xt_val {m : Mo α} {V : α → D} {F : α → Fm} {V3 : γ → Bool} {F3 : γ → Fm} (g : α → Bool → γ) (h : XA K e q m V F) (hV : ∀ a d, V3 (g a d) = d := by intros; rfl) (hF : ∀ a d, F3 (g a d) = F a := by intros; rfl) : XT K (.val e) q (m >>= fun a => tru (V a) >>= fun d => .ok (g a d)) V3 F3 := by
  unfold XT
  rw [evT]
  refine Rl.bind h fun a r q' ⟨h1, h2⟩ => ?_
  subst h1
  rw [h2]
  unfold tru
  dsimp only
  cases e1 : truD (V a) with
  | none => trivial
  | some c => refine Rl.ok ?_; exact ⟨(hF _ _).symm, (hV _ _).symm⟩
theorem xt_not {t : T} {m : Mo α} {V : α → Bool} {F : α → Fm} {V3 : γ → Bool} {F3 : γ → Fm} (g : α → γ) (h : XT K t q m V F) (hV : ∀ a, V3 (g a) = !V a := by intros; rfl) (hF : ∀ a, F3 (g a) = F a := by intros; rfl) : XT K (.not t) q (m >>= fun a => .ok (g a)) V3 F3 := by
  unfold XT
  rw [evT]
  refine Rl.bind h fun a r q' ⟨h1, h2⟩ => ?_
  subst h1 h2
  refine Rl.ok ?_; exact ⟨(hF _).symm, (hV _).symm⟩
theorem xt_all {t t' : T} {m : Mo α} {V : α → Bool} {F : α → Fm} {k : α → Mo γ} {n : α → γ} {V3 : γ → Bool} {F3 : γ → Fm} (h : XT K t q m V F) (h2 : ∀ a, XT K t' (F a) (k a) V3 F3) (hV : ∀ a, V3 (n a) = false := by intros; rfl) (hF : ∀ a, F3 (n a) = F a := by intros; rfl) :
    XT K (.all t t') q (m >>= fun a => if V a then k a else .ok (n a)) V3 F3 := by
  unfold XT
  rw [evT]
  refine Rl.bind h fun a r q' ⟨h1, h3⟩ => ?_
  subst h1 h3
  cases e1 : V a with
  | true => exact h2 a
  | false => refine Rl.ok ?_; exact ⟨(hF _).symm, (hV _).symm⟩
theorem xt_any {t t' : T} {m : Mo α} {V : α → Bool} {F : α → Fm} {k : α → Mo γ} {n : α → γ} {V3 : γ → Bool} {F3 : γ → Fm} (h : XT K t q m V F) (h2 : ∀ a, XT K t' (F a) (k a) V3 F3) (hV : ∀ a, V3 (n a) = true := by intros; rfl) (hF : ∀ a, F3 (n a) = F a := by intros; rfl) :
    XT K (.any t t') q (m >>= fun a => if V a then .ok (n a) else k a) V3 F3 := by
  unfold XT
  rw [evT]
  refine Rl.bind h fun a r q' ⟨h1, h3⟩ => ?_
  subst h1 h3
  cases e1 : V a with
  | false => exact h2 a
  | true => refine Rl.ok ?_; exact ⟨(hF _).symm, (hV _).symm⟩
/-! choices -/
theorem xv_ife {t : T} {m : Mo α} {V : α → Bool} {F : α → Fm} {k k' : α → Mo γ} {V3 : γ → D} {F3 : γ → Fm} (h : XT K t q m V F) (ha : ∀ x, XV K a (F x) (k x) V3 F3) (hb : ∀ x, XV K b (F x) (k' x) V3 F3) : XV K (.ife t a b) q (m >>= fun x => if V x then k x else k' x) V3 F3 := fun pk => by
  rw [ev]
  refine Rl.bind h fun x r q' ⟨h1, h3⟩ => ?_
  subst h1 h3
  cases e1 : V x with
  | true => exact ha x false
  | false => exact hb x false
theorem xb_and {m : Mo α} {V : α → D} {F : α → Fm} {k : α → Mo γ} {n : α → γ} {V3 : γ → D} {F3 : γ → Fm} (h : XB K a q m V F) (h2 : ∀ x, XB K b (F x) (k x) V3 F3) (hV : ∀ x, V3 (n x) = .bl false := by intros; rfl) (hF : ∀ x, F3 (n x) = F x := by intros; rfl) :
    XB K (.andV a b) q (m >>= fun x => isB (V x) >>= fun c => if c then k x else .ok (n x)) V3 F3 := fun pk => by
  rw [ev]
  refine (h true).bind fun x r q' ⟨h1, h3⟩ => ?_
  subst h1
  subst h3
  cases e1 : V x with
  | bl c =>
    cases c
    · refine Rl.ok ?_; exact ⟨(hF x).symm, by rw [hV]⟩
    · exact h2 x false
  | _ => trivial
theorem xb_not {m : Mo α} {V : α → D} {F : α → Fm} {V3 : γ → D} {F3 : γ → Fm} (g : α → Bool → γ) (h : XA K e q m V F) (hV : ∀ a c, V3 (g a c) = .bl (!c) := by intros; rfl) (hF : ∀ a c, F3 (g a c) = F a := by intros; rfl) : XB K (.notV e) q (m >>= fun a => tru (V a) >>= fun c => .ok (g a c)) V3 F3 := fun pk => by
  rw [ev]
  refine Rl.bind h fun x r q' ⟨h1, h3⟩ => ?_
  subst h1
  rw [h3]
  unfold tru
  dsimp only
  cases e1 : truD (V x) with
  | none => trivial
  | some c => refine Rl.ok ?_; exact ⟨(hF _ _).symm, by rw [hV]⟩
theorem xb_chain {o1 o2 : P} {m1 : Mo α} {V1 : α → D} {F1 : α → Fm} {m2 : α → Mo β} {V2 : α → β → D} {F2 : α → β → Fm} {m3 : α → β → Mo γ} {V3 : α → β → γ → D} {F3 : α → β → γ → Fm} {V4 : δ → D} {F4 : δ → Fm} (n : α → β → δ) (g : α → β → γ → D → δ)
    (h1 : XV K a q m1 V1 F1) (h2 : ∀ x, XV K b (F1 x) (m2 x) (V2 x) (F2 x)) (h3 : ∀ x y, XV K c (F2 x y) (m3 x y) (V3 x y) (F3 x y))
    (hn : ∀ x y, V4 (n x y) = .bl false := by intros; rfl) (hnF : ∀ x y, F4 (n x y) = F2 x y := by intros; rfl) (hV : ∀ x y z d, V4 (g x y z d) = d := by intros; rfl) (hF : ∀ x y z d, F4 (g x y z d) = F3 x y z := by intros; rfl) :
    XB K (.chain o1 o2 a b c) q (m1 >>= fun x => m2 x >>= fun y => prm o1 [V1 x, V2 x y] >>= fun d => isB d >>= fun t => if t then m3 x y >>= fun z => prmV o2 [V2 x y, V3 x y z] >>= fun d => .ok (g x y z d) else .ok (n x y)) V4 F4 := fun pk => by
  rw [ev]
  refine (h1 false).bind fun x r1 q' ⟨e1, v1⟩ => ?_
  subst e1
  refine (h2 x false).bind fun y r2 q' ⟨e2, v2⟩ => ?_
  subst e2
  rw [v1, v2]
  dsimp only
  unfold prm
  cases e3 : evP o1 [V1 x, V2 x y] with
  | none => trivial
  | some z =>
    obtain ⟨fl, d⟩ := z
    cases d with
    | bl t =>
      cases t
      · refine Rl.ok ?_; exact ⟨(hnF x y).symm, by rw [hn]⟩
      · refine (h3 x y false).bind fun z r3 q' ⟨e4, v4⟩ => ?_
        subst e4
        rw [v4]
        dsimp only
        unfold prmV
        cases e5 : evP o2 [V2 x y, V3 x y z] with
        | none => trivial
        | some w =>
          obtain ⟨fl2, d2⟩ := w
          cases fl2
          · refine Rl.ok ?_; exact ⟨(hF _ _ _ _).symm, by rw [hV]⟩
          · trivial
    | _ => trivial
theorem xb_fld {c k : Nat} {m : Mo α} {V : α → D} {F : α → Fm} {V3 : γ → D} {F3 : γ → Fm} (g : α → D → γ) (h : XB K e q m V F) (hV : ∀ a d, V3 (g a d) = d := by intros; rfl) (hF : ∀ a d, F3 (g a d) = F a := by intros; rfl) : XB K (.fld c k e) q (m >>= fun a => fldM c k (V a) >>= fun d => .ok (g a d)) V3 F3 := fun pk => by
  rw [ev]
  refine (h false).bind fun a r q' ⟨h1, h2⟩ => ?_
  subst h1 h2
  cases V a with
  | ins c' fs =>
    unfold fldM
    dsimp only
    by_cases hc : c' = c
    · rw [if_pos hc, if_pos hc]
      cases fs[k]? with
      | none => trivial
      | some d => refine Rl.ok ?_; exact ⟨(hF _ _).symm, by rw [hV]⟩
    · rw [if_neg hc, if_neg hc]
      trivial
  | _ => trivial
/-! arguments, calls -/
theorem xg_nil : XG K .nil q (.ok []) (fun l => l) (Fc q) := by
  unfold XG
  rw [evG]
  refine Rl.ok ?_; exact ⟨rfl, rfl⟩
theorem xg_v {m : Mo α} {V : α → D} {F : α → Fm} {k : α → Mo β} {V2 : α → β → List Ga} {F2 : α → β → Fm} {r : Gs} {V3 : γ → List Ga} {F3 : γ → Fm} (g : α → β → γ) (h : XV K e q m V F) (h2 : ∀ a, XG K r (F a) (k a) (V2 a) (F2 a))
    (hV : ∀ a b, V3 (g a b) = .v (V a) :: V2 a b := by intros; rfl) (hF : ∀ a b, F3 (g a b) = F2 a b := by intros; rfl) : XG K (.v e r) q (m >>= fun a => k a >>= fun b => .ok (g a b)) V3 F3 := by
  unfold XG
  rw [evG]
  refine (h false).bind fun a r q' ⟨h3, h4⟩ => ?_
  subst h3
  rw [h4]
  refine (h2 a).bind fun b rs q' ⟨h5, h6⟩ => ?_
  subst h5 h6
  refine Rl.ok ?_; exact ⟨(hF a b).symm, (hV a b).symm⟩
theorem xg_b {i : Nat} {bo : Bool} {d : D} {k : Mo β} {V2 : β → List Ga} {F2 : β → Fm} {r : Gs} {V3 : γ → List Ga} {F3 : γ → Fm} (g : β → γ) (hi : q[i]? = some (.ow bo d)) (h2 : XG K r q k V2 F2)
    (hV : ∀ b, V3 (g b) = .b i :: V2 b := by intros; rfl) (hF : ∀ b, F3 (g b) = F2 b := by intros; rfl) : XG K (.b i r) q (k >>= fun b => .ok (g b)) V3 F3 := by
  unfold XG
  rw [evG, hi]
  refine Rl.bind h2 fun b rs q' ⟨h5, h6⟩ => ?_
  subst h5 h6
  refine Rl.ok ?_; exact ⟨(hF b).symm, (hV b).symm⟩
/-- what a def gives -/
def FV {α : Type} (K : Calls) (f : Nat) (as : Fm) (m : Mo α) (V : α → D) (B : α → Fm → Prop) : Prop := Rl (K.fn f as) m fun a r q' => r = .val (V a) ∧ B a q'
def FN {α : Type} (K : Calls) (f : Nat) (as : Fm) (m : Mo α) (V : α → D) (B : α → Fm → Prop) : Prop := Rl (K.fn f as) m fun a r q' => r = .new (V a) ∧ B a q'
theorem xb_call {f : Nat} {gs : Gs} {m : Mo α} {V : α → List Ga} {F : α → Fm} {as : α → Fm} {mf : α → Mo β} {V2 : α → β → D} {B : α → β → Fm → Prop} {V3 : γ → D} {F3 : γ → Fm} (g : α → β → γ) (h : XG K gs q m V F) (hf : ∀ a, FV K f (as a) (mf a) (V2 a) (B a))
    (hl : ∀ a, lent (F a) (V a) = some (as a) := by intros; rfl) (hn : ∀ a, (lentIx (V a)).Nodup := by intros; first | exact List.nodup_nil | decide) (hb : ∀ a b q', B a b q' → giveBack (V a) q' (F a) = F3 (g a b) := by intros; rfl) (hV : ∀ a b, V3 (g a b) = V2 a b := by intros; rfl) :
    XB K (.call f gs) q (m >>= fun a => mf a >>= fun b => .ok (g a b)) V3 F3 := fun pk => by
  rw [ev]
  refine Rl.bind h fun a l q' ⟨h1, h2⟩ => ?_
  subst h1 h2
  unfold callR
  rw [if_pos (hn a), hl a]
  dsimp only
  have z := hf a
  unfold FV at z
  cases e1 : mf a with
  | bad => trivial
  | exc c ds =>
    rw [e1] at z
    obtain ⟨q', e2⟩ := z
    rw [e2]
    exact ⟨_, rfl⟩
  | ok b =>
    rw [e1] at z
    obtain ⟨r, q', e2, rfl, hB⟩ := z
    rw [e2]
    refine Rl.ok ?_; exact ⟨hb a b q' hB, by rw [hV]⟩
theorem xn_call {f : Nat} {gs : Gs} {m : Mo α} {V : α → List Ga} {F : α → Fm} {as : α → Fm} {mf : α → Mo β} {V2 : α → β → D} {B : α → β → Fm → Prop} {V3 : γ → D} {F3 : γ → Fm} (g : α → β → γ) (h : XG K gs q m V F) (hf : ∀ a, FN K f (as a) (mf a) (V2 a) (B a))
    (hl : ∀ a, lent (F a) (V a) = some (as a) := by intros; rfl) (hn : ∀ a, (lentIx (V a)).Nodup := by intros; first | exact List.nodup_nil | decide) (hb : ∀ a b q', B a b q' → giveBack (V a) q' (F a) = F3 (g a b) := by intros; rfl) (hV : ∀ a b, V3 (g a b) = V2 a b := by intros; rfl) :
    XN K (.call f gs) q (m >>= fun a => mf a >>= fun b => .ok (g a b)) V3 F3 := fun pk => by
  rw [ev]
  refine Rl.bind h fun a l q' ⟨h1, h2⟩ => ?_
  subst h1 h2
  unfold callR
  rw [if_pos (hn a), hl a]
  dsimp only
  have z := hf a
  unfold FN at z
  cases e1 : mf a with
  | bad => trivial
  | exc c ds =>
    rw [e1] at z
    obtain ⟨q', e2⟩ := z
    rw [e2]
    exact ⟨_, rfl⟩
  | ok b =>
    rw [e1] at z
    obtain ⟨r, q', e2, rfl, hB⟩ := z
    rw [e2]
    refine Rl.ok ?_; exact ⟨hb a b q' hB, by rw [hV]⟩
/-- a new list handed to a def that writes into it -/
theorem xb_callO {f : Nat} {m : Mo α} {V : α → D} {F : α → Fm} {mf : α → Mo β} {V2 : α → β → D} {B : α → β → Fm → Prop} {V3 : γ → D} {F3 : γ → Fm} (g : α → β → γ) (h : XN K e q m V F) (hf : ∀ a, FV K f [.ow false (V a)] (mf a) (V2 a) (B a))
    (hV : ∀ a b, V3 (g a b) = V2 a b := by intros; rfl) (hF : ∀ a b, F3 (g a b) = F a := by intros; rfl) : XB K (.callO f e) q (m >>= fun a => mf a >>= fun b => .ok (g a b)) V3 F3 := fun pk => by
  rw [ev]
  refine (h false).bind fun a r q' ⟨h1, h2⟩ => ?_
  subst h1 h2
  dsimp only
  have z := hf a
  unfold FV at z
  cases e1 : mf a with
  | bad => trivial
  | exc c ds =>
    rw [e1] at z
    obtain ⟨q', e2⟩ := z
    rw [e2]
    exact ⟨_, rfl⟩
  | ok b =>
    rw [e1] at z
    obtain ⟨r, q', e2, rfl, hB⟩ := z
    rw [e2]
    refine Rl.ok ?_; exact ⟨(hF a b).symm, by rw [hV]⟩
/-- what a constructor gives -/
def CV (K : Calls) (c : Nat) (as : Fm) (m : Mo (List D)) : Prop := Rl (K.cn c as) m fun fs l q' => l = fs
theorem xb_make {c : Nat} {gs : Gs} {m : Mo α} {V : α → List Ga} {F : α → Fm} {as : α → Fm} {mf : α → Mo (List D)} {V3 : γ → D} {F3 : γ → Fm} (g : α → List D → γ) (h : XG K gs q m V F) (hf : ∀ a, CV K c (as a) (mf a))
    (hl : ∀ a, lent (F a) (V a) = some (as a) := by intros; rfl) (hn : ∀ a, lentIx (V a) = [] := by intros; rfl) (hV : ∀ a b, V3 (g a b) = .ins c b := by intros; rfl) (hF : ∀ a b, F3 (g a b) = F a := by intros; rfl) :
    XB K (.make c gs) q (m >>= fun a => mf a >>= fun b => .ok (g a b)) V3 F3 := fun pk => by
  rw [ev]
  refine Rl.bind h fun a l q' ⟨h1, h2⟩ => ?_
  subst h1 h2
  unfold makeR
  rw [if_pos (hn a), hl a]
  dsimp only
  have z := hf a
  unfold CV at z
  cases e1 : mf a with
  | bad => trivial
  | exc c ds =>
    rw [e1] at z
    obtain ⟨q', e2⟩ := z
    rw [e2]
    exact ⟨_, rfl⟩
  | ok b =>
    rw [e1] at z
    obtain ⟨r, q', e2, rfl⟩ := z
    rw [e2]
    refine Rl.ok ?_; exact ⟨(hF a r).symm, by rw [hV]⟩
theorem xb_prop {c f : Nat} {m : Mo α} {V : α → D} {F : α → Fm} {mf : D → Mo D} {B : α → D → Fm → Prop} {V3 : γ → D} {F3 : γ → Fm} (g : α → D → γ) (h : XB K e q m V F) (hf : ∀ a, FV K f [.sh false (V a)] (mf (V a)) I1 (B a))
    (hV : ∀ a b, V3 (g a b) = b := by intros; rfl) (hF : ∀ a b, F3 (g a b) = F a := by intros; rfl) : XB K (.prop c f e) q (m >>= fun a => isI c (V a) >>= fun _ => noExc (mf (V a)) >>= fun b => .ok (g a b)) V3 F3 := fun pk => by
  rw [ev]
  refine (h false).bind fun a r q' ⟨h1, h2⟩ => ?_
  subst h1 h2
  have z := hf a
  cases e0 : V a with
  | ins c' fs =>
    unfold isI
    dsimp only
    by_cases hc : c' = c
    · subst hc
      rw [if_pos rfl, if_pos rfl]
      rw [e0] at z
      unfold FV at z
      cases e1 : mf (.ins c' fs) with
      | bad => trivial
      | exc c ds => trivial
      | ok b =>
        rw [e1] at z
        obtain ⟨r, q', e2, rfl, hB⟩ := z
        rw [e2]
        refine Rl.ok ?_; exact ⟨(hF a b).symm, by rw [hV]⟩
    · rw [if_neg hc, if_neg hc]
      trivial
  | _ => trivial
end
end M

set_option Elab.async false
set_option linter.all false
set_option maxRecDepth 100000
set_option maxHeartbeats 1000000
/-! C2: walks, targets, comprehensions. -/
namespace M
open PySem
/-- a list's place gets another value -/
def putM : D → D → D → Mo D
  | .lst xs, .int z, v => match L2.ixN xs.length z with
    | some j => .ok (.lst (xs.set j v))
    | none => .bad
  | _, _, _ => .bad
section
variable {α β γ δ τ : Type} {K : Calls} {q : Fm} {e a b c : E} {p : P} {pk : Bool}
theorem vds1 {r : RV} {d : D} (h : r.vd = some d) : vds [r] = some [d] := by simp [vds, h]
theorem vds3 {r r' r2 : RV} {d d' d2 : D} (h : r.vd = some d) (h' : r'.vd = some d') (h2 : r2.vd = some d2) : vds [r, r', r2] = some [d, d', d2] := by simp [vds, h, h', h2]
theorem rl_it {rs : List RV} {ds : List D} {f : List D → Option (List D)} {V3 : List D → γ} {P : γ → List D → Fm → Prop} (hr : vds rs = some ds) (hP : ∀ l, P (V3 l) l q) : Rl (itR rs q f) (optM (f ds) >>= fun l => .ok (V3 l)) P := by
  unfold itR
  rw [hr]
  dsimp only
  unfold optM
  cases f ds with
  | none => trivial
  | some l => exact Rl.ok (hP l)
theorem xi_seq {m : Mo α} {V : α → D} {F : α → Fm} {V3 : γ → List D} {F3 : γ → Fm} (g : α → List D → γ) (h : XV K e q m V F) (hV : ∀ a l, V3 (g a l) = l := by intros; rfl) (hF : ∀ a l, F3 (g a l) = F a := by intros; rfl) :
    XI K (.seq e) q (m >>= fun a => itemsM (V a) >>= fun l => .ok (g a l)) V3 F3 := by
  unfold XI
  rw [evI]
  refine (h false).bind fun a r q' ⟨h1, h2⟩ => ?_
  subst h1
  rw [h2]
  unfold itemsM
  dsimp only
  cases e1 : itemsD (V a) with
  | none => trivial
  | some l => refine Rl.ok ?_; exact ⟨(hF _ _).symm, (hV _ _).symm⟩
theorem xi_rng1 {m : Mo α} {V : α → D} {F : α → Fm} {V3 : γ → List D} {F3 : γ → Fm} (g : α → List D → γ) (h : XV K a q m V F) (hV : ∀ a l, V3 (g a l) = l := by intros; rfl) (hF : ∀ a l, F3 (g a l) = F a := by intros; rfl) :
    XI K (.rng1 a) q (m >>= fun a => optM (rng1F [V a]) >>= fun l => .ok (g a l)) V3 F3 := by
  unfold XI
  rw [evI]
  refine (h false).bind fun a r q' ⟨h1, h2⟩ => ?_
  subst h1
  exact rl_it (vds1 h2) fun l => ⟨(hF _ _).symm, (hV _ _).symm⟩
theorem xi_enm {m : Mo α} {V : α → D} {F : α → Fm} {V3 : γ → List D} {F3 : γ → Fm} (g : α → List D → γ) (h : XV K a q m V F) (hV : ∀ a l, V3 (g a l) = l := by intros; rfl) (hF : ∀ a l, F3 (g a l) = F a := by intros; rfl) :
    XI K (.enm a) q (m >>= fun a => optM (enmF [V a]) >>= fun l => .ok (g a l)) V3 F3 := by
  unfold XI
  rw [evI]
  refine (h false).bind fun a r q' ⟨h1, h2⟩ => ?_
  subst h1
  exact rl_it (vds1 h2) fun l => ⟨(hF _ _).symm, (hV _ _).symm⟩
theorem xi_rng3 {m : Mo α} {V : α → D} {F : α → Fm} {m2 : α → Mo β} {V2 : α → β → D} {F2 : α → β → Fm} {m3 : α → β → Mo δ} {V4 : α → β → δ → D} {F4 : α → β → δ → Fm} {V3 : γ → List D} {F3 : γ → Fm} (g : α → β → δ → List D → γ) (h : XV K a q m V F) (h2 : ∀ x, XV K b (F x) (m2 x) (V2 x) (F2 x)) (h3 : ∀ x y, XV K c (F2 x y) (m3 x y) (V4 x y) (F4 x y))
    (hV : ∀ a b c l, V3 (g a b c l) = l := by intros; rfl) (hF : ∀ a b c l, F3 (g a b c l) = F4 a b c := by intros; rfl) :
    XI K (.rng3 a b c) q (m >>= fun a => m2 a >>= fun b => m3 a b >>= fun c => optM (rng3F [V a, V2 a b, V4 a b c]) >>= fun l => .ok (g a b c l)) V3 F3 := by
  unfold XI
  rw [evI]
  refine (h false).bind fun x r q' ⟨h1, v1⟩ => ?_
  subst h1
  refine (h2 x false).bind fun y r q' ⟨h1, v2⟩ => ?_
  subst h1
  refine (h3 x y false).bind fun z r q' ⟨h1, v3⟩ => ?_
  subst h1
  exact rl_it (vds3 v1 v2 v3) fun l => ⟨(hF _ _ _ _).symm, (hV _ _ _ _).symm⟩
/-! ### targets -/
def fr1 (q : Fm) (i : Nat) : Bool := match q[i]? with
  | some s => !s.isBor
  | none => false
theorem setName_v {q : Fm} {i : Nat} {d : D} (h : fr1 q i = true) : setName i (.val d) q = .ok () (q.set i (.sh false d)) := by
  unfold fr1 at h
  unfold setName
  cases e : q[i]? with
  | none => rw [e] at h; cases h
  | some s =>
    rw [e] at h
    have hb : s.isBor = false := by simpa using h
    simp [hb]
theorem setName_n {q : Fm} {i : Nat} {d : D} (h : fr1 q i = true) : setName i (.new d) q = .ok () (q.set i (.ow false d)) := by
  unfold fr1 at h
  unfold setName
  cases e : q[i]? with
  | none => rw [e] at h; cases h
  | some s =>
    rw [e] at h
    have hb : s.isBor = false := by simpa using h
    simp [hb]
theorem xl_nm {i : Nat} {d : D} {F : D → Fm} (hs : fr1 q i = true := by rfl) (hF : q.set i (.sh false d) = F d := by rfl) : XTg K (.nm i) d q (.ok d) F := by
  unfold XTg
  show setName i (.val d) q = _
  rw [setName_v hs, hF]
theorem xl_mk {l : LV} {d : D} {m : Mo τ} {F : τ → Fm} (h : ∀ t, m = .ok t → evL K l (.val d) q = .ok () (F t)) (n : ∀ c ds, m ≠ .exc c ds) : XTg K l d q m F := by
  unfold XTg
  cases m with
  | ok t => exact h t rfl
  | exc c ds => exact n c ds rfl
  | bad => trivial
theorem putM_exc {x k d : D} {c : Nat} {ds : List D} : putM x k d ≠ .exc c ds := by
  cases x with
  | lst xs =>
    cases k with
    | int z =>
      intro h
      unfold putM at h
      dsimp only at h
      cases e : L2.ixN xs.length z with
      | none => rw [e] at h; cases h
      | some j => rw [e] at h; cases h
    | _ => exact fun h => nomatch h
  | _ => intro h; cases k <;> cases h
theorem put_eq {i : Nat} {d x k y : D} {bo : Bool} (hi : q[i]? = some (.ow bo x)) (h : putM x k d = .ok y) : setSub i k d q = .ok () (q.set i (.ow bo y)) := by
  unfold setSub
  rw [hi]
  cases x with
  | lst xs =>
    cases k with
    | int z =>
      unfold putM at h
      dsimp only at h ⊢
      cases e : L2.ixN xs.length z with
      | none => rw [e] at h; cases h
      | some j => rw [e] at h; cases h; rfl
    | _ => cases h
  | _ => cases k <;> cases h
theorem xl_sub {i : Nat} {k : E} {d x : D} {bo : Bool} {mk : Mo D} {F : D → Fm} (hi : q[i]? = some (.ow bo x)) (hk : XB K k q mk I1 (Fc q)) (hF : ∀ y, q.set i (.ow bo y) = F y := by intros; rfl) : XTg K (.sub i k) d q (noExc mk >>= fun z => putM x z d) F := xl_mk (n := fun c ds h => by
    cases mk with
    | ok z => exact putM_exc h
    | _ => cases h) fun t ht => by
  have z := hk false
  cases e1 : mk with
  | bad => rw [e1] at ht; cases ht
  | exc _ _ => rw [e1] at ht; cases ht
  | ok k0 =>
    rw [e1] at z ht
    obtain ⟨r, q', e2, h1, h2⟩ := z
    rw [evL, hi]
    show (match ev K k false q with | .ok (.val z) q1 => setSub i z d q1 | _ => .bad) = _
    rw [e2, h2, h1]
    show setSub i k0 d q = _
    rw [put_eq hi ht, hF]
def XTgs {τ : Type} (K : Calls) (l : LVs) (ds : List D) (q : Fm) (m : Mo τ) (F : τ → Fm) : Prop := match m with
  | .ok t => evLs K l ds q = .ok () (F t)
  | .exc _ _ => False
  | .bad => True
theorem xls_one {l : LV} {d : D} {m : Mo τ} {F : τ → Fm} (h : XTg K l d q m F) : XTgs K (.cons l .nil) [d] q m F := by
  unfold XTgs
  unfold XTg at h
  cases m with
  | ok t =>
    rw [evLs, h]
    show evLs K .nil [] (F t) = _
    rw [evLs]
  | exc _ _ => exact h
  | bad => trivial
theorem xls_cons {l : LV} {r : LVs} {d : D} {ds : List D} {m : Mo α} {F : α → Fm} {k : α → Mo β} {F2 : α → β → Fm} {F3 : γ → Fm} (g : α → β → γ) (h : XTg K l d q m F) (h2 : ∀ t, XTgs K r ds (F t) (k t) (F2 t)) (hF : ∀ a b, F3 (g a b) = F2 a b := by intros; rfl) :
    XTgs K (.cons l r) (d :: ds) q (m >>= fun a => k a >>= fun b => .ok (g a b)) F3 := by
  unfold XTg at h
  cases m with
  | ok t =>
    rw [ok_bind]
    have z := h2 t
    unfold XTgs at z ⊢
    cases e : k t with
    | ok u =>
      rw [e] at z
      rw [ok_bind, evLs, h]
      dsimp only
      rw [z, hF]
    | exc _ _ => rw [e] at z; exact z
    | bad => trivial
  | exc _ _ => exact h.elim
  | bad => trivial
theorem xl_tp2 {l : LVs} {d : D} {m : D → D → Mo τ} {F : τ → Fm} (h : ∀ a b, XTgs K l [a, b] q (m a b) F) (hl : l.len = 2 := by rfl) : XTg K (.tp l) d q (un2 d >>= fun x => m x.1 x.2) F := by
  unfold XTg
  cases d with
  | tup ds =>
    match ds with
    | [a, b] =>
      show match m a b with | .ok t => evL K (.tp l) (.val (.tup [a, b])) q = .ok () (F t) | .exc _ _ => False | .bad => True
      rw [evL]
      show match m a b with | .ok t => (if [a, b].length = l.len then evLs K l [a, b] q else .bad) = .ok () (F t) | .exc _ _ => False | .bad => True
      rw [if_pos (by rw [hl]; rfl)]
      exact h a b
    | [] => trivial
    | [_] => trivial
    | _ :: _ :: _ :: _ => trivial
  | _ => trivial
/-- two names -/
theorem xl_nn {i j : Nat} {d : D} {F : D × D → Fm} (hi : fr1 q i = true := by rfl) (hj : ∀ a, fr1 (q.set i (.sh false a)) j = true := by intros; rfl) (hF : ∀ a b, (q.set i (.sh false a)).set j (.sh false b) = F (a, b) := by intros; rfl) : XTg K (.tp (.cons (.nm i) (.cons (.nm j) .nil))) d q (un2 d) F := by
  have z := xl_tp2 (K := K) (q := q) (l := .cons (.nm i) (.cons (.nm j) .nil)) (d := d) (m := fun a b => .ok (a, b)) (F := F) fun a b => by
    show evLs K (.cons (.nm i) (.cons (.nm j) .nil)) [a, b] q = .ok () (F (a, b))
    rw [evLs]
    show (match setName i (.val a) q with | .ok _ q1 => evLs K (.cons (.nm j) .nil) [b] q1 | _ => .bad) = _
    rw [setName_v hi]
    dsimp only
    rw [evLs]
    show (match setName j (.val b) (q.set i (.sh false a)) with | .ok _ q1 => evLs K .nil [] q1 | _ => .bad) = _
    rw [setName_v (hj a)]
    dsimp only
    rw [evLs, hF]
  have e : (un2 d >>= fun x => Mo.ok (x.1, x.2)) = un2 d := by cases un2 d <;> rfl
  rw [e] at z
  exact z
/-! ### comprehensions -/
/-- a frame of a comprehension's turn: as at its start, but for its own names -/
structure CFr (vs : List Nat) (Q Q0 q : Fm) : Prop where
  w : wipeF vs q = Q0
  b : backF vs Q q = Q
/-- one turn: a value, or none -/
def Tn (K : Calls) (vs : List Nat) (g : LV) (t : T) (e : E) (Q Q0 : Fm) (d : D) (m : Mo (Option D)) : Prop := match m with
  | .ok x => ∃ q1 c q2, evL K g (.val d) Q0 = .ok () q1 ∧ evT K t q1 = .ok c q2 ∧ match x with
    | none => c = false ∧ noOw vs q2 = true ∧ CFr vs Q Q0 q2
    | some y => c = true ∧ ∃ r q3, ev K e false q2 = .ok r q3 ∧ r.vd = some y ∧ noOw vs q3 = true ∧ CFr vs Q Q0 q3
  | _ => True
theorem lc_fil {vs : List Nat} {g : LV} {t : T} {Q Q0 : Fm} {f : D → Mo (Option D)} (st : ∀ d, Tn K vs g t e Q Q0 d (f d)) : ∀ (l acc r : List D) (q : Fm), filA f l = .ok r → acc.length + l.length ≤ sizeLine → CFr vs Q Q0 q → ∃ q', loopC vs (fun d q => evL K g (.val d) q) (evT K t) (ev K e false) acc l q = .ok (acc ++ r) q' ∧ CFr vs Q Q0 q'
  | [], acc, r, q, h, hl, c => by cases h; exact ⟨q, by simp [loopC], c⟩
  | d :: l, acc, r, q, h, hl, c => by
    rw [filA] at h
    have z := st d
    unfold Tn at z
    cases e1 : f d with
    | ok x =>
      rw [e1, ok_bind] at h
      rw [e1] at z
      cases e2 : filA f l with
      | ok s =>
        rw [e2, ok_bind] at h
        obtain ⟨q1, cc, q2, z1, z2, z3⟩ := z
        have ha : acc.length < sizeLine := by simp at hl; omega
        cases x with
        | none =>
          obtain ⟨rfl, z4, z5⟩ := z3
          obtain ⟨q', h1, h2⟩ := lc_fil st l acc s q2 e2 (by simp at hl; omega) z5
          cases h
          refine ⟨q', ?_, h2⟩
          rw [loopC, c.w, z1]
          simp only [z2]
          rw [if_pos z4]
          exact h1
        | some y =>
          obtain ⟨rfl, rr, q3, z4, z5, z6, z7⟩ := z3
          obtain ⟨q', h1, h2⟩ := lc_fil st l (acc ++ [y]) s q3 e2 (by simp at hl ⊢; omega) z7
          cases h
          refine ⟨q', ?_, h2⟩
          rw [loopC, c.w, z1]
          simp only [z2, z4, z5]
          rw [if_pos (by rw [z6, decide_eq_true ha]; rfl), h1]
          simp
      | _ => rw [e2] at h; cases h
    | _ => rw [e1] at h; cases h
theorem xn_lc {vs : List Nat} {g : LV} {it : I} {t : T} {mi : Mo α} {Vi : α → List D} {Fi Q0 : α → Fm} {f : α → D → Mo (Option D)} {V3 : γ → D} {F3 : γ → Fm} (gg : α → List D → γ) (hi : XI K it q mi Vi Fi) (st : ∀ a d, Tn K vs g t e (Fi a) (Q0 a) d (f a d))
    (hn : ∀ a, noOw vs (Fi a) = true := by intros; rfl) (hw : ∀ a, wipeF vs (Fi a) = Q0 a := by intros; rfl) (hb : ∀ a, backF vs (Fi a) (Fi a) = Fi a := by intros; rfl) (hV : ∀ a l, V3 (gg a l) = .lst l := by intros; rfl) (hF : ∀ a l, F3 (gg a l) = Fi a := by intros; rfl) :
    XN K (.lc vs g it t e) q (mi >>= fun a => filL (f a) (Vi a) >>= fun l => .ok (gg a l)) V3 F3 := fun pk => by
  rw [ev]
  refine Rl.bind hi fun a l q' ⟨h1, h2⟩ => ?_
  subst h1 h2
  rw [if_pos (hn a)]
  unfold filL
  by_cases hl : (Vi a).length ≤ sizeLine
  · rw [if_pos hl]
    cases e1 : filA (f a) (Vi a) with
    | ok r =>
      obtain ⟨q', h1, h2⟩ := lc_fil (st a) (Vi a) [] r (Fi a) e1 (by simpa using hl) ⟨hw a, hb a⟩
      rw [h1]
      refine Rl.ok ?_
      exact ⟨by rw [hF, h2.b], by rw [hV]; rfl⟩
    | _ => trivial
  · rw [if_neg hl]
    trivial
def Tn1 (K : Calls) (vs : List Nat) (g : LV) (e : E) (Q Q0 : Fm) (d : D) (m : Mo D) : Prop := match m with
  | .ok y => ∃ q1, evL K g (.val d) Q0 = .ok () q1 ∧ ∃ r q3, ev K e false q1 = .ok r q3 ∧ r.vd = some y ∧ noOw vs q3 = true ∧ CFr vs Q Q0 q3
  | _ => True
theorem mapA_fil (f : D → Mo D) : ∀ l : List D, mapA f l = filA (fun d => f d >>= fun y => .ok (some y)) l
  | [] => rfl
  | d :: l => by
    rw [mapA, filA, mapA_fil f l]
    cases f d with
    | ok x => rfl
    | _ => rfl
theorem mapL_fil (f : D → Mo D) (l : List D) : mapL f l = filL (fun d => f d >>= fun y => .ok (some y)) l := by
  unfold mapL filL
  rw [mapA_fil]
theorem xn_lcM {vs : List Nat} {g : LV} {it : I} {mi : Mo α} {Vi : α → List D} {Fi Q0 : α → Fm} {f : α → D → Mo D} {V3 : γ → D} {F3 : γ → Fm} (gg : α → List D → γ) (hi : XI K it q mi Vi Fi) (st : ∀ a d, Tn1 K vs g e (Fi a) (Q0 a) d (f a d))
    (hn : ∀ a, noOw vs (Fi a) = true := by intros; rfl) (hw : ∀ a, wipeF vs (Fi a) = Q0 a := by intros; rfl) (hb : ∀ a, backF vs (Fi a) (Fi a) = Fi a := by intros; rfl) (hV : ∀ a l, V3 (gg a l) = .lst l := by intros; rfl) (hF : ∀ a l, F3 (gg a l) = Fi a := by intros; rfl) :
    XN K (.lc vs g it .yes e) q (mi >>= fun a => mapL (f a) (Vi a) >>= fun l => .ok (gg a l)) V3 F3 := by
  have z := xn_lc (K := K) (q := q) (e := e) (vs := vs) (g := g) (it := it) (t := .yes) (f := fun a d => f a d >>= fun y => .ok (some y)) gg hi (fun a d => by
    have z := st a d
    unfold Tn1 at z
    unfold Tn
    cases e1 : f a d with
    | ok y =>
      rw [e1] at z
      obtain ⟨q1, h1, r, q3, h2, h3, h4, h5⟩ := z
      exact ⟨q1, true, q1, h1, by rw [evT], rfl, r, q3, h2, h3, h4, h5⟩
    | _ => trivial) hn hw hb hV hF
  simp only [← mapL_fil] at z
  exact z
/-- a turn by its parts -/
theorem tn1_of {vs : List Nat} {g : LV} {Q Q0 : Fm} {d : D} {pt : Mo τ} {Fp : τ → Fm} {m : τ → Mo D} {Fe : τ → D → Fm} (hp : XTg K g d Q0 pt Fp) (he : ∀ t, XV K e (Fp t) (m t) I1 (Fe t)) (hn : ∀ t y, noOw vs (Fe t y) = true := by intros; rfl) (hc : ∀ t y, CFr vs Q Q0 (Fe t y) := by intros; exact ⟨rfl, rfl⟩) : Tn1 K vs g e Q Q0 d (pt >>= m) := by
  unfold XTg at hp
  unfold Tn1
  cases pt with
  | ok t =>
    rw [ok_bind]
    have z := he t false
    cases e1 : m t with
    | ok y =>
      rw [e1] at z
      obtain ⟨r, q3, z1, z2, z3⟩ := z
      subst z2
      exact ⟨Fp t, hp, r, _, z1, z3, hn t y, hc t y⟩
    | _ => trivial
  | _ => trivial
/-! a comprehension whose element draws: S the frame by what is drawn from -/
theorem lc_S {σ : Type} {vs : List Nat} {g : LV} {Q Q0 : σ → Fm} {f : D → σ → Mo (D × σ)} (st : ∀ d s, match f d s with
      | .ok y => ∃ q1, evL K g (.val d) (Q0 s) = .ok () q1 ∧ ∃ r q3, ev K e false q1 = .ok r q3 ∧ r.vd = some y.1 ∧ noOw vs q3 = true ∧ wipeF vs q3 = Q0 y.2 ∧ ∀ s0, backF vs (Q s0) q3 = Q y.2
      | _ => True) : ∀ (l acc : List D) (s : σ) (r : List D × σ) (q : Fm), mapS f l s = .ok r → acc.length + l.length ≤ sizeLine → wipeF vs q = Q0 s → (∀ s0, backF vs (Q s0) q = Q s) →
    ∃ q', loopC vs (fun d q => evL K g (.val d) q) (evT K .yes) (ev K e false) acc l q = .ok (acc ++ r.1) q' ∧ ∀ s0, backF vs (Q s0) q' = Q r.2
  | [], acc, s, r, q, h, hl, c, c2 => by cases h; exact ⟨q, by simp [loopC], c2⟩
  | d :: l, acc, s, r, q, h, hl, c, c2 => by
    rw [mapS] at h
    have z := st d s
    cases e1 : f d s with
    | ok y =>
      rw [e1, ok_bind] at h
      rw [e1] at z
      cases e2 : mapS f l y.2 with
      | ok u =>
        rw [e2, ok_bind] at h
        obtain ⟨q1, z1, rr, q3, z2, z3, z4, z5, z6⟩ := z
        have ha : acc.length < sizeLine := by simp at hl; omega
        obtain ⟨q', h1, h2⟩ := lc_S st l (acc ++ [y.1]) y.2 u q3 e2 (by simp at hl ⊢; omega) z5 z6
        cases h
        refine ⟨q', ?_, h2⟩
        rw [loopC, c, z1]
        have ey : evT K .yes q1 = .ok true q1 := by rw [evT]
        simp only [ey, z2, z3]
        rw [if_pos (by rw [z4, decide_eq_true ha]; rfl), h1]
        simp
      | _ => rw [e2] at h; cases h
    | _ => rw [e1] at h; cases h
theorem xn_lcS {σ : Type} {vs : List Nat} {g : LV} {it : I} {mi : Mo α} {Vi : α → List D} {s0 : α → σ} {Q Q0 : σ → Fm} {Fi : α → Fm} {pt : D → σ → Mo τ} {Fp : τ → σ → Fm} {m : τ → σ → Mo (D × σ)} {Fe : τ → D → σ → Fm} {V3 : γ → D} {F3 : γ → Fm} (gg : List D × σ → γ) (hi : XI K it q mi Vi Fi)
    (hp : ∀ d s, XTg K g d (Q0 s) (pt d s) (fun t => Fp t s)) (he : ∀ t s, XV K e (Fp t s) (m t s) (fun y => y.1) (fun y => Fe t y.1 y.2))
    (hq : ∀ a, Fi a = Q (s0 a) := by intros; rfl) (hn : ∀ s, noOw vs (Q s) = true := by intros; rfl) (hw : ∀ s, wipeF vs (Q s) = Q0 s := by intros; rfl) (hb : ∀ s s', backF vs (Q s') (Q s) = Q s := by intros; rfl)
    (hn2 : ∀ t y s, noOw vs (Fe t y s) = true := by intros; rfl) (hw2 : ∀ t y s, wipeF vs (Fe t y s) = Q0 s := by intros; rfl) (hb2 : ∀ t y s s', backF vs (Q s') (Fe t y s) = Q s := by intros; rfl) (hV : ∀ x, V3 (gg x) = .lst x.1 := by intros; rfl) (hF : ∀ x, F3 (gg x) = Q x.2 := by intros; rfl) :
    XN K (.lc vs g it .yes e) q (mi >>= fun a => mapSL (fun d s => pt d s >>= fun t => m t s) (Vi a) (s0 a) >>= fun x => .ok (gg x)) V3 F3 := fun pk => by
  rw [ev]
  refine Rl.bind hi fun a l q' ⟨h1, h2⟩ => ?_
  subst h1 h2
  rw [if_pos (by rw [hq]; exact hn _)]
  unfold mapSL
  by_cases hl : (Vi a).length ≤ sizeLine
  · rw [if_pos hl]
    cases e1 : mapS (fun d s => pt d s >>= fun t => m t s) (Vi a) (s0 a) with
    | ok r =>
      obtain ⟨q', h1, h2⟩ := lc_S (K := K) (e := e) (vs := vs) (g := g) (Q := Q) (Q0 := Q0) (f := fun d s => pt d s >>= fun t => m t s) (fun d s => by
        have z1 := hp d s
        unfold XTg at z1
        cases e2 : pt d s with
        | ok t =>
          rw [e2] at z1
          have z2 := he t s false
          show match m t s with | .ok y => _ | _ => True
          cases e3 : m t s with
          | ok y =>
            rw [e3] at z2
            obtain ⟨r, q3, z4, z5, z6⟩ := z2
            subst z5
            exact ⟨_, z1, r, _, z4, z6, hn2 _ _ _, hw2 _ _ _, fun s' => hb2 _ _ _ s'⟩
          | _ => trivial
        | _ => trivial) (Vi a) [] (s0 a) r (Fi a) e1 (by simpa using hl) (by rw [hq]; exact hw _) (fun s' => by rw [hq]; exact hb _ _)
      rw [h1]
      refine Rl.ok ?_
      refine ⟨?_, by rw [hV]; rfl⟩
      rw [hF]
      show backF vs (Fi a) q' = _
      rw [hq]
      exact h2 _
    | _ => trivial
  · rw [if_neg hl]
    trivial
end
end M

set_option Elab.async false
set_option linter.all false
set_option maxRecDepth 100000
set_option maxHeartbeats 1000000
/-! C3: statements, defs. -/
namespace M
open PySem
/-- how a body ends -/
inductive Fl (α ρ : Type) where
  | nx (a : α) | brk (a : α) | ret (r : ρ)
def Fl.on {α ρ γ : Type} (x : Fl α ρ) (k : α → Mo γ) (h : ρ → Mo γ) : Mo γ := match x with
  | .nx a => k a
  | .brk a => k a
  | .ret r => h r
section
variable {α ρ γ : Type}
@[simp] theorem on_nx (a : α) (k : α → Mo γ) (h : ρ → Mo γ) : Fl.on (.nx a) k h = k a := rfl
@[simp] theorem on_brk (a : α) (k : α → Mo γ) (h : ρ → Mo γ) : Fl.on (.brk a) k h = k a := rfl
@[simp] theorem on_ret (r : ρ) (k : α → Mo γ) (h : ρ → Mo γ) : Fl.on (.ret r) k h = h r := rfl
def foldN (f : α → D → Mo α) : α → List D → Mo α
  | s, [] => .ok s
  | s, d :: l => f s d >>= fun s' => foldN f s' l
def foldB (f : α → D → Mo (Fl α ρ)) : α → List D → Mo (Fl α ρ)
  | s, [] => .ok (.nx s)
  | s, d :: l => f s d >>= fun x => match x with
    | .nx s' => foldB f s' l
    | .brk s' => .ok (.nx s')
    | .ret r => .ok (.ret r)
def appM : D → D → Mo D
  | .lst xs, d => if xs.length < sizeLine then .ok (.lst (xs ++ [d])) else .bad
  | _, _ => .bad
def extM : D → D → Mo D
  | .lst xs, .lst ys => if xs.length + ys.length ≤ sizeLine then .ok (.lst (xs ++ ys)) else .bad
  | .lst xs, .tup ys => if xs.length + ys.length ≤ sizeLine then .ok (.lst (xs ++ ys)) else .bad
  | _, _ => .bad
end
def evKs (K : Calls) : List Ss → Fm → SRes
  | [], q => .nx q
  | s :: ks, q => match evSs K s q with
    | .nx q1 => evKs K ks q1
    | x => x
def SR {γ : Type} (K : Calls) (s : Ss) (ks : List Ss) (q : Fm) (m : Mo γ) (P : γ → SRes → Prop) : Prop := match m with
  | .ok g => P g (evKs K (s :: ks) q)
  | .exc c ds => ∃ q', evKs K (s :: ks) q = .exc c ds q'
  | .bad => True
/-- goes on -/
def PN {α : Type} (F : α → Fm) : α → SRes → Prop := fun a x => x = .nx (F a)
def PNc {α : Type} (F : α → Fm) : α → SRes → Prop := fun a x => x = .nx (F a) ∨ x = .cnt (F a)
def IsRet (x : SRes) : Prop := ∃ v q, x = .ret v q
def PB {α ρ : Type} (F : α → Fm) (R : ρ → SRes → Prop) : Fl α ρ → SRes → Prop
  | .nx a, x => x = .nx (F a) ∨ x = .cnt (F a)
  | .brk a, x => x = .brk (F a)
  | .ret r, x => R r x ∧ IsRet x
section
variable {α β γ δ τ ρ : Type} {K : Calls} {q q1 : Fm} {e a b c : E} {p : P} {r s sa sb : Ss} {ks : List Ss} {P : γ → SRes → Prop}
theorem SR.of_eq {q' : Fm} {s' : Ss} {ks' : List Ss} {m : Mo γ} (h : SR K s' ks' q' m P) (e : evKs K (s :: ks) q = evKs K (s' :: ks') q') : SR K s ks q m P := by
  unfold SR at h ⊢
  rw [e]
  exact h
theorem sr_nil {m : Mo γ} (h : SR K r ks q m P) : SR K .nil (r :: ks) q m P := h.of_eq (by
  rw [evKs]
  rw [show evSs K .nil q = .nx q from by rw [evSs]])
theorem sr_end {g : γ} (h : P g (.nx q)) : SR K .nil [] q (.ok g) P := by
  show P g (evKs K [.nil] q)
  rw [evKs, show evSs K .nil q = .nx q from by rw [evSs]]
  exact h
theorem ks_cons {x : S} (h : evS K x q = .nx q1) : evKs K (.cons x r :: ks) q = evKs K (r :: ks) q1 := by
  rw [evKs, evSs, h, evKs]
theorem ks_exc {x : S} {c : Nat} {ds : List D} (h : evS K x q = .exc c ds q1) : evKs K (.cons x r :: ks) q = .exc c ds q1 := by
  rw [evKs, evSs, h]
theorem ks_ret {x : S} {v : RV} (h : evS K x q = .ret v q1) : evKs K (.cons x r :: ks) q = .ret v q1 := by
  rw [evKs, evSs, h]
/-- a step and what comes behind it -/
theorem SR.step {x : S} {m : Mo α} {k : α → Mo γ} {F : α → Fm} (h1 : ∀ a, m = .ok a → evS K x q = .nx (F a)) (h2 : ∀ c ds, m = .exc c ds → ∃ q', evS K x q = .exc c ds q') (hr : ∀ a, SR K r ks (F a) (k a) P) : SR K (.cons x r) ks q (m >>= k) P := by
  cases m with
  | ok a => exact (hr a).of_eq (ks_cons (h1 a rfl))
  | exc c ds =>
    obtain ⟨q', e⟩ := h2 c ds rfl
    exact ⟨q', ks_exc e⟩
  | bad => trivial
theorem sr_kil {is : List Nat} {m : Mo γ} (h : SR K r ks q1 m P) (e : wipeF is q = q1 := by rfl) : SR K (.cons (.kil is) r) ks q m P := h.of_eq (ks_cons (by rw [evS, e]))
theorem sr_shr {is : List Nat} {m : Mo γ} (h : SR K r ks q1 m P) (e : shrF is q = q1 := by rfl) : SR K (.cons (.shr is) r) ks q m P := h.of_eq (ks_cons (by rw [evS, e]))
theorem sr_nev : SR K (.cons .nev r) ks q .bad P := trivial
theorem sr_set {i : Nat} {m : Mo α} {V : α → D} {F F' : α → Fm} {k : α → Mo γ} (h : XV K e q m V F) (hr : ∀ a, SR K r ks (F' a) (k a) P) (hi : ∀ a, fr1 (F a) i = true := by intros; rfl) (hF : ∀ a, (F a).set i (.sh false (V a)) = F' a := by intros; rfl) : SR K (.cons (.asgS (.nm i) e) r) ks q (m >>= k) P := by
  refine SR.step (F := F') (fun a ha => ?_) (fun c ds hc => ?_) hr
  · have z := h false
    rw [ha] at z
    obtain ⟨x, q', e1, rfl, hv⟩ := z
    rw [evS, e1]
    show (match setName i x.down (F a) with | .ok _ q2 => SRes.nx q2 | _ => .bad) = _
    have : x.down = .val (V a) := by cases x <;> cases hv <;> rfl
    rw [this, setName_v (hi a)]
    exact congrArg _ (hF a)
  · have z := h false
    rw [hc] at z
    obtain ⟨q', e1⟩ := z
    exact ⟨q', by rw [evS, e1]; rfl⟩
/-- a new list for a name -/
theorem sr_new {i : Nat} {m : Mo α} {V : α → D} {F F' : α → Fm} {k : α → Mo γ} (h : XN K e q m V F) (hr : ∀ a, SR K r ks (F' a) (k a) P) (hi : ∀ a, fr1 (F a) i = true := by intros; rfl) (hF : ∀ a, (F a).set i (.ow false (V a)) = F' a := by intros; rfl) : SR K (.cons (.asg (.nm i) e) r) ks q (m >>= k) P := by
  refine SR.step (F := F') (fun a ha => ?_) (fun c ds hc => ?_) hr
  · have z := h false
    rw [ha] at z
    obtain ⟨x, q', e1, rfl, rfl⟩ := z
    rw [evS, e1]
    show (match setName i (.new (V a)) (F a) with | .ok _ q2 => SRes.nx q2 | _ => .bad) = _
    rw [setName_n (hi a)]
    exact congrArg _ (hF a)
  · have z := h false
    rw [hc] at z
    obtain ⟨q', e1⟩ := z
    exact ⟨q', by rw [evS, e1]; rfl⟩
/-- other targets -/
theorem sr_tgt {l : LV} {m : Mo α} {V : α → D} {F : α → Fm} {pt : α → Mo τ} {Ft : α → τ → Fm} {k : α → τ → Mo γ} (h : XV K e q m V F) (hl : ∀ a, XTg K l (V a) (F a) (pt a) (Ft a)) (hr : ∀ a t, SR K r ks (Ft a t) (k a t) P) : SR K (.cons (.asgS l e) r) ks q (m >>= fun a => pt a >>= fun t => k a t) P := by
  have z := h false
  cases m with
  | bad => trivial
  | exc c ds =>
    obtain ⟨q', e1⟩ := z
    exact ⟨q', ks_exc (by rw [evS, e1]; rfl)⟩
  | ok a =>
    rw [ok_bind]
    obtain ⟨x, q', e1, rfl, hv⟩ := z
    have z := hl a
    unfold XTg at z
    cases e2 : pt a with
    | ok t =>
      rw [e2] at z
      rw [ok_bind]
      refine (hr a t).of_eq (ks_cons ?_)
      rw [evS, e1]
      show (match evL K l x.down (F a) with | .ok _ q2 => SRes.nx q2 | _ => .bad) = _
      have : x.down = .val (V a) := by cases x <;> cases hv <;> rfl
      rw [this, z]
    | exc c ds => rw [e2] at z; exact z.elim
    | bad => trivial
/-- what a name gets: a new list or a value -/
def XQ {α : Type} (fl : Bool) (K : Calls) (e : E) (q : Fm) (m : Mo α) (V : α → D) (F : α → Fm) : Prop := ∀ pk, Rl (ev K e pk q) m fun a r q' => q' = F a ∧ r = if fl then .new (V a) else .val (V a)
theorem xq_b {m : Mo α} {V : α → D} {F : α → Fm} (h : XB K e q m V F) : XQ false K e q m V F := h
def slF (fl : Bool) (d : D) : Slot := if fl then .ow false d else .sh false d
theorem setName_q {q : Fm} {i : Nat} {d : D} {fl : Bool} (h : fr1 q i = true) : setName i (if fl then .new d else .val d) q = .ok () (q.set i (slF fl d)) := by
  cases fl
  · exact setName_v h
  · exact setName_n h
theorem sr_par2 {i j : Nat} {f1 f2 : Bool} {m : Mo α} {V : α → D} {F : α → Fm} {m2 : α → Mo β} {V2 : α → β → D} {F2 F' : α → β → Fm} {k : α → β → Mo γ} (h1 : XQ f1 K a q m V F) (h2 : ∀ x, XQ f2 K b (F x) (m2 x) (V2 x) (F2 x)) (hr : ∀ x y, SR K r ks (F' x y) (k x y) P)
    (hj : ∀ x y, fr1 (F2 x y) j = true := by intros; rfl) (hi : ∀ x y, fr1 ((F2 x y).set j (slF f2 (V2 x y))) i = true := by intros; rfl) (hF : ∀ x y, ((F2 x y).set j (slF f2 (V2 x y))).set i (slF f1 (V x)) = F' x y := by intros; rfl) :
    SR K (.cons (.par2 i j a b) r) ks q (m >>= fun x => m2 x >>= fun y => k x y) P := by
  have z := h1 false
  cases m with
  | bad => trivial
  | exc c ds =>
    obtain ⟨q', e1⟩ := z
    exact ⟨q', ks_exc (by rw [evS, e1]; rfl)⟩
  | ok x =>
    rw [ok_bind]
    obtain ⟨x1, q', e1, rfl, rfl⟩ := z
    refine SR.step (F := F' x) (fun y hy => ?_) (fun c ds hc => ?_) (hr x)
    · have z := h2 x false
      rw [hy] at z
      obtain ⟨x2, q', e2, rfl, rfl⟩ := z
      rw [evS, e1]
      show ofR (ev K b false (F x)) _ = _
      rw [e2]
      show setNs [(j, _), (i, _)] (F2 x y) = _
      rw [setNs, setName_q (hj x y)]
      dsimp only
      rw [setNs, setName_q (hi x y)]
      dsimp only
      rw [setNs, hF]
    · have z := h2 x false
      rw [hc] at z
      obtain ⟨q', e2⟩ := z
      exact ⟨q', by rw [evS, e1]; show ofR (ev K b false (F x)) _ = _; rw [e2]; rfl⟩
/-! returns -/
theorem sr_retS {m : Mo α} {V : α → D} {F : α → Fm} (g : α → γ) (h : XV K e q m V F) (hP : ∀ a, P (g a) (.ret (.val (V a)) (F a))) : SR K (.cons (.retS e) r) ks q (m >>= fun a => .ok (g a)) P := by
  have z := h false
  cases m with
  | bad => trivial
  | exc c ds =>
    obtain ⟨q', e1⟩ := z
    exact ⟨q', ks_exc (by rw [evS, e1]; rfl)⟩
  | ok a =>
    obtain ⟨x, q', e1, rfl, hv⟩ := z
    show P (g a) (evKs K (.cons (.retS e) r :: ks) q)
    have : x.down = .val (V a) := by cases x <;> cases hv <;> rfl
    rw [ks_ret (q1 := F a) (v := .val (V a)) (by rw [evS, e1]; show SRes.ret x.down _ = _; rw [this])]
    exact hP a
theorem sr_retW {m : Mo α} {V : α → D} {F : α → Fm} (g : α → γ) (h : XN K e q m V F) (hP : ∀ a, P (g a) (.ret (.new (V a)) (F a))) : SR K (.cons (.ret e) r) ks q (m >>= fun a => .ok (g a)) P := by
  have z := h false
  cases m with
  | bad => trivial
  | exc c ds =>
    obtain ⟨q', e1⟩ := z
    exact ⟨q', ks_exc (by rw [evS, e1]; rfl)⟩
  | ok a =>
    obtain ⟨x, q', e1, rfl, rfl⟩ := z
    show P (g a) (evKs K (.cons (.ret e) r :: ks) q)
    rw [ks_ret (q1 := F a) (v := .new (V a)) (by rw [evS, e1]; rfl)]
    exact hP a
/-! expressions as statements -/
theorem app_eq {i : Nat} {x d y : D} {bo : Bool} {q : Fm} (hi : q[i]? = some (.ow bo x)) (h : appM x d = .ok y) : appR i d q = .ok (.val .non) (q.set i (.ow bo y)) := by
  unfold appR
  rw [hi]
  cases x with
  | lst xs =>
    unfold appM at h
    dsimp only at h ⊢
    by_cases hl : xs.length < sizeLine
    · rw [if_pos hl] at h ⊢; cases h; rfl
    · rw [if_neg hl] at h; cases h
  | _ => cases h
theorem ext_eq {i : Nat} {x d y : D} {bo : Bool} {q : Fm} (hi : q[i]? = some (.ow bo x)) (h : extM x d = .ok y) : extR i d q = .ok (.val .non) (q.set i (.ow bo y)) := by
  unfold extR
  rw [hi]
  cases x with
  | lst xs =>
    cases d with
    | lst ys =>
      unfold extM at h
      dsimp only at h ⊢
      by_cases hl : xs.length + ys.length ≤ sizeLine
      · rw [if_pos hl] at h ⊢; cases h; rfl
      · rw [if_neg hl] at h; cases h
    | tup ys =>
      unfold extM at h
      dsimp only at h ⊢
      by_cases hl : xs.length + ys.length ≤ sizeLine
      · rw [if_pos hl] at h ⊢; cases h; rfl
      · rw [if_neg hl] at h; cases h
    | _ => cases h
  | _ => cases d <;> cases h
theorem appM_exc {x d : D} {c : Nat} {ds : List D} : appM x d ≠ .exc c ds := by
  cases x with
  | lst xs =>
    intro h
    unfold appM at h
    dsimp only at h
    by_cases hl : xs.length < sizeLine
    · rw [if_pos hl] at h; cases h
    · rw [if_neg hl] at h; cases h
  | _ => exact fun h => nomatch h
theorem extM_exc {x d : D} {c : Nat} {ds : List D} : extM x d ≠ .exc c ds := by
  cases x with
  | lst xs =>
    cases d with
    | lst ys =>
      intro h
      unfold extM at h
      dsimp only at h
      by_cases hl : xs.length + ys.length ≤ sizeLine
      · rw [if_pos hl] at h; cases h
      · rw [if_neg hl] at h; cases h
    | tup ys =>
      intro h
      unfold extM at h
      dsimp only at h
      by_cases hl : xs.length + ys.length ≤ sizeLine
      · rw [if_pos hl] at h; cases h
      · rw [if_neg hl] at h; cases h
    | _ => exact fun h => nomatch h
  | _ => intro h; cases d <;> cases h
theorem sr_app {i : Nat} {bo : α → Bool} {x : α → D} {m : Mo α} {V : α → D} {F : α → Fm} {F' : α → D → Fm} {k : α → D → Mo γ} (h : XV K e q m V F) (hi : ∀ a, (F a)[i]? = some (.ow (bo a) (x a))) (hr : ∀ a y, SR K r ks (F' a y) (k a y) P) (hF : ∀ a y, (F a).set i (.ow (bo a) y) = F' a y := by intros; rfl) (h0 : isOwn q[i]? = true := by rfl) :
    SR K (.cons (.expr (.app i e)) r) ks q (m >>= fun a => appM (x a) (V a) >>= fun y => k a y) P := by
  have z := h false
  cases m with
  | bad => trivial
  | exc c ds =>
    obtain ⟨q', e1⟩ := z
    exact ⟨q', ks_exc (by rw [evS, ev, if_pos h0, e1]; rfl)⟩
  | ok a =>
    rw [ok_bind]
    obtain ⟨x1, q', e1, rfl, hv⟩ := z
    refine SR.step (F := F' a) (fun y hy => ?_) (fun c ds hc => absurd hc appM_exc) (hr a)
    rw [evS, ev, if_pos h0, e1]
    show ofR (match x1.vd with | some d => appR i d (F a) | none => .bad) _ = _
    rw [hv]
    dsimp only
    rw [app_eq (hi a) hy, hF]
    rfl
theorem sr_ext {i : Nat} {bo : α → Bool} {x : α → D} {m : Mo α} {V : α → D} {F : α → Fm} {F' : α → D → Fm} {k : α → D → Mo γ} (h : XV K e q m V F) (hi : ∀ a, (F a)[i]? = some (.ow (bo a) (x a))) (hr : ∀ a y, SR K r ks (F' a y) (k a y) P) (hF : ∀ a y, (F a).set i (.ow (bo a) y) = F' a y := by intros; rfl) (h0 : isOwn q[i]? = true := by rfl) :
    SR K (.cons (.expr (.ext i e)) r) ks q (m >>= fun a => extM (x a) (V a) >>= fun y => k a y) P := by
  have z := h false
  cases m with
  | bad => trivial
  | exc c ds =>
    obtain ⟨q', e1⟩ := z
    exact ⟨q', ks_exc (by rw [evS, ev, if_pos h0, e1]; rfl)⟩
  | ok a =>
    rw [ok_bind]
    obtain ⟨x1, q', e1, rfl, hv⟩ := z
    refine SR.step (F := F' a) (fun y hy => ?_) (fun c ds hc => absurd hc extM_exc) (hr a)
    rw [evS, ev, if_pos h0, e1]
    show ofR (match x1.vd with | some d => extR i d (F a) | none => .bad) _ = _
    rw [hv]
    dsimp only
    rw [ext_eq (hi a) hy, hF]
    rfl
/-! choices -/
theorem sr_if {t : T} {m : Mo α} {V : α → Bool} {F : α → Fm} {ka kb : α → Mo γ} (h : XT K t q m V F) (ha : ∀ x, SR K sa (r :: ks) (F x) (ka x) P) (hb : ∀ x, SR K sb (r :: ks) (F x) (kb x) P) : SR K (.cons (.ift t sa sb) r) ks q (m >>= fun x => if V x then ka x else kb x) P := by
  unfold XT at h
  cases m with
  | bad => trivial
  | exc c ds =>
    obtain ⟨q', e1⟩ := h
    exact ⟨q', ks_exc (by rw [evS, e1]; rfl)⟩
  | ok x =>
    obtain ⟨b, q', e1, rfl, rfl⟩ := h
    rw [ok_bind]
    cases e2 : V x with
    | true =>
      refine SR.of_eq (ha x) ?_
      rw [evKs, evSs, evS, e1, e2]
      show (match (match evSs K sa (F x) with | .nx q1 => evSs K r q1 | x => x) with | .nx q1 => evKs K ks q1 | x => x) = evKs K (sa :: r :: ks) (F x)
      rw [evKs]
      cases evSs K sa (F x) with
      | nx q1 => dsimp only; rw [evKs]
      | _ => rfl
    | false =>
      refine SR.of_eq (hb x) ?_
      rw [evKs, evSs, evS, e1, e2]
      show (match (match evSs K sb (F x) with | .nx q1 => evSs K r q1 | x => x) with | .nx q1 => evKs K ks q1 | x => x) = evKs K (sb :: r :: ks) (F x)
      rw [evKs]
      cases evSs K sb (F x) with
      | nx q1 => dsimp only; rw [evKs]
      | _ => rfl
theorem ks_one {s : Ss} : evKs K [s] q = evSs K s q := by
  rw [evKs]
  cases evSs K s q with
  | nx q1 => dsimp only; rw [evKs]
  | _ => rfl
end
end M

set_option Elab.async false
set_option linter.all false
set_option maxRecDepth 100000
set_option maxHeartbeats 1000000
/-! C4: loops, defs, constructors. -/
namespace M
open PySem
section
variable {α β γ δ τ ρ : Type} {K : Calls} {q q1 : Fm} {e a b c : E} {p : P} {r s sa sb : Ss} {ks : List Ss} {P : γ → SRes → Prop}
theorem ans_ret {F : β → Fm} {R : ρ → SRes → Prop} {body : Fm → SRes} {asg : D → Fm → Res Unit} {f : β → D → Mo (Fl β ρ)}
    (st : ∀ s d, match f s d with
      | .ok x => ∃ q1, asg d (F s) = .ok () q1 ∧ PB F R x (body q1)
      | .exc c ds => ∃ q1 q2, asg d (F s) = .ok () q1 ∧ body q1 = .exc c ds q2
      | .bad => True) : ∀ (l : List D) (s : β), match foldB f s l with
      | .ok (.nx s') => loopF asg body l (F s) = .nx (F s')
      | .ok (.ret x) => R x (loopF asg body l (F s)) ∧ IsRet (loopF asg body l (F s))
      | .ok (.brk _) => False
      | .exc c ds => ∃ q2, loopF asg body l (F s) = .exc c ds q2
      | .bad => True
  | [], s => rfl
  | d :: l, s => by
    rw [foldB]
    have z := st s d
    cases e1 : f s d with
    | bad => trivial
    | exc c ds =>
      rw [e1] at z
      obtain ⟨q1, q2, h1, h2⟩ := z
      exact ⟨q2, by rw [loopF, h1]; dsimp only; rw [h2]⟩
    | ok x =>
      rw [e1] at z
      rw [ok_bind]
      obtain ⟨q1, h1, h2⟩ := z
      cases x with
      | nx s' =>
        have ih := ans_ret st l s'
        have e3 : loopF asg body (d :: l) (F s) = loopF asg body l (F s') := by
          rw [loopF, h1]
          dsimp only
          rcases h2 with h2 | h2 <;> rw [h2]
        rw [e3]
        exact ih
      | brk s' =>
        show loopF asg body (d :: l) (F s) = .nx (F s')
        have h2 : body q1 = .brk (F s') := h2
        rw [loopF, h1]
        dsimp only
        rw [h2]
      | ret x =>
        obtain ⟨h2, v, q2, h3⟩ := h2
        have e3 : loopF asg body (d :: l) (F s) = body q1 := by
          rw [loopF, h1]
          dsimp only
          rw [h3]
        show R x (loopF asg body (d :: l) (F s)) ∧ IsRet (loopF asg body (d :: l) (F s))
        rw [e3]
        exact ⟨h2, v, q2, h3⟩
theorem sr_for {it : I} {l : LV} {mi : Mo α} {Vi : α → List D} {Fi : α → Fm} {F : β → Fm} {pt : β → D → Mo τ} {Ft : β → τ → Fm} {st : β → τ → Mo (Fl β ρ)} {R : ρ → SRes → Prop} {k : β → Mo γ} (b0 : α → β) (rt : ρ → γ)
    (hi : XI K it q mi Vi Fi) (ht : ∀ s d, XTg K l d (F s) (pt s d) (Ft s)) (hb : ∀ s t, SR K sa [] (Ft s t) (st s t) (PB F R)) (hr : ∀ s, SR K r ks (F s) (k s) P) (hP : ∀ x y, R x y → IsRet y → P (rt x) y) (hF : ∀ a, Fi a = F (b0 a) := by intros; rfl) :
    SR K (.cons (.for l it sa) r) ks q (mi >>= fun a => foldB (fun s d => pt s d >>= fun t => st s t) (b0 a) (Vi a) >>= fun x => Fl.on x k fun x => .ok (rt x)) P := by
  unfold XI at hi
  cases mi with
  | bad => trivial
  | exc c ds =>
    obtain ⟨q', e1⟩ := hi
    exact ⟨q', ks_exc (by rw [evS, e1]; rfl)⟩
  | ok a =>
    obtain ⟨l0, q', e1, rfl, rfl⟩ := hi
    rw [ok_bind]
    have key := ans_ret (F := F) (R := R) (body := evSs K sa) (asg := fun d q => evL K l (.val d) q) (f := fun s d => pt s d >>= fun t => st s t) (fun s d => by
      have z := ht s d
      unfold XTg at z
      show match (pt s d >>= fun t => st s t) with | .ok x => _ | .exc c ds => _ | .bad => _
      cases e2 : pt s d with
      | bad => trivial
      | exc c ds => rw [e2] at z; exact z.elim
      | ok t =>
        rw [e2] at z
        rw [ok_bind]
        have y := hb s t
        unfold SR at y
        cases e3 : st s t with
        | bad => trivial
        | exc c ds =>
          rw [e3] at y
          obtain ⟨q2, h⟩ := y
          exact ⟨_, q2, z, by rw [← ks_one]; exact h⟩
        | ok x =>
          rw [e3] at y
          exact ⟨_, z, by rw [← ks_one]; exact y⟩) (Vi a) (b0 a)
    have e2 : evS K (.for l it sa) q = loopF (fun d q => evL K l (.val d) q) (evSs K sa) (Vi a) (F (b0 a)) := by
      rw [evS, e1, ← hF]; rfl
    cases e3 : foldB (fun s d => pt s d >>= fun t => st s t) (b0 a) (Vi a) with
    | bad => trivial
    | exc c ds =>
      rw [e3] at key
      obtain ⟨q2, h⟩ := key
      exact ⟨q2, ks_exc (by rw [e2, h])⟩
    | ok x =>
      rw [e3] at key
      rw [ok_bind]
      cases x with
      | nx s' => exact (hr s').of_eq (ks_cons (by rw [e2]; exact key))
      | brk s' => exact key.elim
      | ret x =>
        obtain ⟨h1, v, q2, h2⟩ := key
        rw [← e2] at h1 h2
        have e4 : evKs K (.cons (.for l it sa) r :: ks) q = evS K (.for l it sa) q := by
          rw [ks_ret h2, h2]
        show P (rt x) (evKs K (.cons (.for l it sa) r :: ks) q)
        rw [e4]
        exact hP _ _ h1 ⟨v, q2, h2⟩
theorem foldN_B (f : β → D → Mo β) (g : β → D → Mo (Fl β ρ)) (h : ∀ s d, g s d = f s d >>= fun s' => .ok (.nx s')) : ∀ (l : List D) (s : β), foldB g s l = foldN f s l >>= fun s' => .ok (.nx s')
  | [], s => rfl
  | d :: l, s => by
    rw [foldB, foldN, h]
    cases f s d with
    | ok x => exact foldN_B f g h l x
    | _ => rfl
theorem SR.map {P' : δ → SRes → Prop} {m : Mo γ} (g : γ → δ) (h : SR K s ks q m P) (i : ∀ x y, P x y → P' (g x) y) : SR K s ks q (m >>= fun x => .ok (g x)) P' := by
  unfold SR at h ⊢
  cases m with
  | ok x => exact i _ _ h
  | exc c ds => exact h
  | bad => trivial
theorem sr_forN {it : I} {l : LV} {mi : Mo α} {Vi : α → List D} {Fi : α → Fm} {F : β → Fm} {pt : β → D → Mo τ} {Ft : β → τ → Fm} {st : β → τ → Mo β} {k : β → Mo γ} (b0 : α → β)
    (hi : XI K it q mi Vi Fi) (ht : ∀ s d, XTg K l d (F s) (pt s d) (Ft s)) (hb : ∀ s t, SR K sa [] (Ft s t) (st s t) (PNc F)) (hr : ∀ s, SR K r ks (F s) (k s) P) (hF : ∀ a, Fi a = F (b0 a) := by intros; rfl) :
    SR K (.cons (.for l it sa) r) ks q (mi >>= fun a => foldN (fun s d => pt s d >>= fun t => st s t) (b0 a) (Vi a) >>= k) P := by
  have z := sr_for (K := K) (ρ := PEmpty) (γ := γ) (P := P) (q := q) (ks := ks) (r := r) (sa := sa) (st := fun s t => st s t >>= fun s' => .ok (.nx s')) (R := fun _ _ => False) (k := k) b0 (fun x => x.elim) hi ht (fun s t => (hb s t).map _ fun x y h => h) hr (fun x => x.elim) hF
  have e : (fun a => foldB (ρ := PEmpty) (fun s d => pt s d >>= fun t => st s t >>= fun s' => .ok (.nx s')) (b0 a) (Vi a) >>= fun x => Fl.on x k fun x => Mo.ok (x.elim : γ)) = fun a => foldN (fun s d => pt s d >>= fun t => st s t) (b0 a) (Vi a) >>= k := by
    funext a
    rw [foldN_B (ρ := PEmpty) (fun s d => pt s d >>= fun t => st s t) _ (fun s d => (bind_bind _ _ _).symm)]
    rw [bind_bind]
    rfl
  rw [e] at z
  exact z
/-! ### defs -/
theorem sr_retP {m : Mo γ} {V : γ → D} {F : γ → Fm} (h : XV K e q m V F) (hP : ∀ a, P a (.ret (.val (V a)) (F a))) : SR K (.cons (.retS e) r) ks q m P := by
  have z := sr_retS (K := K) (r := r) (ks := ks) (P := P) (fun a => a) h hP
  rw [bind_ok] at z
  exact z
theorem sr_retWP {m : Mo γ} {V : γ → D} {F : γ → Fm} (h : XN K e q m V F) (hP : ∀ a, P a (.ret (.new (V a)) (F a))) : SR K (.cons (.ret e) r) ks q m P := by
  have z := sr_retW (K := K) (r := r) (ks := ks) (P := P) (fun a => a) h hP
  rw [bind_ok] at z
  exact z
/-- a def's end: V the value, B what the lent lists are then -/
def PF {α : Type} (n : Nat) (V : α → D) (B : α → Fm → Prop) : α → SRes → Prop := fun a x =>
  (∃ q', x = .ret (.val (V a)) q' ∧ n ≤ q'.length ∧ B a (lentBack n q')) ∨ ∃ q', x = .nx q' ∧ V a = .non ∧ n ≤ q'.length ∧ B a (lentBack n q')
def PFN {α : Type} (n : Nat) (V : α → D) (B : α → Fm → Prop) : α → SRes → Prop := fun a x => ∃ q', x = .ret (.new (V a)) q' ∧ n ≤ q'.length ∧ B a (lentBack n q')
theorem pf_ret {n : Nat} {V : α → D} {B : α → Fm → Prop} {a : α} {q' : Fm} {d : D} (hV : d = V a := by rfl) (hn : n ≤ q'.length := by exact Nat.le_of_ble_eq_true rfl) (hB : B a (lentBack n q') := by first | trivial | rfl) : PF n V B a (.ret (.val d) q') := .inl ⟨q', by rw [hV], hn, hB⟩
theorem pbr {F : β → Fm} {R : ρ → SRes → Prop} {r : ρ} {v : RV} {q : Fm} (h : R r (.ret v q)) : PB F R (.ret r) (.ret v q) := ⟨h, v, q, rfl⟩
theorem pfn_ret {n : Nat} {V : α → D} {B : α → Fm → Prop} {a : α} {q' : Fm} {d : D} (hV : d = V a := by rfl) (hn : n ≤ q'.length := by exact Nat.le_of_ble_eq_true rfl) (hB : B a (lentBack n q') := by first | trivial | rfl) : PFN n V B a (.ret (.new d) q') := ⟨q', by rw [hV], hn, hB⟩
theorem run_fv {d : FDef} {as : Fm} {m : Mo α} {V : α → D} {B : α → Fm → Prop} (hl : as.length = d.nps) (h : SR K d.body [] (as ++ List.replicate (d.nN - d.nps) .no) m (PF d.nps V B)) : Rl (runF K d as) m fun a r q' => r = .val (V a) ∧ B a q' := by
  unfold runF
  rw [if_pos hl]
  unfold SR at h
  rw [ks_one] at h
  cases m with
  | bad => trivial
  | exc c ds =>
    obtain ⟨q', e⟩ := h
    rw [e]
    exact ⟨_, rfl⟩
  | ok a =>
    rcases h with ⟨q', e, hn, hB⟩ | ⟨q', e, hV, hn, hB⟩
    · rw [e]
      dsimp only
      rw [if_pos hn]
      exact ⟨_, _, rfl, rfl, hB⟩
    · rw [e]
      dsimp only
      rw [if_pos hn]
      exact ⟨_, _, rfl, by rw [hV], hB⟩
theorem run_fn {d : FDef} {as : Fm} {m : Mo α} {V : α → D} {B : α → Fm → Prop} (hl : as.length = d.nps) (h : SR K d.body [] (as ++ List.replicate (d.nN - d.nps) .no) m (PFN d.nps V B)) : Rl (runF K d as) m fun a r q' => r = .new (V a) ∧ B a q' := by
  unfold runF
  rw [if_pos hl]
  unfold SR at h
  rw [ks_one] at h
  cases m with
  | bad => trivial
  | exc c ds =>
    obtain ⟨q', e⟩ := h
    rw [e]
    exact ⟨_, rfl⟩
  | ok a =>
    obtain ⟨q', e, hn, hB⟩ := h
    rw [e]
    dsimp only
    rw [if_pos hn]
    exact ⟨_, _, rfl, rfl, hB⟩
section
variable {t : Tab} {n f : Nat} {d : FDef} {as : Fm} {m : Mo α} {V : α → D} {B : α → Fm → Prop}
theorem fv_of (ht : t.fn.lookup f = some d) (hl : as.length = d.nps) (h : SR (calls t n) d.body [] (as ++ List.replicate (d.nN - d.nps) .no) m (PF d.nps V B)) : FV (calls t (n + 1)) f as m V B := by
  show Rl (match t.fn.lookup f with | some d => runF (calls t n) d as | none => .bad) _ _
  rw [ht]
  exact run_fv hl h
theorem fn_of (ht : t.fn.lookup f = some d) (hl : as.length = d.nps) (h : SR (calls t n) d.body [] (as ++ List.replicate (d.nN - d.nps) .no) m (PFN d.nps V B)) : FN (calls t (n + 1)) f as m V B := by
  show Rl (match t.fn.lookup f with | some d => runF (calls t n) d as | none => .bad) _ _
  rw [ht]
  exact run_fn hl h
end
/-- a constructor's body; slot 0 stays self -/
def MR (K : Calls) (e : E) (s : Ss) (q : Fm) (m : Mo (List D)) : Prop := Rl (evM K e s q) m fun a r q' => r = a
theorem mr_nil {m : Mo D} {F : D → Fm} (h : XV K e q m I1 F) : MR K e .nil q (m >>= fun d => .ok [d]) := by
  unfold MR
  rw [evM]
  refine (h false).bind fun a r q' ⟨h1, h2⟩ => ?_
  rw [h2]
  exact Rl.ok rfl
theorem mr_cons {x : S} {m : Mo α} {F : α → Fm} {k : α → Mo (List D)} (h : SR K (.cons x .nil) [] q m (PN F)) (hr : ∀ a, MR K e r (F a) (k a)) (hp : ∀ a, isPin (F a)[0]? = true := by intros; rfl) : MR K e (.cons x r) q (m >>= k) := by
  have ex : evKs K [.cons x .nil] q = evS K x q := by
    rw [ks_one, evSs]
    cases evS K x q with
    | nx q1 => dsimp only; rw [evSs]
    | _ => rfl
  unfold SR at h
  rw [ex] at h
  unfold MR
  rw [evM]
  cases m with
  | bad => trivial
  | exc c ds =>
    obtain ⟨q', e1⟩ := h
    rw [e1]
    exact ⟨q', rfl⟩
  | ok a =>
    have h : evS K x q = .nx (F a) := h
    rw [h]
    dsimp only
    rw [if_pos (hp a)]
    exact hr a
theorem cv_of {t : Tab} {n c : Nat} {d : CDef} {as : Fm} {m : Mo (List D)} (ht : t.cn.lookup c = some d) (hl : as.length + 1 = d.nps) (h : MR (calls t n) d.fs d.pre (.pin :: as ++ List.replicate (d.nN - d.nps) .no) m) : CV (calls t (n + 1)) c as m := by
  show Rl (match t.cn.lookup c with | some d => runM (calls t n) d as | none => .bad) _ _
  rw [ht]
  show Rl (runM (calls t n) d as) _ _
  unfold runM
  rw [if_pos hl]
  exact h.imp fun _ _ _ h => h
end
end M

set_option Elab.async false
set_option linter.all false
set_option maxRecDepth 100000
set_option maxHeartbeats 1000000
/-! C5: rules for expressions that draw nothing: the frame stays. -/
namespace M
open PySem
abbrev EV (K : Calls) (e : E) (q : Fm) (m : Mo D) : Prop := XV K e q m I1 (Fc q)
abbrev EN (K : Calls) (e : E) (q : Fm) (m : Mo D) : Prop := XN K e q m I1 (Fc q)
abbrev EB (K : Calls) (e : E) (q : Fm) (m : Mo D) : Prop := XB K e q m I1 (Fc q)
abbrev EA (K : Calls) (e : E) (q : Fm) (m : Mo D) : Prop := XA K e q m I1 (Fc q)
abbrev Ib : Bool → Bool := fun b => b
abbrev Il : List D → List D := fun l => l
abbrev TP (K : Calls) (t : T) (q : Fm) (m : Mo Bool) : Prop := XT K t q m Ib (Fc q)
abbrev AsP (K : Calls) (e : As) (q : Fm) (m : Mo (List D)) : Prop := XAs K e q m Il (Fc q)
abbrev IP (K : Calls) (it : I) (q : Fm) (m : Mo (List D)) : Prop := XI K it q m Il (Fc q)
/-- arguments, none lent -/
def GP (K : Calls) (gs : Gs) (q : Fm) (m : Mo (List D)) : Prop := XG K gs q m (fun l => l.map Ga.v) (Fc q)
/-- a def without lent lists -/
abbrev FP (K : Calls) (f : Nat) (as : List D) (m : Mo D) : Prop := FV K f (as.map (Slot.sh false)) m I1 fun _ _ => True
abbrev FPN (K : Calls) (f : Nat) (as : List D) (m : Mo D) : Prop := FN K f (as.map (Slot.sh false)) m I1 fun _ _ => True
theorem bind_okD {α : Type} (m : Mo α) : (m >>= fun a => Mo.ok a) = m := by cases m <;> rfl
section
variable {K : Calls} {q : Fm} {e a b c d : E} {p : P} {m ma mb mc : Mo D} {t t' : T} {i f k : Nat}
theorem ea_own {bo : Bool} {x : D} (h : q[i]? = some (.ow bo x) := by rfl) : EA K (.var i) q (.ok x) := xa_own h
theorem e_var {bo : Bool} {x : D} (h : q[i]? = some (.sh bo x) := by rfl) : EB K (.var i) q (.ok x) := xb_var h
theorem e_con {x : D} : EB K (.con x) q (.ok x) := xb_con
theorem e_glo {z : Str} {x : D} : EB K (.glo z x) q (.ok x) := xb_glo
/-! operands at one frame -/
def SP (K : Calls) (es : Es) (q : Fm) (m : Mo (List D)) : Prop := Rl (evs K es q) m fun l rs q' => q' = q ∧ atAll q rs = some l
theorem sp_nil : SP K .nil q (.ok []) := by
  unfold SP
  rw [evs]
  exact Rl.ok ⟨rfl, rfl⟩
theorem sp_cons {r : Es} {ms : Mo (List D)} (h : EA K e q m) (hs : SP K r q ms) : SP K (.cons e r) q (m >>= fun x => ms >>= fun l => .ok (x :: l)) := by
  unfold SP
  rw [evs]
  refine Rl.bind h fun x r0 q' ⟨h1, h2⟩ => ?_
  have h1 : q' = q := h1
  subst h1
  refine Rl.bind hs fun l rs q2 ⟨h3, h4⟩ => ?_
  subst h3
  refine Rl.ok ⟨rfl, ?_⟩
  rw [atAll, RV.down_at _ h2, h4]
theorem sp_1 (h : EA K a q ma) : SP K (.cons a .nil) q (ma >>= fun x => .ok [x]) := sp_cons h sp_nil
theorem sp_2 (h : EA K a q ma) (h2 : EA K b q mb) : SP K (.cons a (.cons b .nil)) q (ma >>= fun x => mb >>= fun y => .ok [x, y]) := by
  have z := sp_cons h (sp_1 h2)
  have e : (ma >>= fun x => (mb >>= fun y => Mo.ok [y]) >>= fun l => .ok (x :: l)) = (ma >>= fun x => mb >>= fun y => .ok [x, y]) := by cases ma <;> cases mb <;> rfl
  rw [e] at z
  exact z
theorem sp_3 (h : EA K a q ma) (h2 : EA K b q mb) (h3 : EA K c q mc) : SP K (.cons a (.cons b (.cons c .nil))) q (ma >>= fun x => mb >>= fun y => mc >>= fun z => .ok [x, y, z]) := by
  have z := sp_cons h (sp_2 h2 h3)
  have e : (ma >>= fun x => (mb >>= fun y => mc >>= fun z => Mo.ok [y, z]) >>= fun l => .ok (x :: l)) = (ma >>= fun x => mb >>= fun y => mc >>= fun z => .ok [x, y, z]) := by cases ma <;> cases mb <;> cases mc <;> rfl
  rw [e] at z
  exact z
theorem prm_v {es : Es} {ms : Mo (List D)} (h : SP K es q ms) : EV K (.prm p es) q (ms >>= fun l => M.prm p l) := fun pk => by
  rw [ev]
  refine Rl.bind h fun l rs q' ⟨h1, h2⟩ => ?_
  subst h1
  unfold primR M.prm
  rw [h2]
  dsimp only
  cases e1 : evP p l with
  | none => trivial
  | some x =>
    obtain ⟨fl, d⟩ := x
    cases fl <;> (refine Rl.ok ?_; exact ⟨rfl, rfl⟩)
theorem prm_b {es : Es} {ms : Mo (List D)} (h : SP K es q ms) : EB K (.prm p es) q (ms >>= fun l => prmV p l) := fun pk => by
  rw [ev]
  refine Rl.bind h fun l rs q' ⟨h1, h2⟩ => ?_
  subst h1
  unfold primR prmV
  rw [h2]
  dsimp only
  cases e1 : evP p l with
  | none => trivial
  | some x =>
    obtain ⟨fl, d⟩ := x
    cases fl
    · refine Rl.ok ?_; exact ⟨rfl, rfl⟩
    · trivial
theorem v_p1 (h : EA K a q ma) : EV K (.prm p (.cons a .nil)) q (ma >>= fun x => M.prm p [x]) := by
  have z := prm_v (p := p) (sp_1 h); rw [bind_bind] at z; exact z
theorem b_p1 (h : EA K a q ma) : EB K (.prm p (.cons a .nil)) q (ma >>= fun x => prmV p [x]) := by
  have z := prm_b (p := p) (sp_1 h); rw [bind_bind] at z; exact z
theorem bb2 {α β γ δ : Type} {m1 : Mo α} {m2 : Mo β} {g : α → β → γ} {h : γ → Mo δ} : ((m1 >>= fun x => m2 >>= fun y => Mo.ok (g x y)) >>= h) = m1 >>= fun x => m2 >>= fun y => h (g x y) := by cases m1 <;> cases m2 <;> rfl
theorem bb3 {α β γ δ ε : Type} {m1 : Mo α} {m2 : Mo β} {m3 : Mo γ} {g : α → β → γ → δ} {h : δ → Mo ε} : ((m1 >>= fun x => m2 >>= fun y => m3 >>= fun z => Mo.ok (g x y z)) >>= h) = m1 >>= fun x => m2 >>= fun y => m3 >>= fun z => h (g x y z) := by cases m1 <;> cases m2 <;> cases m3 <;> rfl
theorem v_p2 (h : EA K a q ma) (h2 : EA K b q mb) : EV K (.prm p (.cons a (.cons b .nil))) q (ma >>= fun x => mb >>= fun y => M.prm p [x, y]) := by
  have z := prm_v (p := p) (sp_2 h h2); rw [bb2] at z; exact z
theorem b_p2 (h : EA K a q ma) (h2 : EA K b q mb) : EB K (.prm p (.cons a (.cons b .nil))) q (ma >>= fun x => mb >>= fun y => prmV p [x, y]) := by
  have z := prm_b (p := p) (sp_2 h h2); rw [bb2] at z; exact z
theorem v_p3 (h : EA K a q ma) (h2 : EA K b q mb) (h3 : EA K c q mc) : EV K (.prm p (.cons a (.cons b (.cons c .nil)))) q (ma >>= fun x => mb >>= fun y => mc >>= fun z => M.prm p [x, y, z]) := by
  have z := prm_v (p := p) (sp_3 h h2 h3); rw [bb3] at z; exact z
/-! displays -/
theorem as_nil : AsP K .nil q (.ok []) := xas_nil
theorem as_one {r : As} {ms : Mo (List D)} (h : EV K e q m) (hr : AsP K r q ms) : AsP K (.one e r) q (m >>= fun x => ms >>= fun l => .ok (x :: l)) := xas_one (V3 := Il) (F3 := Fc q) (fun x l => x :: l) h fun _ => hr
theorem as_star {r : As} {ms : Mo (List D)} (h : EA K e q m) (hr : AsP K r q ms) : AsP K (.star e r) q (m >>= fun x => seqM x >>= fun y => ms >>= fun l => .ok (y ++ l)) := xas_star (V3 := Il) (F3 := Fc q) (fun x y l => y ++ l) h fun _ => hr
theorem bo {α : Type} (m : Mo α) {β : Type} (f : α → Mo β) : (m >>= fun a => f a >>= fun d => Mo.ok d) = m >>= f := by cases m <;> simp [bind_ok]
theorem e_tup {es : As} {ms : Mo (List D)} (h : AsP K es q ms) : EB K (.tup es) q (ms >>= tupM) := fun pk => by
  rw [ev]
  refine Rl.bind h fun a ds q' ⟨h1, h2⟩ => ?_
  subst h1 h2
  unfold tupM
  by_cases hl : ds.length ≤ sizeLine
  · rw [if_pos hl, if_pos hl]
    refine Rl.ok ?_; exact ⟨rfl, rfl⟩
  · rw [if_neg hl, if_neg hl]
    trivial
theorem e_lst {es : As} {ms : Mo (List D)} (h : AsP K es q ms) : EN K (.lst es) q (ms >>= lstM) := by
  have z := xn_lst (V3 := I1) (F3 := Fc q) (fun _ d => d) h
  rw [bo] at z
  exact z
/-! tests -/
theorem t_val (h : EA K e q m) : TP K (.val e) q (m >>= tru) := by
  have z := xt_val (V3 := Ib) (F3 := Fc q) (fun _ d => d) h
  rw [bo] at z
  exact z
theorem t_not {mt : Mo Bool} (h : TP K t q mt) : TP K (.not t) q (mt >>= fun c => .ok (!c)) := M.xt_not (V3 := Ib) (F3 := Fc q) (fun c => !c) h
theorem t_all {mt mt' : Mo Bool} (h : TP K t q mt) (h2 : TP K t' q mt') : TP K (.all t t') q (mt >>= fun c => if c then mt' else .ok false) := M.xt_all (n := fun _ => false) (V3 := Ib) (F3 := Fc q) (k := fun _ => mt') (V := Ib) h (fun _ => h2) (hV := fun _ => rfl)
theorem t_any {mt mt' : Mo Bool} (h : TP K t q mt) (h2 : TP K t' q mt') : TP K (.any t t') q (mt >>= fun c => if c then .ok true else mt') := M.xt_any (n := fun _ => true) (V3 := Ib) (F3 := Fc q) (k := fun _ => mt') (V := Ib) h (fun _ => h2) (hV := fun _ => rfl)
/-! choices -/
theorem v_ife {mt : Mo Bool} (h : TP K t q mt) (ha : EV K a q ma) (hb : EV K b q mb) : EV K (.ife t a b) q (mt >>= fun c => if c then ma else mb) := xv_ife h (fun _ => ha) (fun _ => hb)
theorem e_and (ha : EB K a q ma) (hb : EB K b q mb) : EB K (.andV a b) q (ma >>= fun x => isB x >>= fun c => if c then mb else .ok (.bl false)) := xb_and (n := fun _ => .bl false) (V3 := I1) (F3 := Fc q) ha fun _ => hb
theorem e_not (h : EA K e q m) : EB K (.notV e) q (m >>= fun x => tru x >>= fun c => .ok (.bl (!c))) := xb_not (V3 := I1) (F3 := Fc q) (fun _ c => .bl (!c)) h
theorem e_chain {o1 o2 : P} (h1 : EV K a q ma) (h2 : EV K b q mb) (h3 : EV K c q mc) : EB K (.chain o1 o2 a b c) q (ma >>= fun x => mb >>= fun y => M.prm o1 [x, y] >>= fun d => isB d >>= fun t => if t then mc >>= fun z => prmV o2 [y, z] else .ok (.bl false)) := by
  have z := xb_chain (o1 := o1) (o2 := o2) (V4 := I1) (F4 := Fc q) (fun _ _ => .bl false) (fun _ _ _ d => d) h1 (fun _ => h2) (fun _ _ => h3)
  simp only [bo] at z
  exact z
theorem e_fld (h : EB K e q m) : EB K (.fld f k e) q (m >>= fldM f k) := by
  have z := xb_fld (c := f) (k := k) (V3 := I1) (F3 := Fc q) (fun _ d => d) h
  rw [bo] at z
  exact z
/-! methods of texts -/
def isS : D → Mo Unit
  | .str _ => .ok ()
  | _ => .bad
theorem mth_rl {ma mb : Mo D} (h1 : EB K a q ma) (h2 : EA K b q mb) {pk : Bool} {mm : List D → Mo D} {φ : D → RV → Prop} (hp : ∀ l rs, atAll q rs = some l → Rl (primR p rs q) (mm l) fun d r q' => q' = q ∧ φ d r) :
    Rl (ev K (.mth p a b) pk q) (ma >>= fun x => isS x >>= fun _ => mb >>= fun y => mm [x, y]) fun d r q' => q' = q ∧ φ d r := by
  rw [ev]
  refine (h1 false).bind fun x r q' ⟨e1, e2⟩ => ?_
  have e1 : q' = q := e1
  have e2 : r = .val x := e2
  subst e1 e2
  cases x with
  | str z =>
    show Rl (bindR (ev K b true q') fun r2 q2 => primR p [.val (.str z), r2.down] q2) (mb >>= fun y => mm [.str z, y]) _
    refine Rl.bind h2 fun y r2 q2 ⟨e3, e4⟩ => ?_
    have e3 : q2 = q' := e3
    subst e3
    have e4 : r2.at_ q2 = some y := e4
    refine hp _ _ ?_
    rw [atAll, atAll, atAll, RV.down_at _ e4]
    rfl
  | _ => trivial
theorem v_mth {ma mb : Mo D} (h1 : EB K a q ma) (h2 : EA K b q mb) : EV K (.mth p a b) q (ma >>= fun x => isS x >>= fun _ => mb >>= fun y => M.prm p [x, y]) := fun pk => mth_rl (mm := M.prm p) (φ := fun d r => r.vd = some d) h1 h2 fun l rs e => by
  unfold primR M.prm
  rw [e]
  dsimp only
  cases evP p l with
  | none => trivial
  | some x =>
    obtain ⟨fl, d⟩ := x
    cases fl <;> (refine Rl.ok ?_; exact ⟨rfl, rfl⟩)
/-! calls -/
theorem gp_nil : GP K .nil q (.ok []) := xg_nil
theorem xg_nilV {K : Calls} {q : Fm} : XG K .nil q (.ok []) (fun l : List D => l.map Ga.v) (Fc q) := by
  unfold XG
  rw [evG]
  exact .ok ⟨rfl, rfl⟩
theorem gp_cons {r : Gs} {ms : Mo (List D)} (h : EV K e q m) (hr : GP K r q ms) : GP K (.v e r) q (m >>= fun x => ms >>= fun l => .ok (x :: l)) := by
  have z := xg_v (g := fun (x : D) (l : List D) => x :: l) (V3 := fun l : List D => l.map Ga.v) (F3 := Fc q) (V2 := fun _ (l : List D) => l.map Ga.v) (F2 := fun _ => Fc q) (k := fun _ => ms) h (fun _ => hr) (fun _ _ => rfl) (fun _ _ => rfl)
  exact z
theorem lent_v (q : Fm) : ∀ ds : List D, lent q (ds.map Ga.v) = some (ds.map (Slot.sh false))
  | [] => rfl
  | d :: ds => by rw [List.map_cons, lent, lent_v q ds]; rfl
theorem lx_v : ∀ ds : List D, lentIx (ds.map Ga.v) = []
  | [] => rfl
  | d :: ds => by rw [List.map_cons, lentIx, lx_v ds]
theorem gb_v : ∀ (ds : List D) (l q : Fm), giveBack (ds.map Ga.v) l q = q
  | [], l, q => by cases l <;> rfl
  | d :: ds, [], q => rfl
  | d :: ds, s :: l, q => by rw [List.map_cons, giveBack]; exact gb_v ds l q
theorem call_b {gs : Gs} {ms : Mo (List D)} {mf : List D → Mo D} (h : GP K gs q ms) (hf : ∀ l, FP K f l (mf l)) : EB K (.call f gs) q (ms >>= mf) := by
  have z := xb_call (f := f) (V := fun l : List D => l.map Ga.v) (F := Fc q) (as := fun l => l.map (Slot.sh false)) (V3 := I1) (F3 := Fc q) (fun _ d => d) h hf (fun a => lent_v q a) (fun a => by rw [lx_v]; exact List.nodup_nil) (fun a b q' _ => gb_v a q' q)
  rw [bo] at z
  exact z
theorem call_n {gs : Gs} {ms : Mo (List D)} {mf : List D → Mo D} (h : GP K gs q ms) (hf : ∀ l, FPN K f l (mf l)) : EN K (.call f gs) q (ms >>= mf) := by
  have z := xn_call (f := f) (V := fun l : List D => l.map Ga.v) (F := Fc q) (as := fun l => l.map (Slot.sh false)) (V3 := I1) (F3 := Fc q) (fun _ d => d) h hf (fun a => lent_v q a) (fun a => by rw [lx_v]; exact List.nodup_nil) (fun a b q' _ => gb_v a q' q)
  rw [bo] at z
  exact z
/-- the number of arguments written -/
def on1 {α : Type} (g : D → Mo α) : List D → Mo α
  | [x] => g x
  | _ => .bad
def on2 {α : Type} (g : D → D → Mo α) : List D → Mo α
  | [x, y] => g x y
  | _ => .bad
section
variable {R : List D → Mo D → Prop} (hb : ∀ l, R l .bad)
theorem on1_ok {α : Type} {R : List D → Mo α → Prop} {g : D → Mo α} (hb : ∀ l, R l .bad) (h : ∀ x, R [x] (g x)) : ∀ l, R l (on1 g l)
  | [x] => h x
  | [] => hb _
  | _ :: _ :: _ => hb _
theorem on2_ok {α : Type} {R : List D → Mo α → Prop} {g : D → D → Mo α} (hb : ∀ l, R l .bad) (h : ∀ x y, R [x, y] (g x y)) : ∀ l, R l (on2 g l)
  | [x, y] => h x y
  | [] => hb _
  | [_] => hb _
  | _ :: _ :: _ :: _ => hb _
end
section
variable {md me : Mo D}
theorem c1_b {g : D → Mo D} (h1 : EV K a q ma) (hf : ∀ x, FP K f [x] (g x)) : EB K (.call f (.v a .nil)) q (ma >>= g) := by
  have z := call_b (gp_cons h1 gp_nil) (on1_ok (R := fun l m => FP K f l m) (fun _ => trivial) hf)
  cases ma <;> exact z
theorem c2_b {g : D → D → Mo D} (h1 : EV K a q ma) (h2 : EV K b q mb) (hf : ∀ x y, FP K f [x, y] (g x y)) : EB K (.call f (.v a (.v b .nil))) q (ma >>= fun x => mb >>= fun y => g x y) := by
  have z := call_b (gp_cons h1 (gp_cons h2 gp_nil)) (on2_ok (R := fun l m => FP K f l m) (fun _ => trivial) hf)
  cases ma <;> cases mb <;> exact z
theorem c2_n {g : D → D → Mo D} (h1 : EV K a q ma) (h2 : EV K b q mb) (hf : ∀ x y, FPN K f [x, y] (g x y)) : EN K (.call f (.v a (.v b .nil))) q (ma >>= fun x => mb >>= fun y => g x y) := by
  have z := call_n (gp_cons h1 (gp_cons h2 gp_nil)) (on2_ok (R := fun l m => FPN K f l m) (fun _ => trivial) hf)
  cases ma <;> cases mb <;> exact z
end
/-- an instance of a class, one argument -/
theorem m1_b {g : D → Mo (List D)} (h1 : EV K a q ma) (hf : ∀ x, CV K f [.sh false x] (g x)) : EB K (.make f (.v a .nil)) q (ma >>= fun x => g x >>= fun fs => .ok (.ins f fs)) := by
  have z := xb_make (c := f) (V := fun l : List D => l.map Ga.v) (F := Fc q) (as := fun l => l.map (Slot.sh false)) (mf := on1 g) (V3 := I1) (F3 := Fc q) (fun _ fs => .ins f fs) (gp_cons h1 gp_nil) (on1_ok (R := fun l m => CV K f (l.map (Slot.sh false)) m) (fun _ => trivial) hf) (fun a => lent_v q a) (fun a => lx_v a)
  cases ma <;> exact z
theorem e_prop {fn : Nat} {g : D → Mo D} (h : EB K e q m) (hf : ∀ x, FP K fn [x] (g x)) : EB K (.prop f fn e) q (m >>= fun x => isI f x >>= fun _ => noExc (g x)) := by
  have z := xb_prop (c := f) (f := fn) (B := fun _ _ _ => True) (mf := g) (V3 := I1) (F3 := Fc q) (fun _ d => d) h fun a => hf a
  have e : (m >>= fun a => isI f (I1 a) >>= fun _ => noExc (g (I1 a)) >>= fun b => Mo.ok b) = (m >>= fun x => isI f x >>= fun _ => noExc (g x)) := by
    cases m with
    | ok a => show (isI f a >>= fun _ => noExc (g a) >>= fun b => Mo.ok b) = _; simp only [bind_ok]; rfl
    | _ => rfl
  rw [e] at z
  exact z
/-! walks -/
theorem i_seq (h : EV K e q m) : IP K (.seq e) q (m >>= itemsM) := by
  have z := xi_seq (V3 := Il) (F3 := Fc q) (fun _ l => l) h
  rw [bo] at z
  exact z
theorem i_rng1 (h : EV K a q ma) : IP K (.rng1 a) q (ma >>= fun x => optM (rng1F [x])) := by
  have z := xi_rng1 (V3 := Il) (F3 := Fc q) (fun _ l => l) h
  rw [bo] at z
  exact z
theorem i_enm (h : EV K a q ma) : IP K (.enm a) q (ma >>= fun x => optM (enmF [x])) := by
  have z := xi_enm (V3 := Il) (F3 := Fc q) (fun _ l => l) h
  rw [bo] at z
  exact z
theorem i_rng3 (h : EV K a q ma) (h2 : EV K b q mb) (h3 : EV K c q mc) : IP K (.rng3 a b c) q (ma >>= fun x => mb >>= fun y => mc >>= fun z => optM (rng3F [x, y, z])) := by
  have z := xi_rng3 (V3 := Il) (F3 := Fc q) (fun _ _ _ l => l) h (fun _ => h2) (fun _ _ => h3)
  simp only [bo] at z
  exact z
/-! comprehensions -/
theorem e_lcM {vs : List Nat} {g : LV} {it : I} {Q0 : Fm} {mi : Mo (List D)} {fm : D → Mo D} (hi : IP K it q mi) (st : ∀ d, Tn1 K vs g e q Q0 d (fm d)) (hn : noOw vs q = true := by rfl) (hw : wipeF vs q = Q0 := by rfl) (hb : backF vs q q = q := by rfl) :
    EN K (.lc vs g it .yes e) q (mi >>= fun l => mapL fm l >>= fun l => .ok (.lst l)) := xn_lcM (V3 := I1) (F3 := Fc q) (Fi := Fc q) (Vi := Il) (Q0 := Fc Q0) (f := fun _ => fm) (fun _ l => .lst l) hi (fun _ => st) (fun _ => hn) (fun _ => hw) (fun _ => hb)
end
end M

set_option Elab.async false
set_option linter.all false
set_option maxRecDepth 100000
set_option maxHeartbeats 1000000
/-! C6: comprehensions with two `for`; short forms of frames. -/
namespace M
open PySem
structure CFr2 (vs vs1 : List Nat) (Q Q0 Q1 q : Fm) : Prop where
  w1 : wipeF vs1 q = Q1
  n : noOw vs q = true
  w : wipeF vs q = Q0
  b : backF vs Q q = Q
section
variable {K : Calls} {q : Fm} {e : E} {t : T} {τ τ1 : Type}
def Tn2 (K : Calls) (vs vs1 : List Nat) (g : LV) (t : T) (e : E) (Q Q0 Q1 : Fm) (d : D) (m : Mo (Option D)) : Prop := match m with
  | .ok x => ∃ q1 c q2, evL K g (.val d) Q1 = .ok () q1 ∧ evT K t q1 = .ok c q2 ∧ match x with
    | none => c = false ∧ CFr2 vs vs1 Q Q0 Q1 q2
    | some y => c = true ∧ ∃ r q3, ev K e false q2 = .ok r q3 ∧ r.vd = some y ∧ CFr2 vs vs1 Q Q0 Q1 q3
  | _ => True
theorem lc1_fil {vs vs1 : List Nat} {g : LV} {t : T} {Q Q0 Q1 : Fm} {f : D → Mo (Option D)} (st : ∀ d, Tn2 K vs vs1 g t e Q Q0 Q1 d (f d)) : ∀ (l acc r : List D) (q : Fm), filA f l = .ok r → acc.length + r.length ≤ sizeLine → CFr2 vs vs1 Q Q0 Q1 q →
    ∃ q', loopC1 vs vs1 (fun d q => evL K g (.val d) q) (evT K t) (ev K e false) acc l q = .ok (acc ++ r) q' ∧ CFr2 vs vs1 Q Q0 Q1 q'
  | [], acc, r, q, h, hl, c => by cases h; exact ⟨q, by simp [loopC1], c⟩
  | d :: l, acc, r, q, h, hl, c => by
    rw [filA] at h
    have z := st d
    unfold Tn2 at z
    cases e1 : f d with
    | ok x =>
      rw [e1, ok_bind] at h
      rw [e1] at z
      cases e2 : filA f l with
      | ok s =>
        rw [e2, ok_bind] at h
        obtain ⟨q1, cc, q2, z1, z2, z3⟩ := z
        cases x with
        | none =>
          obtain ⟨rfl, z5⟩ := z3
          cases h
          obtain ⟨q', h1, h2⟩ := lc1_fil st l acc s q2 e2 hl z5
          refine ⟨q', ?_, h2⟩
          rw [loopC1, c.w1, z1]
          simp only [z2]
          rw [if_pos z5.n]
          exact h1
        | some y =>
          obtain ⟨rfl, rr, q3, z4, z5, z7⟩ := z3
          cases h
          have ha : acc.length < sizeLine := by simp at hl; omega
          obtain ⟨q', h1, h2⟩ := lc1_fil st l (acc ++ [y]) s q3 e2 (by simp at hl ⊢; omega) z7
          refine ⟨q', ?_, h2⟩
          rw [loopC1, c.w1, z1]
          simp only [z2, z4, z5]
          rw [if_pos (by rw [z7.n, decide_eq_true ha]; rfl), h1]
          simp
      | _ => rw [e2] at h; cases h
    | _ => rw [e1] at h; cases h
theorem lc2_cat {vs vs1 : List Nat} {g g1 : LV} {it1 : I} {t1 : T} {Q Q0 : Fm} {f : D → Mo (List D)}
    (st : ∀ d r, f d = .ok r → ∃ q1 l1 Q1 f1, evL K g (.val d) Q0 = .ok () q1 ∧ evI K it1 q1 = .ok l1 q1 ∧ filA f1 l1 = .ok r ∧ CFr2 vs vs1 Q Q0 Q1 q1 ∧ ∀ d, Tn2 K vs vs1 g1 t1 e Q Q0 Q1 d (f1 d)) :
    ∀ (l acc r : List D) (q : Fm), catA f l = .ok r → acc.length + r.length ≤ sizeLine → CFr vs Q Q0 q →
    ∃ q', loopC2 vs (fun d q => evL K g (.val d) q) (evT K .yes) (fun acc q => bindR (evI K it1 q) fun l1 q2 => if noOw vs q2 then loopC1 vs vs1 (fun d q => evL K g1 (.val d) q) (evT K t1) (ev K e false) acc l1 q2 else .bad) acc l q = .ok (acc ++ r) q' ∧ CFr vs Q Q0 q'
  | [], acc, r, q, h, hl, c => by cases h; exact ⟨q, by simp [loopC2], c⟩
  | d :: l, acc, r, q, h, hl, c => by
    rw [catA] at h
    cases e1 : f d with
    | ok x =>
      rw [e1, ok_bind] at h
      cases e2 : catA f l with
      | ok s =>
        rw [e2, ok_bind] at h
        cases h
        obtain ⟨q1, l1, Q1, f1, z1, z2, z3, z4, z5⟩ := st d x e1
        simp only [List.length_append] at hl
        obtain ⟨q2, y1, y2⟩ := lc1_fil z5 l1 acc x q1 z3 (by omega) z4
        obtain ⟨q', h1, h2⟩ := lc2_cat st l (acc ++ x) s q2 e2 (by simp only [List.length_append]; omega) ⟨y2.w, y2.b⟩
        refine ⟨q', ?_, h2⟩
        rw [loopC2, c.w, z1]
        have ey : evT K .yes q1 = .ok true q1 := by rw [evT]
        simp only [ey, z2]
        rw [show (bindR (Res.ok l1 q1) fun l1 q2 => if noOw vs q2 then loopC1 vs vs1 (fun d q => evL K g1 (.val d) q) (evT K t1) (ev K e false) acc l1 q2 else .bad) = (if noOw vs q1 then loopC1 vs vs1 (fun d q => evL K g1 (.val d) q) (evT K t1) (ev K e false) acc l1 q1 else .bad) from rfl]
        rw [if_pos z4.n, y1]
        simp only
        rw [if_pos y2.n, h1]
        simp
      | _ => rw [e2] at h; cases h
    | _ => rw [e1] at h; cases h
theorem e_lc2 {vs vs1 : List Nat} {g g1 : LV} {it it1 : I} {t1 : T} {Q0 : Fm} {mi : Mo (List D)} {pt : D → Mo τ} {Fp : τ → Fm} {mi1 : τ → Mo (List D)} {Q1 : τ → Fm} {f1 : τ → D → Mo (Option D)} (hi : IP K it q mi) (hp : ∀ d, XTg K g d Q0 (pt d) Fp) (hi1 : ∀ x, IP K it1 (Fp x) (mi1 x)) (st : ∀ x d, Tn2 K vs vs1 g1 t1 e q Q0 (Q1 x) d (f1 x d))
    (hc : ∀ x, CFr2 vs vs1 q Q0 (Q1 x) (Fp x) := by intros; exact ⟨rfl, rfl, rfl, rfl⟩) (hn : noOw vs q = true := by rfl) (hw : wipeF vs q = Q0 := by rfl) (hb : backF vs q q = q := by rfl) :
    EN K (.lc2 vs vs1 g it .yes g1 it1 t1 e) q (mi >>= fun l => catL (fun d => pt d >>= fun x => mi1 x >>= fun l1 => filA (f1 x) l1) l >>= fun l => .ok (.lst l)) := fun pk => by
  rw [ev]
  refine Rl.bind hi fun l l' q' ⟨h1, h2⟩ => ?_
  have h1 : q' = q := h1
  have h2 : l' = l := h2
  subst h1 h2
  rw [if_pos hn]
  unfold catL
  cases e1 : catA (fun d => pt d >>= fun x => mi1 x >>= fun l1 => filA (f1 x) l1) l' with
  | ok r =>
    show Rl _ (fitL r >>= _) _
    unfold fitL
    by_cases hl : r.length ≤ sizeLine
    · rw [if_pos hl]
      obtain ⟨q2, h1, h2⟩ := lc2_cat (K := K) (e := e) (vs := vs) (vs1 := vs1) (g := g) (g1 := g1) (it1 := it1) (t1 := t1) (Q := q') (Q0 := Q0) (f := fun d => pt d >>= fun x => mi1 x >>= fun l1 => filA (f1 x) l1) (fun d r hr => by
        have z := hp d
        unfold XTg at z
        cases e2 : pt d with
        | ok x =>
          rw [e2] at z
          rw [e2, ok_bind] at hr
          have y := hi1 x
          unfold IP XI at y
          cases e3 : mi1 x with
          | ok l1 =>
            rw [e3] at y
            rw [e3, ok_bind] at hr
            obtain ⟨l2, q3, y1, y2, y3⟩ := y
            have y2 : q3 = Fp x := y2
            have y3 : l2 = l1 := y3
            subst y2 y3
            exact ⟨Fp x, l2, Q1 x, f1 x, z, y1, hr, hc x, st x⟩
          | _ => rw [e3] at hr; cases hr
        | _ => rw [e2] at hr; cases hr) l' [] r q' e1 (by simpa using hl) ⟨hw, hb⟩
      rw [h1]
      refine Rl.ok ?_
      exact ⟨h2.b, rfl⟩
    · rw [if_neg hl]
      trivial
  | _ => trivial
/-- an inner turn by its parts -/
theorem tn2_of {vs vs1 : List Nat} {g : LV} {Q Q0 Q1 : Fm} {d : D} {pt : Mo τ} {Fp : τ → Fm} {m : τ → Mo D} (hp : XTg K g d Q1 pt Fp) (he : ∀ t, XV K e (Fp t) (m t) I1 (Fc (Fp t))) (hc : ∀ t, CFr2 vs vs1 Q Q0 Q1 (Fp t) := by intros; exact ⟨rfl, rfl, rfl, rfl⟩) : Tn2 K vs vs1 g .yes e Q Q0 Q1 d (pt >>= fun t => m t >>= fun y => .ok (some y)) := by
  unfold XTg at hp
  unfold Tn2
  cases pt with
  | ok t =>
    rw [ok_bind]
    have z := he t false
    cases e1 : m t with
    | ok y =>
      rw [e1] at z
      obtain ⟨r, q3, z1, z2, z3⟩ := z
      have z2 : q3 = Fp t := z2
      subst z2
      exact ⟨Fp t, true, Fp t, hp, by rw [evT], rfl, r, _, z1, z3, hc t⟩
    | _ => trivial
  | _ => trivial
end
end M

set_option Elab.async false
set_option linter.all false
set_option maxRecDepth 100000
set_option maxHeartbeats 1000000
/-! C7: calls that draw. -/
namespace M
open PySem
theorem lv {a b n : Nat} (h : Nat.ble a b = true) (k : b ≤ n) : a ≤ n := Nat.le_trans (Nat.le_of_ble_eq_true h) k
/-- a def that writes into its first list -/
abbrev FLb (K : Calls) (f : Nat) (bo : Bool) (p : D) (l : List D) (m : Mo (D × D)) : Prop := FV K f (.ow bo p :: l.map (Slot.sh false)) m (fun y => y.1) fun y q' => bo = true → q' = .ow true y.2 :: List.replicate l.length .no
section
variable {K : Calls} {q : Fm} {e a b c d : E} {p : P} {m ma mb mc : Mo D} {t t' : T} {i f k : Nat} {σ : Type}
theorem gb_rep : ∀ (l : List D) (q : Fm), giveBack (l.map Ga.v) (List.replicate l.length .no) q = q
  | [], q => rfl
  | d :: l, q => by rw [List.map_cons, List.length_cons, List.replicate_succ, giveBack]; exact gb_rep l q
theorem callL {bo : Bool} {x : D} {gs : Gs} {ms : Mo (List D)} {mf : List D → Mo (D × D)} {F : D → Fm} (hq : q[i]? = some (.ow bo x)) (h : GP K gs q ms) (hf : ∀ l, FLb K f true x l (mf l)) (hF : ∀ y, q.set i (.ow bo y) = F y) :
    XB K (.call f (.b i gs)) q (ms >>= mf) (fun z => z.1) (fun z => F z.2) := by
  have hg : XG K (.b i gs) q (ms >>= fun l => .ok l) (fun l : List D => Ga.b i :: l.map Ga.v) (Fc q) := xg_b (g := fun l => l) (V2 := fun l : List D => l.map Ga.v) (F2 := Fc q) hq h (fun _ => rfl) (fun _ => rfl)
  have z := xb_call (f := f) (V := fun l : List D => Ga.b i :: l.map Ga.v) (F := Fc q) (as := fun l => .ow true x :: l.map (Slot.sh false)) (V3 := fun z : D × D => z.1) (F3 := fun z => F z.2) (fun _ y => y) hg hf
    (fun l => by rw [lent, hq, lent_v]) (fun l => by rw [lentIx, lx_v]; exact List.nodup_cons.2 ⟨by simp, List.nodup_nil⟩) (fun l y q' hB => by
      rw [hB rfl]
      show giveBack (Ga.b i :: l.map Ga.v) (Slot.ow true y.2 :: List.replicate l.length .no) q = _
      rw [giveBack, gb_rep]
      have : q.getD i .no = .ow bo x := by rw [List.getD_eq_getElem?_getD, hq]; rfl
      rw [this]
      exact hF y.2)
  have e1 : ((ms >>= fun l => Mo.ok l) >>= fun a => mf a >>= fun b => Mo.ok b) = ms >>= mf := by
    cases ms with
    | ok l => show (mf l >>= fun b => Mo.ok b) = mf l; rw [bind_okD]
    | _ => rfl
  rw [e1] at z
  exact z
theorem cL0 {bo : Bool} {x : D} {mf : Mo (D × D)} {F : D → Fm} (hf : FLb K f true x [] mf) (hq : q[i]? = some (.ow bo x) := by rfl) (hF : ∀ y, q.set i (.ow bo y) = F y := by intros; rfl) : XB K (.call f (.b i .nil)) q mf (fun z => z.1) (fun z => F z.2) :=
  callL (mf := fun l => match l with | [] => mf | _ => .bad) hq gp_nil (fun l => by cases l with | nil => exact hf | cons _ _ => trivial) hF
theorem cL1 {bo : Bool} {x : D} {g : D → Mo (D × D)} {F : D → Fm} (h1 : EV K a q ma) (hf : ∀ y, FLb K f true x [y] (g y)) (hq : q[i]? = some (.ow bo x) := by rfl) (hF : ∀ y, q.set i (.ow bo y) = F y := by intros; rfl) : XB K (.call f (.b i (.v a .nil))) q (ma >>= g) (fun z => z.1) (fun z => F z.2) := by
  have z := callL (mf := on1 g) hq (gp_cons h1 gp_nil) (on1_ok (R := fun l m => FLb K f true x l m) (fun _ => trivial) hf) hF
  cases ma <;> exact z
/-- a drawing call whose further arguments draw -/
theorem callLi {bo0 : Bool} {x0 : D} {gs : Gs} {g : D → List D → Mo (D × D)} {ms : Mo (List D × D)} {F : D → Fm} (h : XG K gs q ms (fun z => z.1.map Ga.v) (fun z => F z.2)) (hq : ∀ y, ∃ bo, (F y)[i]? = some (.ow bo y) ∧ ∀ z, (F y).set i (.ow bo z) = F z) (hf : ∀ p l, FLb K f true p l (g p l)) (hi : q[i]? = some (.ow bo0 x0)) :
    XB K (.call f (.b i gs)) q (ms >>= fun z => g z.2 z.1) (fun z => z.1) (fun z => F z.2) := by
  have hg : XG K (.b i gs) q (ms >>= fun l => .ok l) (fun z : List D × D => Ga.b i :: z.1.map Ga.v) (fun z => F z.2) := xg_b (g := fun l => l) hi h (fun _ => rfl) (fun _ => rfl)
  have z := xb_call (f := f) (V := fun z : List D × D => Ga.b i :: z.1.map Ga.v) (F := fun z => F z.2) (as := fun z => .ow true z.2 :: z.1.map (Slot.sh false)) (mf := fun z => g z.2 z.1) (V3 := fun z : D × D => z.1) (F3 := fun z => F z.2) (V2 := fun _ y => y.1) (B := fun z y q' => true = true → q' = .ow true y.2 :: List.replicate z.1.length .no) (fun _ y => y) hg (fun z => hf z.2 z.1)
    (fun z => by
      obtain ⟨bo1, h1, _⟩ := hq z.2
      show lent (F z.2) (Ga.b i :: z.1.map Ga.v) = _
      rw [lent, h1, lent_v]) (fun l => by show (lentIx (Ga.b i :: l.1.map Ga.v)).Nodup; rw [lentIx, lx_v]; exact List.nodup_cons.2 ⟨by simp, List.nodup_nil⟩) (fun l y q' hB => by
      obtain ⟨bo1, h1, h2⟩ := hq l.2
      rw [hB rfl]
      show giveBack (Ga.b i :: l.1.map Ga.v) (Slot.ow true y.2 :: List.replicate l.1.length .no) (F l.2) = _
      rw [giveBack, gb_rep]
      have : (F l.2).getD i .no = .ow bo1 l.2 := by rw [List.getD_eq_getElem?_getD, h1]; rfl
      rw [this]
      exact h2 y.2)
  have e1 : ((ms >>= fun l => Mo.ok l) >>= fun a => g a.2 a.1 >>= fun b => Mo.ok b) = ms >>= fun z => g z.2 z.1 := by
    cases ms with
    | ok w => show (g w.2 w.1 >>= fun b => Mo.ok b) = _; rw [bind_okD]; rfl
    | _ => rfl
  rw [e1] at z
  exact z
/-- arguments that draw -/
theorem callI {gs : Gs} {ms : Mo (List D × σ)} {mf : List D → Mo D} {F : σ → Fm} (h : XG K gs q ms (fun z => z.1.map Ga.v) (fun z => F z.2)) (hf : ∀ l, FP K f l (mf l)) : XB K (.call f gs) q (ms >>= fun a => mf a.1 >>= fun d => .ok (d, a.2)) (fun z => z.1) (fun z => F z.2) :=
  xb_call (f := f) (V := fun z : List D × σ => z.1.map Ga.v) (F := fun z => F z.2) (as := fun z => z.1.map (Slot.sh false)) (mf := fun z => mf z.1) (V3 := fun z : D × σ => z.1) (F3 := fun z => F z.2) (fun a d => (d, a.2)) h (fun z => hf z.1) (fun z => lent_v _ _) (fun z => by rw [lx_v]; exact List.nodup_nil) (fun a b q' _ => gb_v _ _ _)
/-- a new list handed to a def that writes into it -/
theorem c_O {g : D → Mo (D × D)} (h : EN K e q m) (hf : ∀ x, FLb K f false x [] (g x)) : EB K (.callO f e) q (m >>= fun x => g x >>= fun y => .ok y.1) := xb_callO (V3 := I1) (F3 := Fc q) (fun _ y => y.1) h hf
end
end M

set_option Elab.async false
set_option linter.all false
set_option maxRecDepth 100000
set_option maxHeartbeats 1000000
/-! C8: the rules for statements, over a statement that is not unfolded (printed by mkc8.py). -/
namespace M
open PySem
structure SQ {γ : Type} (K : Calls) (s : Ss) (ks : List Ss) (q : Fm) (m : Mo γ) (P : γ → SRes → Prop) : Prop where
  r : SR K s ks q m P
structure MQ (K : Calls) (e : E) (s : Ss) (q : Fm) (m : Mo (List D)) : Prop where
  r : MR K e s q m
section
variable {α β γ δ τ ρ : Type} {K : Calls} {q q1 : Fm} {e a b c : E} {p : P} {r s sa sb : Ss} {ks : List Ss} {P : γ → SRes → Prop}
theorem sq_nil {m : Mo γ} (h : SQ K r ks q m P) : SQ K .nil (r :: ks) q m P := ⟨sr_nil (h := h.r)⟩
theorem sq_end {g : γ} (h : P g (.nx q)) : SQ K .nil [] q (.ok g) P := ⟨sr_end (h := h)⟩
theorem sq_kil {is : List Nat} {m : Mo γ} (h : SQ K r ks q1 m P) (e : wipeF is q = q1 := by rfl) : SQ K (.cons (.kil is) r) ks q m P := ⟨sr_kil (h := h.r) (e := e)⟩
theorem sq_shr {is : List Nat} {m : Mo γ} (h : SQ K r ks q1 m P) (e : shrF is q = q1 := by rfl) : SQ K (.cons (.shr is) r) ks q m P := ⟨sr_shr (h := h.r) (e := e)⟩
theorem sq_nev : SQ K (.cons .nev r) ks q .bad P := ⟨sr_nev ⟩
theorem sq_set {i : Nat} {m : Mo α} {V : α → D} {F F' : α → Fm} {k : α → Mo γ} (h : XV K e q m V F) (hr : ∀ a, SQ K r ks (F' a) (k a) P) (hi : ∀ a, fr1 (F a) i = true := by intros; rfl) (hF : ∀ a, (F a).set i (.sh false (V a)) = F' a := by intros; rfl) : SQ K (.cons (.asgS (.nm i) e) r) ks q (m >>= k) P := ⟨sr_set (h := h) (hr := fun a => (hr a).r) (hi := hi) (hF := hF)⟩
theorem sq_new {i : Nat} {m : Mo α} {V : α → D} {F F' : α → Fm} {k : α → Mo γ} (h : XN K e q m V F) (hr : ∀ a, SQ K r ks (F' a) (k a) P) (hi : ∀ a, fr1 (F a) i = true := by intros; rfl) (hF : ∀ a, (F a).set i (.ow false (V a)) = F' a := by intros; rfl) : SQ K (.cons (.asg (.nm i) e) r) ks q (m >>= k) P := ⟨sr_new (h := h) (hr := fun a => (hr a).r) (hi := hi) (hF := hF)⟩
theorem sq_tgt {l : LV} {m : Mo α} {V : α → D} {F : α → Fm} {pt : α → Mo τ} {Ft : α → τ → Fm} {k : α → τ → Mo γ} (h : XV K e q m V F) (hl : ∀ a, XTg K l (V a) (F a) (pt a) (Ft a)) (hr : ∀ a t, SQ K r ks (Ft a t) (k a t) P) : SQ K (.cons (.asgS l e) r) ks q (m >>= fun a => pt a >>= fun t => k a t) P := ⟨sr_tgt (h := h) (hl := hl) (hr := fun a t => (hr a t).r)⟩
theorem sq_par2 {i j : Nat} {f1 f2 : Bool} {m : Mo α} {V : α → D} {F : α → Fm} {m2 : α → Mo β} {V2 : α → β → D} {F2 F' : α → β → Fm} {k : α → β → Mo γ} (h1 : XQ f1 K a q m V F) (h2 : ∀ x, XQ f2 K b (F x) (m2 x) (V2 x) (F2 x)) (hr : ∀ x y, SQ K r ks (F' x y) (k x y) P)
    (hj : ∀ x y, fr1 (F2 x y) j = true := by intros; rfl) (hi : ∀ x y, fr1 ((F2 x y).set j (slF f2 (V2 x y))) i = true := by intros; rfl) (hF : ∀ x y, ((F2 x y).set j (slF f2 (V2 x y))).set i (slF f1 (V x)) = F' x y := by intros; rfl) :
    SQ K (.cons (.par2 i j a b) r) ks q (m >>= fun x => m2 x >>= fun y => k x y) P := ⟨sr_par2 (h1 := h1) (h2 := h2) (hr := fun x y => (hr x y).r) (hj := hj) (hi := hi) (hF := hF)⟩
theorem sq_retS {m : Mo α} {V : α → D} {F : α → Fm} (g : α → γ) (h : XV K e q m V F) (hP : ∀ a, P (g a) (.ret (.val (V a)) (F a))) : SQ K (.cons (.retS e) r) ks q (m >>= fun a => .ok (g a)) P := ⟨sr_retS (g := g) (h := h) (hP := hP)⟩
theorem sq_retP {m : Mo γ} {V : γ → D} {F : γ → Fm} (h : XV K e q m V F) (hP : ∀ a, P a (.ret (.val (V a)) (F a))) : SQ K (.cons (.retS e) r) ks q m P := ⟨sr_retP (h := h) (hP := hP)⟩
theorem sq_retWP {m : Mo γ} {V : γ → D} {F : γ → Fm} (h : XN K e q m V F) (hP : ∀ a, P a (.ret (.new (V a)) (F a))) : SQ K (.cons (.ret e) r) ks q m P := ⟨sr_retWP (h := h) (hP := hP)⟩
theorem sq_app {i : Nat} {bo : α → Bool} {x : α → D} {m : Mo α} {V : α → D} {F : α → Fm} {F' : α → D → Fm} {k : α → D → Mo γ} (h : XV K e q m V F) (hi : ∀ a, (F a)[i]? = some (.ow (bo a) (x a))) (hr : ∀ a y, SQ K r ks (F' a y) (k a y) P) (hF : ∀ a y, (F a).set i (.ow (bo a) y) = F' a y := by intros; rfl) (h0 : isOwn q[i]? = true := by rfl) :
    SQ K (.cons (.expr (.app i e)) r) ks q (m >>= fun a => appM (x a) (V a) >>= fun y => k a y) P := ⟨sr_app (h := h) (hi := hi) (hr := fun a y => (hr a y).r) (hF := hF) (h0 := h0)⟩
theorem sq_ext {i : Nat} {bo : α → Bool} {x : α → D} {m : Mo α} {V : α → D} {F : α → Fm} {F' : α → D → Fm} {k : α → D → Mo γ} (h : XV K e q m V F) (hi : ∀ a, (F a)[i]? = some (.ow (bo a) (x a))) (hr : ∀ a y, SQ K r ks (F' a y) (k a y) P) (hF : ∀ a y, (F a).set i (.ow (bo a) y) = F' a y := by intros; rfl) (h0 : isOwn q[i]? = true := by rfl) :
    SQ K (.cons (.expr (.ext i e)) r) ks q (m >>= fun a => extM (x a) (V a) >>= fun y => k a y) P := ⟨sr_ext (h := h) (hi := hi) (hr := fun a y => (hr a y).r) (hF := hF) (h0 := h0)⟩
theorem sq_if {t : T} {m : Mo α} {V : α → Bool} {F : α → Fm} {ka kb : α → Mo γ} (h : XT K t q m V F) (ha : ∀ x, SQ K sa (r :: ks) (F x) (ka x) P) (hb : ∀ x, SQ K sb (r :: ks) (F x) (kb x) P) : SQ K (.cons (.ift t sa sb) r) ks q (m >>= fun x => if V x then ka x else kb x) P := ⟨sr_if (h := h) (ha := fun x => (ha x).r) (hb := fun x => (hb x).r)⟩
theorem sq_for {it : I} {l : LV} {mi : Mo α} {Vi : α → List D} {Fi : α → Fm} {F : β → Fm} {pt : β → D → Mo τ} {Ft : β → τ → Fm} {st : β → τ → Mo (Fl β ρ)} {R : ρ → SRes → Prop} {k : β → Mo γ} (b0 : α → β) (rt : ρ → γ)
    (hi : XI K it q mi Vi Fi) (ht : ∀ s d, XTg K l d (F s) (pt s d) (Ft s)) (hb : ∀ s t, SQ K sa [] (Ft s t) (st s t) (PB F R)) (hr : ∀ s, SQ K r ks (F s) (k s) P) (hP : ∀ x y, R x y → IsRet y → P (rt x) y) (hF : ∀ a, Fi a = F (b0 a) := by intros; rfl) :
    SQ K (.cons (.for l it sa) r) ks q (mi >>= fun a => foldB (fun s d => pt s d >>= fun t => st s t) (b0 a) (Vi a) >>= fun x => Fl.on x k fun x => .ok (rt x)) P := ⟨sr_for (b0 := b0) (rt := rt) (hi := hi) (ht := ht) (hb := fun s t => (hb s t).r) (hr := fun s => (hr s).r) (hP := hP) (hF := hF)⟩
theorem sq_forN {it : I} {l : LV} {mi : Mo α} {Vi : α → List D} {Fi : α → Fm} {F : β → Fm} {pt : β → D → Mo τ} {Ft : β → τ → Fm} {st : β → τ → Mo β} {k : β → Mo γ} (b0 : α → β)
    (hi : XI K it q mi Vi Fi) (ht : ∀ s d, XTg K l d (F s) (pt s d) (Ft s)) (hb : ∀ s t, SQ K sa [] (Ft s t) (st s t) (PNc F)) (hr : ∀ s, SQ K r ks (F s) (k s) P) (hF : ∀ a, Fi a = F (b0 a) := by intros; rfl) :
    SQ K (.cons (.for l it sa) r) ks q (mi >>= fun a => foldN (fun s d => pt s d >>= fun t => st s t) (b0 a) (Vi a) >>= k) P := ⟨sr_forN (b0 := b0) (hi := hi) (ht := ht) (hb := fun s t => (hb s t).r) (hr := fun s => (hr s).r) (hF := hF)⟩
theorem mq_nil {m : Mo D} {F : D → Fm} (h : XV K e q m I1 F) : MQ K e .nil q (m >>= fun d => .ok [d]) := ⟨mr_nil (h := h)⟩
theorem mq_cons {x : S} {m : Mo α} {F : α → Fm} {k : α → Mo (List D)} (h : SQ K (.cons x .nil) [] q m (PN F)) (hr : ∀ a, MQ K e r (F a) (k a)) (hp : ∀ a, isPin (F a)[0]? = true := by intros; rfl) : MQ K e (.cons x r) q (m >>= k) := ⟨mr_cons (h := h.r) (hr := fun a => (hr a).r) (hp := hp)⟩
end
end M

set_option Elab.async false
set_option linter.all false
set_option maxRecDepth 100000
set_option maxHeartbeats 1000000
/-! C9: calls with names, f-strings. -/
namespace M
open PySem
def fstM (pre post : Str) : D → Mo D
  | .int i => if i.natAbs.log2 < 1920 ∧ ((pre ++ toString i) ++ post).length ≤ sizeLine then .ok (.str ((pre ++ toString i) ++ post)) else .bad
  | _ => .bad
section
variable {K : Calls} {q : Fm} {e a b c d : E} {p : P} {m ma mb mc : Mo D} {f k : Nat} {pm : List Nat}
theorem e_fst {pre post : Str} (h : EB K e q m) : EB K (.fst pre e post) q (m >>= fstM pre post) := fun pk => by
  rw [ev]
  refine (h true).bind fun x r q' ⟨h1, h2⟩ => ?_
  have h1 : q' = q := h1
  have h2 : r = .val x := h2
  subst h1 h2
  cases x with
  | int i =>
    unfold fstM
    dsimp only
    by_cases hc : i.natAbs.log2 < 1920 ∧ ((pre ++ toString i) ++ post).length ≤ sizeLine
    · rw [if_pos hc, if_pos hc]
      exact Rl.ok ⟨rfl, rfl⟩
    · rw [if_neg hc, if_neg hc]; trivial
  | _ => trivial
theorem fv_end {as : Fm} {m : Mo D} {β : Type} {V2 : D → RV} {P : D → RV → Fm → Prop} {n : Bool} (hl : ∀ a, V2 a = .val a) (hf : Rl (K.fn f as) m fun a r q' => r = .val a ∧ True) {l : List Ga} (h1 : lent q l = some as) (h2 : lentIx l = []) (h3 : ∀ q', giveBack l q' q = q) :
    Rl (callR K f l q) m fun a r q' => q' = q ∧ r = .val a := by
  unfold callR
  rw [if_pos (by rw [h2]; exact List.nodup_nil), h1]
  dsimp only
  cases e1 : m with
  | bad => trivial
  | exc c ds =>
    rw [e1] at hf
    obtain ⟨q', e2⟩ := hf
    rw [e2]
    exact ⟨_, rfl⟩
  | ok b =>
    rw [e1] at hf
    obtain ⟨r, q', e2, rfl, _⟩ := hf
    rw [e2]
    exact Rl.ok ⟨h3 q', rfl⟩
theorem mk1_b {g : D → Mo (List D)} (h1 : EV K a q ma) (hf : ∀ x, CV K f [.sh false x] (g x)) : EB K (.makeP f [0] (.v a .nil)) q (ma >>= fun x => g x >>= fun fs => .ok (.ins f fs)) := fun pk => by
  have z := m1_b h1 hf pk
  have e : ev K (.makeP f [0] (.v a .nil)) pk q = ev K (.make f (.v a .nil)) pk q := by
    rw [ev, ev]
    have : ∀ r : Res (List Ga), (∀ l q', r = .ok l q' → ∃ x, l = [x]) → (bindR r fun l q1 => makeR K f (pick [0] l) q1) = bindR r fun l q1 => makeR K f l q1 := fun r hr => by
      cases r with
      | ok l q' => obtain ⟨x, rfl⟩ := hr l q' rfl; rfl
      | _ => rfl
    refine this _ fun l q' e => ?_
    rw [evG] at e
    cases h : ev K a false q with
    | ok x q1 =>
      rw [h] at e
      have e : (match x.vd with | some d => bindR (evG K .nil q1) fun l q2 => Res.ok (Ga.v d :: l) q2 | none => .bad) = Res.ok l q' := e
      cases hx : x.vd with
      | none => rw [hx] at e; cases e
      | some d => rw [hx, evG] at e; cases e; exact ⟨_, rfl⟩
    | exc _ _ _ => rw [h] at e; cases e
    | bad => rw [h] at e; cases e
  rw [e]
  exact z
theorem call_I {c : Nat} {gs : Gs} {ms : Mo (List D)} {mf : List D → Mo D} (h : GP K gs q ms) (hf : ∀ l, FP K f l (mf l)) : EB K (.callI c f gs) q (ms >>= fun l => if insL c (l.map Ga.v) then mf l else .bad) := fun pk => by
  rw [ev]
  refine Rl.bind h fun l ga q' ⟨h1, h2⟩ => ?_
  have h1 : q' = q := h1
  have h2 : ga = l.map Ga.v := h2
  subst h1 h2
  by_cases hi : insL c (l.map Ga.v) = true
  · rw [if_pos hi, if_pos hi]
    exact fv_end (V2 := .val) (P := fun _ _ _ => True) (n := true) (β := Nat) (fun _ => rfl) (hf l) (lent_v q' _) (lx_v _) (fun _ => gb_v _ _ _)
  · rw [if_neg hi, if_neg hi]; trivial
theorem isI_ins {c : Nat} {x y : D} {m : Mo D} : (isI c x >>= fun _ => isI c y >>= fun _ => m) = if insL c ([x, y].map Ga.v) then m else .bad := by
  cases x with
  | ins k fs =>
    by_cases hk : k = c
    · cases y with
      | ins k2 gs =>
        by_cases hk2 : k2 = c
        · subst hk hk2; simp [isI, insL]
        · subst hk; simp [isI, insL, hk2]
      | _ => subst hk; simp [isI, insL]
    · simp [isI, insL, hk]
  | _ => simp [isI, insL]
theorem i2_b {c : Nat} {g : D → D → Mo D} (h1 : EV K a q ma) (h2 : EV K b q mb) (hf : ∀ x y, FP K f [x, y] (g x y)) : EB K (.callI c f (.v a (.v b .nil))) q (ma >>= fun x => mb >>= fun y => isI c x >>= fun _ => isI c y >>= fun _ => g x y) := by
  have z := call_I (c := c) (mf := on2 g) (gp_cons h1 (gp_cons h2 gp_nil)) (on2_ok (R := fun l m => FP K f l m) (fun _ => trivial) hf)
  cases ma <;> cases mb <;> first | exact z | (simp only [ok_bind, isI_ins]; exact z)
end
end M

set_option Elab.async false
set_option linter.all false
set_option maxRecDepth 100000
set_option maxHeartbeats 1000000
/-! C10: sorted(list, key=a def), as a plain function. -/
namespace M
open PySem
section
variable {K : Calls} {q : Fm} {e : E} {m : Mo D} {f : Nat}
end
end M

set_option Elab.async false
set_option linter.all false
set_option maxRecDepth 100000
set_option maxHeartbeats 1000000
/-! C11: xs[k] op= e; near_zeros' cuts. -/
namespace M
open PySem
section
variable {α β γ δ τ ρ : Type} {K : Calls} {q q1 : Fm} {e k : E} {p : P} {r s sa sb : Ss} {ks : List Ss} {P : γ → SRes → Prop}
end
end M

set_option Elab.async false
set_option linter.all false
set_option maxRecDepth 100000
set_option maxHeartbeats 4000000
/-! G14: sorted(ints), sorted(set(ints)). -/
namespace M
open PySem L2 PyProof.Rows PySem.Spec
/-! ### sorted lists of ints -/
/-! ### set(a list of ints) -/
section
variable {Z : Zc} {H : Hp} {R : Pr} {x : V} {Q : VK}
end
section
variable {W : Wo} {X : Cx} {ex : XK} {n : Nat} {pos p1 p2 p3 : Pos} {a : Expr} {A : E}
end
end M

set_option Elab.async false
set_option linter.all false
set_option maxRecDepth 100000
set_option maxHeartbeats 4000000
/-! G15: xs[k] op= e. -/
namespace M
open PySem L2 PyProof.Rows PySem.Spec
section
variable {Z : Zc} {K : Calls} {ex : XK} {σ : Sg} {H : Hp} {D : Ends}
end
section
variable {W : Wo} {X : Cx} {ex : XK} {n : Nat} {pos p1 p2 : Pos} {a b : Expr} {A B : E} {x : Str}
end
end M

set_option Elab.async false
set_option linter.all false
set_option maxRecDepth 100000
set_option maxHeartbeats 4000000
/-! G16: near_zeros' cuts: a dict whose keys are put in order. -/
namespace M
open PySem L2 PyProof.Rows PySem.Spec
/-- the keys of a dict, ints, each once -/
structure KeyI (kv : List (Key × V)) (ks : List Int) : Prop where
  ky : kv.map (·.1) = ks.map Sum.inl
  nd : ks.Nodup
theorem KeyI.len {kv : List (Key × V)} {ks : List Int} (h : KeyI kv ks) : kv.length = ks.length := by
  have := congrArg List.length h.ky
  simpa using this
def putI (ks : List Int) (z : Int) : List Int := if z ∈ ks then ks else ks ++ [z]
theorem putI_mem {ks : List Int} {z x : Int} : x ∈ putI ks z ↔ x ∈ ks ∨ x = z := by
  unfold putI; split
  · rename_i h
    constructor
    · exact .inl
    · rintro (k | rfl)
      · exact k
      · exact h
  · simp
theorem putI_len (ks : List Int) (z : Int) : (putI ks z).length ≤ ks.length + 1 := by unfold putI; split <;> simp
theorem KeyI.put {kv : List (Key × V)} {ks : List Int} (h : KeyI kv ks) (z : Int) (v : V) : KeyI (putK kv (Sum.inl z) v) (putI ks z) := by
  have e : (kv.any fun p => decide (p.1 = Sum.inl z)) = decide (z ∈ ks) := by
    rw [Bool.eq_iff_iff, List.any_eq_true, decide_eq_true_eq]
    constructor
    · rintro ⟨p, hp, hz⟩
      have h1 : p.1 ∈ kv.map (·.1) := List.mem_map.mpr ⟨p, hp, rfl⟩
      rw [h.ky, of_decide_eq_true hz] at h1
      simpa using h1
    · intro hz
      have h1 : (Sum.inl z : Key) ∈ kv.map (·.1) := by rw [h.ky]; exact List.mem_map.mpr ⟨z, hz, rfl⟩
      obtain ⟨p, hp, he⟩ := List.mem_map.mp h1
      exact ⟨p, hp, decide_eq_true he⟩
  unfold putK putI
  rw [e]
  by_cases hz : z ∈ ks
  · rw [if_pos (by simpa using hz), if_pos hz]
    refine ⟨?_, h.nd⟩
    rw [← h.ky, List.map_map]
    refine List.map_congr_left fun p _ => ?_
    simp only [Function.comp]
    split <;> rfl
  · rw [if_neg (by simpa using hz), if_neg hz]
    refine ⟨by simp [h.ky], ?_⟩
    exact List.nodup_append.2 ⟨h.nd, by simp, fun a ha b hb => by
      simp only [List.mem_singleton] at hb
      subst hb
      intro e; subst e; exact hz ha⟩
section
variable {Z : Zc} {K : Calls} {ex : XK} {R0 R1 : Pr} {σ : Sg} {q : Fm} {H : Hp} {D : Ends}
end
/-- the loop's state -/
def nzJ (Hc : Hp) (p : Addr) (b : Int) (l : List Int) (i : Nat) (H : Hp) : Prop := ∃ kv ks, KeyI kv ks ∧ H = upd Hc p (.dK kv) ∧ ks.length ≤ 2 + 2 * i ∧ ∀ x, x ∈ ks ↔ x = -b ∨ x = b ∨ x ∈ (l.take i).flatMap fun a => [a, a + 1]
theorem nzJ.here {Hc H : Hp} {p : Addr} {b : Int} {l : List Int} {i : Nat} (h : nzJ Hc p b l i H) : ∃ kv, H p = some (.dK kv) := by
  obtain ⟨kv, ks, _, rfl, _⟩ := h
  exact ⟨kv, upd_same⟩
theorem nzJ.next {Hc H : Hp} {p : Addr} {b : Int} {l : List Int} {i : Nat} {z : Int} (h : nzJ Hc p b l i H) (hz : l[i]? = some z) (hi : i < 1000) : ∃ H1 H2, DPut H p (V.int z) (V.bl true) H1 ∧ DPut H1 p (V.int (z + 1)) (V.bl true) H2 ∧ nzJ Hc p b l (i + 1) H2 := by
  obtain ⟨kv, ks, hk, rfl, hl, hm⟩ := h
  have k1 := hk.put z (V.bl true)
  have k2 := k1.put (z + 1) (V.bl true)
  have l1 := putI_len ks z
  have l2 := putI_len (putI ks z) (z + 1)
  have s1 : kv.length < sizeLine := by rw [hk.len, sizeLine_eq]; omega
  have s2 : (putK kv (Sum.inl z) (V.bl true)).length < sizeLine := by rw [k1.len, sizeLine_eq]; omega
  refine ⟨_, _, DPut.k (k := Sum.inl z) upd_same s1, DPut.k (k := Sum.inl (z + 1)) upd_same s2, _, _, k2, ?_, by omega, fun x => ?_⟩
  · rw [upd_upd, upd_upd]
  · rw [putI_mem, putI_mem, hm x, List.take_add_one, hz]
    simp only [Option.toList_some, List.flatMap_append, List.flatMap_cons, List.flatMap_nil, List.append_nil, List.mem_append, List.mem_cons, List.not_mem_nil, or_false]
    generalize (x ∈ List.flatMap (fun a => [a, a + 1]) (List.take i l)) = P0
    constructor
    · rintro (((h | h | h) | h) | h)
      · exact .inl h
      · exact .inr (.inl h)
      · exact .inr (.inr (.inl h))
      · exact .inr (.inr (.inr (.inl h)))
      · exact .inr (.inr (.inr (.inr h)))
    · rintro (h | h | h | h | h)
      · exact .inl (.inl (.inl h))
      · exact .inl (.inl (.inr (.inl h)))
      · exact .inl (.inl (.inr (.inr h)))
      · exact .inl (.inr h)
      · exact .inr h
section
variable {Z : Zc} {K : Calls} {ex : XK} {σ : Sg} {H : Hp} {D : Ends}
end
end M

set_option Elab.async false
set_option linter.all false
set_option maxRecDepth 100000
set_option maxHeartbeats 4000000
/-! G17: near_zeros' cuts: the tree's reading. -/
namespace M
open PySem L2 PyProof.Rows PySem.Spec
section
variable {Z : Zc} {K : Calls} {ex : XK} {σ : Sg} {H : Hp} {Dn : Ends}
end
section
variable {W : Wo} {X : Cx} {ex : XK} {n : Nat} {q1 q2 q3 q4 q5 q6 : Pos} {a : Expr} {A : E} {st1 st2 st3 : Stmt} {sb : List Stmt} {tb : Ss}
end
end M

set_option Elab.async false
set_option linter.all false
set_option maxRecDepth 100000
set_option maxHeartbeats 4000000
/-! G18: near_zeros' three statements. -/
namespace M
open PySem L2 PyProof.Rows PySem.Spec
section
variable {W : Wo} {X : Cx} {ex : XK} {n : Nat} {pos u1 u2 u3 u4 u5 u6 u7 u8 u9 u10 u11 u12 u13 u14 : Pos} {a : Expr} {A : E} {cuts found at_ bound : Str} {j1 j2 j3 k1 k2 : Nat}
end
end M

set_option Elab.async false
set_option linter.all false
set_option maxRecDepth 100000
set_option maxHeartbeats 4000000
/-! X1: exceptions as values: isinstance, fields; count, index, == (). -/
namespace M
open PySem L2 PyProof.Rows SlX
section
variable {X : Cx} {pins : List (Addr × Obj)} {σ : Sg} {H : Hp} {s : Shared} {a D dx : Addr} {d : Option Addr} {fs : List (Str × V)}
end
section
variable {W : Wo} {X : Cx} {ex : XK} {n k : Nat} {pos p1 p2 p3 p4 : Pos} {a b c : Expr} {A B C : E} {x : Str} {es : List Expr}
/-! e.f, e an exception -/
end
/-! l.count(True), l.index(True), t == (), t != () -/
section
variable {X : Cx}
end
section
variable {W : Wo} {X : Cx} {ex : XK} {n k : Nat} {pos p1 p2 p3 p4 apos : Pos} {a b c : Expr} {A B C : E} {x : Str} {es : List Expr}
end
end M

set_option Elab.async false
set_option linter.all false
set_option maxRecDepth 100000
set_option maxHeartbeats 4000000
/-! X1g: own exception classes over ValueError, LookupError or ArithmeticError (the rules of the library for ValueError, for each of the three). -/
namespace M
open PySem L2 PyProof.Rows SlX
inductive Fam | ve | le | ae
def Fam.nam : Fam → String
  | .ve => "ValueError"
  | .le => "LookupError"
  | .ae => "ArithmeticError"
def Fam.new : Fam → String
  | .ve => "ValueError.__new__"
  | .le => "LookupError.__new__"
  | .ae => "ArithmeticError.__new__"
def Fam.ini : Fam → String
  | .ve => "ValueError.__init__"
  | .le => "LookupError.__init__"
  | .ae => "ArithmeticError.__init__"
def Fam.tail : Fam → List Value
  | .ve => [.type "ValueError", .type "Exception", .type "BaseException", .type "object"]
  | .le => [.type "LookupError", .type "Exception", .type "BaseException", .type "object"]
  | .ae => [.type "ArithmeticError", .type "Exception", .type "BaseException", .type "object"]
theorem Fam.base : ∀ fm : Fam, ExcBaseFacts fm.nam fm.new fm.ini fm.tail
  | .ve => F.excBase_ValueError
  | .le => F.excBase_LookupError
  | .ae => F.excBase_ArithmeticError
/-- own classes, then a family's -/
def refsT (tl : List Value) : List Value → Bool
  | .ref _ :: r => refsT tl r
  | l => l == tl
structure OexG (K : PySem.W.Frag) (C : Addr) : Prop where
  cls : ∃ (fm : Fam), ∃ nm q N bs bm sn sub ab col dd k0 k1 k2 k3 k5, K.lookup C = some (excClassObj nm q C N bs bm true sn sub ab col dd k0 k1 k2 k3 k5 fm.new) ∧ refsT fm.tail bm = true
  sa : PySem.W.findIn K (.ref C) "__setattr__" = some (some (.builtin "object.__setattr__"))
  exC : PySem.W.subIn K (.ref C) (.type "BaseException") = some true
  tyC : PySem.W.typeIn K (.ref C) = some (.type "type")
  kC : PySem.W.keepIn K (.ref C) = true
section
open Builtin Builtin.ObjectAttr PySem.HandSPX
variable {prog : Program} {w : World} {A : Around} {E : Value → Shared → Prop} {R : Result → Shared → Prop} {hp : Heap} {g : Array GenState} {d : Drawn} {t : Nat} {os : OsState}
end
section
variable {X : Cx} {pins : List (Addr × Obj)} {σ : Sg} {H : Hp} {s : Shared} {a C dx : Addr} {f : Str} {y : V} {u : Value} {fs : List (Str × V)} {Q : Unit → Shared → Prop} {E : Value → Shared → Prop} {A : Around}
end
section
variable {X : Cx} {o e : Expr} {es : List Expr} {to te : TE} {ta : TA} {f : Str} {p p' p1 p2 pos : Pos}
end
end M

set_option Elab.async false
set_option linter.all false
set_option maxRecDepth 100000
set_option maxHeartbeats 4000000
/-! X2: raise C(e), C a class of the program over ValueError, its __init__ stores one field. -/
namespace M
open PySem L2 PyProof.Rows SlX
/-- __init__(self, f): self.f = f -/
def spI (K : PySem.W.Frag) (f : Str) : Sp := fun vs H Q _ => ∃ (a C : Addr) (v : V), vs = [.ref a, v] ∧ H a = some (exo a C none) ∧ OexG K C ∧ PySem.W.findIn K (.ref C) f = some none ∧
  ∀ dx, H dx = none → dx ≠ a → Q .non (upd (upd H dx (exd dx [(f, v)])) a (exo a C (some dx)))
/-- a class of exceptions that is raised with one value -/
structure Xd (W : Wo) (x : Str) (c : Nat) (f : Str) : Prop where
  nc : W.Z.nc ≤ c
  nx : c < W.Z.nx
  xf : W.Z.xf c = [f]
  gC : W.mg x = some (.ref (W.Z.C c))
  T : OexG W.Z.K (W.Z.C c)
  no : PySem.W.findIn W.Z.K (.ref (W.Z.C c)) f = some none
  ex : ∃ fI fd, PySem.W.findIn W.Z.K (.ref (W.Z.C c)) "__init__" = some (some (.ref fI)) ∧ PySem.W.typeIn W.Z.K (.ref fI) = some (.type "function") ∧ FnOk W.P W.w W.Z.K W.mg W.base CX0 1 fI fd ["self", f] (spI W.Z.K f) ∧ L2.Binds W.Z.K fd ["self", f] []
section
variable {Z : Zc} {K : Calls} {ex : XK} {σ : Sg} {H : Hp} {D : Ends}
end
section
variable {W : Wo} {X : Cx} {ex : XK} {n : Nat} {p1 p2 p3 p4 pos : Pos} {a : Expr} {A : E} {x f : Str} {c : Nat}
end
end M

set_option Elab.async false
set_option linter.all false
set_option maxRecDepth 100000
set_option maxHeartbeats 4000000
/-! X3: try: .. except (C1, C2, C3) as e: suite, the exception known to the suite. -/
namespace M
open PySem L2 PyProof.Rows SlX PySem.Spec
/-- what the clause wishes of an exception of the body: it is one of its classes; the suite runs, the exception in slot i -/
def wTup (K : PySem.W.Frag) (n : Nat) (cs : List Value) (i : Nat) (ts : TS) (D : Ends) : WX := fun cls d σ H =>
  PySem.W.exmAny K cls cs = some true ∧ (σ.length = n → ∀ a, H a = none → ts { nx := fun σ' H' => D.nx (σ'.set i none) H', rt := D.rt, bk := fun σ' H' => D.bk (σ'.set i none) H', ct := fun σ' H' => D.ct (σ'.set i none) H' } (σ.set i (some (.ref a))) (upd H a (ExO a cls d)))
section
variable {X : Cx} {x1 x2 x3 n : Str} {c1 c2 c3 : Value} {i k : Nat} {body suite : List Stmt} {b0 : Stmt} {np q1 q2 q3 pos pos2 : Pos} {tb : WX → TS} {ts : TS}
end
end M

set_option Elab.async false
set_option linter.all false
set_option maxRecDepth 100000
set_option maxHeartbeats 4000000
/-! X4: a def called with a lambda: what is tracked stays so. -/
namespace M
open PySem L2 PyProof.Rows SlX PySem.Spec LamX
section
variable {X : Cx} {pins : List (Addr × Obj)} {σ : Sg} {H : Hp} {s : Shared}
/-- what stands behind the making of a lambda -/
structure LamNew (X : Cx) (pins : List (Addr × Obj)) (σ : Sg) (T : List (Addr × Str)) (H H1 : Hp) (s1 : Shared) (params : Arguments) (body : Expr) (scope : Scope) (f c1 : Addr) (pm ctv : Value) : Prop where
  inv : Inv X pins σ H1 s1
  ext : ExtN H H1
  tr : ∀ b, H b ≠ none → H1 b ≠ none
  tabs : Tabs T H1
  get : s1.heap.get? f = some (PySem.W.kla_obj "<lambda>" (X.env.qual ++ "<lambda>") params body scope (cloFrom X.env.cells scope.names []) pm c1 ctv)
  new : H1 f = none
  nofr : f ∉ frs X.stack
  code : H1 c1 = some (CodeO c1 (X.env.qual ++ "<lambda>"))
end
section
variable {X : Cx} {pins pn : List (Addr × Obj)} {σ : Sg} {H : Hp} {s : Shared} {CXg : CXT} {Eg E : XK} {Ng : List Str} {qg a : Str} {sg scope : Scope} {g f c1 : Addr} {cdg pm ctv : Value} {params : Arguments} {body : Expr} {k : Nat} {xe : Value → Shared → Prop} {V : WX} {tb : TE} {p1 p2 : Pos}
end
section
variable {X : Cx}
end
end M

set_option Elab.async false
set_option linter.all false
set_option maxRecDepth 100000
set_option maxHeartbeats 4000000
/-! X5: answer(lambda: e), answer a def that calls what it got and catches. -/
namespace M
open PySem L2 PyProof.Rows SlX PySem.Spec LamX
section
variable {Z : Zc} {R0 : Pr} {σ : Sg} {q : Fm} {H H' : Hp}
end
def endQ (Q : VK) : Ends := { nx := fun _ H' => Q .non H', rt := Q, bk := fun _ _ => False, ct := fun _ _ => False }
section
variable {Z : Zc} {K : Calls} {R0 : Pr} {σ : Sg} {q : Fm} {H : Hp} {Q : VK}
end
/-- behind the call of what it got: where the value goes -/
def setV (iv : Option Nat) (w : V) (σ : Sg) : Sg := match iv with
  | some i => σ.set i (some w)
  | none => σ
def endR (Z : Zc) (K : Calls) (ad : ADef) (Q : VK) : Ends := { endQ Q with nx := tSs Z K E0 ad.rest (endQ Q) }
def TTm (Z : Zc) (K : Calls) (ad : ADef) (cs : List Value) : (XK → Hp → VK → Prop) → Hp → VK → Prop := fun tl H Q =>
  (∀ E H Q Q', (∀ w H2, Q w H2 → Q' w H2) → tl E H Q → tl E H Q') ∧ tl (fun cls d H2 => ∀ s2 : Sg, wTup Z.K ad.nN cs ad.ie (tSs Z K E0 ad.suite) (endR Z K ad Q) cls d s2 H2) H (fun w H2 => ∀ s2 : Sg, s2.length = ad.nN → tSs Z K E0 ad.rest (endQ Q) (setV ad.iv w s2) H2)
/-- the classes that it catches are those of all exceptions -/
def Xc (Z : Zc) (cs : List Value) : Prop := ∀ c, Z.nc ≤ c → c < Z.nx → PySem.W.exmAny Z.K (.ref (Z.C c)) cs = some true
end M

set_option Elab.async false
set_option linter.all false
set_option maxRecDepth 100000
set_option maxHeartbeats 4000000
/-! X6: where an exception is handled: contexts, defs called there; defs whose code object is known. -/
namespace M
open PySem L2 PyProof.Rows SlX PySem.Spec LamX L2H
/-- a def's promise there; nothing is raised -/
def FnQ (P : Program) (w : World) (K : PySem.W.Frag) (mg : Str → Option Value) (base : Heap) (k : Nat) (f : Addr) (sp : Sp) : Prop := ∀ (A : Around) (below : List Env) (s0 : Shared) (H : Hp) (us : List Value) (vs : List V) (Q : VK), Qu A → RoomH k A → Env0 P w K mg base A below s0 H → Vals vs us → sp vs H Q E0 →
  codeAny (model P w) A (.call (.ref f) ⟨us, []⟩) (CR C8.CX0 below P w H s0 Q E0) s0
theorem FnQ.mono {P : Program} {w : World} {K : PySem.W.Frag} {mg : Str → Option Value} {base : Heap} {j k : Nat} {f : Addr} {sp : Sp} (F : FnQ P w K mg base j f sp) (h : j ≤ k) : FnQ P w K mg base k f sp := fun A b s0 H us vs Q q r => F A b s0 H us vs Q q (r.mono h)
section
variable {W : Wo} {N ps : List Str} {x qual : Str} {st : Stmt} {sc : Scope} {f : Addr} {cdv : Value} {A : Around} {outer : List Env} {s s1 : Shared} {H : Hp} {n : Nat} {us : List Value} {vs : List V}
end
section
variable {Z : Zc} {K K' : Calls} {fi : Nat} {d : FDef} {N ps : List Str} {sc : Scope} {vs : List V} {H : Hp} {Q : VK} {E : XK}
end
/-- a def called there -/
structure Fh (W : Wo) (k : Nat) (x : Str) (f : Nat) : Prop where
  ex : ∃ a, FnQ W.P W.w W.Z.K W.mg W.base k a (spF W.Z W.K f) ∧ W.mg x = some (.ref a) ∧ PySem.W.keepIn W.Z.K (.ref a) = true
section
variable {W : Wo} {X : Cx} {n k : Nat} {pos p1 : Pos} {x : Str} {e : Expr} {es : List Expr}
end
section
variable {W : Wo} {t : Tab} {j n f : Nat} {d : FDef} {N ps : List Str} {x qual : Str} {st : Stmt} {a : Addr}
end
end M

set_option Elab.async false
set_option linter.all false
set_option maxRecDepth 100000
set_option maxHeartbeats 4000000
/-! X7: x(lambda: e), x a def that calls what it got and catches. -/
namespace M
open PySem L2 PyProof.Rows SlX PySem.Spec LamX L2H
section
variable {W : Wo} {X : Cx} {ex : XK} {n m : Nat} {ad : ADef} {Ng : List Str} {x a q en x1 x2 x3 : Str} {sg : Scope} {ga : Addr} {cdg c1 c2 c3 : Value} {b0 : Stmt} {body1 suite rest : List Stmt} {p1 p2 q1 q2 q3 np pos pos2 : Pos} {kx : Nat}
end
/-- the def at ga that answers: what its call with a lambda asks -/
structure AdX (W : Wo) (K1 : Calls) (k : Nat) (x : Str) (A : Nat) (ad : ADef) (cs : List Value) (ga : Addr) (a : Str) (Ng : List Str) (pg : Arguments) (bg : List Stmt) (sg : Scope) (dV kV doc pm cdv ct oc : Value) (an od : Option Addr) (osl : Array (Option Value)) : Prop where
  ev : ∀ b d, W.K.an A b d = runA K1 ad b d
  xc : Xc W.Z cs
  iv : ∀ i, ad.iv = some i → i < ad.nN
  ie : ad.ie < ad.nN
  gx : W.mg x = some (.ref ga)
  kp : PySem.W.keepIn W.Z.K (.ref ga) = true
  lk : W.Z.K.lookup ga = some ⟨oc, od, .func (PySem.W.fnOf x x pg bg sg dV kV doc pm an cdv ct), osl⟩
  cd : PySem.W.codeIn W.Z.K cdv x = true
  bi : L2.Binds W.Z.K (PySem.W.fnOf x x pg bg sg dV kV doc pm an cdv ct) [a] []
  sc : FnScope Ng [a] sg
  h0 : Ng[0]? = some a
  vi : Vis sg a
  d1 : (x == ("__debug__" : Str)) = false
  d2 : (a == ("__debug__" : Str)) = false
  d3 : (a == ("__classdict__" : Str)) = false
  gi : ∀ {X : Cx} {ex : XK} {n : Nat}, Gd W n X ex → k + 1 ≤ n → ∀ q, GivesTo X Ng x sg ga cdv bg a q (TTm W.Z K1 ad cs)
structure Fa (W : Wo) (k : Nat) (x : Str) (A : Nat) : Prop where
  ex : (∀ b d, W.K.an A b d = .bad) ∨ ∃ K1 ad cs ga a Ng pg bg sg dV kV doc pm cdv ct oc an od osl, AdX W K1 k x A ad cs ga a Ng pg bg sg dV kV doc pm cdv ct oc an od osl
/-- a def whose lambdas' code is known -/
structure Lc (W : Wo) (qual : Str) (cdv : Value) : Prop where
  ex : ∃ c P, cdv = .ref c ∧ TabB W.base W.mg c P ∧ (P, qual ++ "<lambda>") ∈ W.Z.T ∧ ∀ p ∈ W.Z.T, p.1 = P → p.2 = qual ++ "<lambda>"
section
variable {W : Wo} {X : Cx} {ex : XK} {n k : Nat}
end
end M

set_option Elab.async false
set_option linter.all false
set_option maxRecDepth 100000
set_option maxHeartbeats 4000000
/-! X8: defs with lambdas, from level to level. -/
namespace M
open PySem L2 PyProof.Rows SlX PySem.Spec LamX L2H
section
variable {P : Program} {w : World} {K : PySem.W.Frag} {mg : Str → Option Value} {base : Heap} {CX : CXT} {k : Nat} {f : Addr} {fd : FuncData} {ps : List Str} {sp : Sp} {Cd : Value → Prop}
end
section
variable {W : Wo} {t : Tab} {j n f : Nat} {d : FDef} {N ps : List Str} {x qual : Str} {st : Stmt} {a : Addr} {Cd : Value → Prop}
end
end M

set_option Elab.async false
set_option linter.all false
set_option maxRecDepth 100000
set_option maxHeartbeats 4000000
/-! X9: dict displays; what is raised, what is answered: the plain side. -/
namespace M
open PySem L2 PyProof.Rows SlX PySem.Spec LamX
section
variable {Z : Zc} {K : Calls} {ex : XK} {σ : Sg} {H : Hp} {Q : VK} {pk : Bool}
theorem dct_of {kvs : List (Str × Int)} (h : tE Z K ex (.con (.dct kvs)) pk σ H Q) {p : Addr} (hp : H p = none) : Q (.ref p) (upd H p (dctH kvs)) := by
  obtain ⟨R0, q, f0, h⟩ := h
  have h : An Z ex R0 σ q H (PoV Z R0 σ H) Q (.ok (.val (.dct kvs)) q) := by
    have e : ev K (.con (.dct kvs)) pk q = .ok (.val (.dct kvs)) q := by rw [ev]
    rw [← e]; exact h
  have sm := same_upd (o := dctH kvs) hp
  refine h (.ref p) _ (Lat.same sm) (BK.refl _) ⟨f0.on sm (fun _ y => .inl y) fun b y => (Lat.same (R := fun _ => False) sm).tr b (f0.trk b y), .dct upd_same fun y => f0.rtT y hp⟩
end
section
variable {W : Wo} {X : Cx} {ex : XK} {pos p1 p2 : Pos} {i j : Nat} {k : Str} {z : Int}
theorem me_dct0 : ME W X ex (.Dict [] [] pos) (.con (.dct [])) := fun pk => pe_dnewK.imp fun σ H Q h p hp => dct_of h hp
theorem me_dct1 : ME W X ex (.Dict [some (.Constant (.str k) i p1)] [.Constant (.int z) j p2] pos) (.con (.dct [(k, z)])) := fun pk =>
  (pe_disp (pps_cons pe_str pe_int pps_nil) rfl rfl (by simp) (Nat.le_of_ble_eq_true rfl)).imp fun σ H Q h p hp => ⟨upd_same, [(Sum.inr k, .int z)], rfl, Nat.le_of_ble_eq_true rfl, by rw [upd_upd]; exact dct_of h hp⟩
end
/-! ### the plain side -/
section
variable {K : Calls} {q : Fm} {e : E} {r : Ss} {ks : List Ss} {γ : Type} {P : γ → SRes → Prop}
end
section
variable {t : Tab} {n A : Nat} {ad : ADef} {d : D} {m : Mo D}
end
/-! ### what the level's facts are made of -/
section
variable {W : Wo} {X : Cx} {ex : XK} {n k : Nat} {pos p1 p2 p3 p4 : Pos} {a : Expr} {A : E} {T : Str}
end
/-- a class of exceptions, as the text has it -/
structure Xi (K : PySem.W.Frag) (mg : Str → Option Value) (C : Addr) (x f qual : Str) (st : Stmt) : Prop where
  gC : mg x = some (.ref C)
  T : OexG K C
  no : PySem.W.findIn K (.ref C) f = some none
  ex : ∃ fI fd, PySem.W.findIn K (.ref C) "__init__" = some (some (.ref fI)) ∧ PySem.W.typeIn K (.ref fI) = some (.type "function") ∧ L2.Fun K "__init__" qual st fI fd ∧ Binds K fd ["self", f] []
section
variable {W : Wo} {X : Cx} {ex : XK} {n : Nat} {pos p2 : Pos} {a : Expr} {A : E}
end
end M

set_option Elab.async false
set_option linter.all false
set_option maxRecDepth 100000
set_option maxHeartbeats 1000000
/-! E1: l == [], l != []. -/
namespace M
open PySem L2 PyProof.Rows SlX
section
variable {X : Cx}
end
section
variable {W : Wo} {X : Cx} {ex : XK} {n : Nat} {pos p2 : Pos} {a : Expr} {A : E}
end
end M

set_option Elab.async false
set_option linter.all false
set_option maxRecDepth 100000
set_option maxHeartbeats 1000000
/-! E2: a text times a number, both written out. -/
namespace M
open PySem L2 PyProof.Rows SlX
section
variable {X : Cx}
end
end M

set_option Elab.async false
set_option linter.all false
set_option maxRecDepth 100000
set_option maxHeartbeats 4000000
/-! S1: data of numbers and tables, in plain Lean. -/
namespace M
open PySem
section
variable {i j f c k n : Nat} {d d1 d2 d3 : D} {p : P}
def dR (r : List Int) : D := .tup (r.map D.int)
abbrev Tb := List (List Int)
def dT (A : Tb) : D := .tup (A.map dR)
theorem py_ints : ∀ r : List Int, D.pys (r.map D.int) = some (r.map PyData.int)
  | [] => rfl
  | x :: r => by rw [List.map_cons, D.pys, py_ints r]; rfl
theorem py_dR (r : List Int) : D.py (dR r) = some (.tuple (r.map PyData.int)) := by rw [dR, D.py, py_ints]
theorem pys_dR : ∀ A : Tb, D.pys (A.map dR) = some (A.map fun r => .tuple (r.map PyData.int))
  | [] => rfl
  | x :: r => by rw [List.map_cons, D.pys, py_dR, pys_dR r]; rfl
theorem py_dT (A : Tb) : D.py (dT A) = some (.tuple (A.map fun r => .tuple (r.map PyData.int))) := by rw [dT, D.py, pys_dR]
theorem eqv_ints : ∀ r s : List Int, PyData.eqvAll (r.map PyData.int) (s.map PyData.int) = decide (r = s)
  | [], [] => rfl
  | [], _ :: _ => by simp [PyData.eqvAll]
  | _ :: _, [] => by simp [PyData.eqvAll]
  | x :: r, y :: s => by
    rw [List.map_cons, List.map_cons, PyData.eqvAll, eqv_ints r s, PyData.eqv]
    by_cases h : x = y <;> simp [h]
theorem eqv_tb : ∀ A B : Tb, PyData.eqvAll (A.map fun r => .tuple (r.map PyData.int)) (B.map fun r => .tuple (r.map PyData.int)) = decide (A = B)
  | [], [] => rfl
  | [], _ :: _ => by simp [PyData.eqvAll]
  | _ :: _, [] => by simp [PyData.eqvAll]
  | x :: r, y :: s => by
    rw [List.map_cons, List.map_cons, PyData.eqvAll, eqv_tb r s, PyData.eqv, eqv_ints]
    by_cases h : x = y <;> simp [h]
theorem cl_ints : ∀ r : List Int, PyData.canLayAll0 (r.map PyData.int) = true
  | [] => rfl
  | x :: r => by rw [List.map_cons, PyData.canLayAll0, cl_ints r]; rfl
theorem cl_tb : ∀ A : Tb, PyData.canLayAll0 (A.map fun r => .tuple (r.map PyData.int)) = true
  | [] => rfl
  | x :: r => by rw [List.map_cons, PyData.canLayAll0, cl_tb r, PyData.canLay0, cl_ints]; rfl
theorem eq_int {a b : Int} : dEq (.int a) (.int b) = some (decide (a = b)) := by
  show some (a == b) = _
  by_cases h : a = b <;> simp [h]
theorem ev_eq : evP .eq [d1, d2] = (dEq d1 d2).map fun c => (false, .bl c) := rfl
theorem ev_ne : evP .ne [d1, d2] = (dEq d1 d2).map fun c => (false, .bl (!c)) := rfl
theorem bls_true {α : Type} : ∀ l : List α, blsOf (l.map fun _ => D.bl true) = some (l.map fun _ => true)
  | [] => rfl
  | x :: l => by rw [List.map_cons, blsOf, bls_true l]; rfl
theorem all_true {α : Type} (l : List α) : evP .all [.lst (l.map fun _ => D.bl true)] = some (false, .bl true) := by
  show (blsOf _).bind allL = _
  rw [bls_true]
  show some (false, D.bl ((l.map fun _ => true).all id)) = _
  simp
structure TbOk (m : Nat) (A : Tb) : Prop where
  lo : 1 ≤ m
  hi : m ≤ 4
  len : A.length = m
  row : ∀ r ∈ A, r.length = m
  sm : ∀ r ∈ A, ∀ x ∈ r, -1000000 ≤ x ∧ x ≤ 1000000
theorem sl4 {m : Nat} (h : m ≤ 100000) : m ≤ sizeLine := Nat.le_trans h (by decide)
theorem atI_nat {α : Type} (xs : List α) (i : Nat) : L2.atI xs (i : Int) = xs[i]? := by
  unfold L2.atI L2.ixN
  rw [if_pos (Int.natCast_nonneg i)]
  by_cases h : i < xs.length
  · rw [if_pos (by exact_mod_cast h)]; simp
  · rw [if_neg (by exact_mod_cast h)]
    simp [List.getElem?_eq_none (Nat.le_of_not_lt h)]
theorem idx_tup {xs : List D} {i : Nat} (h : xs[i]? = some d) : evP .idx [.tup xs, .int (i : Nat)] = some (false, d) := by
  show (match L2.atI xs (i : Int) with | some d => some (false, d) | none => none) = _
  rw [atI_nat, h]
theorem idx_lst {xs : List D} {i : Nat} (h : xs[i]? = some d) : evP .idx [.lst xs, .int (i : Nat)] = some (false, d) := by
  show (match L2.atI xs (i : Int) with | some d => some (false, d) | none => none) = _
  rw [atI_nat, h]
def dL (ts : List Tb) : D := .tup (ts.map dT)
structure LotOk (m : Nat) (ts : List Tb) : Prop where
  ne : ts ≠ []
  few : ts.length ≤ 3
  tb : ∀ A ∈ ts, TbOk m A
def dO (ts : List Tb) : D := .ins 0 [dL ts]
structure WordOk (ts : List Tb) (w : List Int) : Prop where
  few : w.length ≤ 40
  ix : ∀ x ∈ w, 0 ≤ x ∧ x < ts.length
theorem e62 : (2 : Int) ^ 62 = 4611686018427387904 := by decide
theorem inR_nat {m : Nat} (hm : m ≤ 1000000) : inR (m : Int) = true := by
  unfold inR
  rw [e62, Bool.and_eq_true]
  exact ⟨decide_eq_true (by omega), decide_eq_true (by omega)⟩
theorem rng1F_i (z : Int) : rng1F [.int z] = if inR z then some (rngL 0 z.toNat) else none := rfl
theorem rng1F_nat {m : Nat} (hm : m ≤ 1000000) : rng1F [.int (m : Nat)] = some (rngL 0 m) := by
  rw [rng1F_i, if_pos (inR_nat hm), Int.toNat_natCast]
theorem log_lt {a p : Nat} (h : a < 2 ^ p) : a.log2 ≤ p := by
  by_cases ha : a = 0
  · subst ha; simp
  · exact Nat.le_of_lt ((Nat.log2_lt ha).2 h)
theorem mul_ok {x y : Int} {p r : Nat} (hp : p + r < 134000000) (hx : x.natAbs < 2 ^ p) (hy : y.natAbs < 2 ^ r) : evP .mul [.int x, .int y] = some (false, .int (x * y)) := by
  have h : mulOk x y = true := by
    unfold mulOk
    have h1 := log_lt hx
    have h2 := log_lt hy
    exact decide_eq_true (by omega)
  show (if mulOk x y then some (false, D.int (x * y)) else none) = _
  rw [if_pos h]
structure Sq (m : Nat) (A : Tb) : Prop where
  len : A.length = m
  row : ∀ r ∈ A, r.length = m
def pail (a s c : Int) : D := .lst [.int a, .int s, .int c]
theorem mod_ok {x y : Int} (h : 0 < y) : evP .mod [.int x, .int y] = some (false, .int (x % y)) := by
  show (match (if y ≠ 0 then some (x.fmod y) else none) with | some c => some (false, D.int c) | none => none) = _
  rw [if_pos (by omega), Int.fmod_eq_emod_of_nonneg x (by omega)]
theorem fdiv_ok {x y : Int} (h : 0 < y) (hy : y.natAbs < 2 ^ 64) : evP .fdiv [.int x, .int y] = some (false, .int (x / y)) := by
  show (match (if y ≠ 0 ∧ (y.natAbs.log2 < 9000 ∨ x.natAbs.log2 < y.natAbs.log2 + 4400) then some (x.fdiv y) else none) with | some c => some (false, D.int c) | none => none) = _
  rw [if_pos ⟨by omega, .inl (Nat.lt_of_le_of_lt (log_lt hy) (by decide))⟩, Int.fdiv_eq_ediv_of_nonneg x (by omega)]
theorem divmod_ok {x y : Int} (h : 0 < y) (h' : y < 1073741824) : evP .divmod [.int x, .int y] = some (false, .tup [.int (x / y), .int (x % y)]) := by
  show (if 0 < y ∧ y < 1073741824 then some (false, D.tup [.int (x / y), .int (x % y)]) else none) = _
  rw [if_pos ⟨h, h'⟩]
theorem lt_pow32 {x : Int} (h : 0 ≤ x) (h' : x < 4294967296) : x.natAbs < 2 ^ 32 := by
  have e : (2 : Nat) ^ 32 = 4294967296 := by decide
  rw [e]; omega
theorem pow18 : evP .pow [.int 10, .int 18] = some (false, .int 1000000000000000000) := rfl
theorem dp_ints : ∀ r : List Int, PyData.depthAll (r.map PyData.int) = 0
  | [] => rfl
  | x :: r => by rw [List.map_cons, PyData.depthAll, dp_ints r]; rfl
theorem dp_tb : ∀ A : Tb, PyData.depthAll (A.map fun r => .tuple (r.map PyData.int)) ≤ 1
  | [] => by rw [List.map_nil, PyData.depthAll]; omega
  | x :: r => by
    rw [List.map_cons, PyData.depthAll, PyData.depth, dp_ints]
    have := dp_tb r
    omega
theorem shaped_tb (A : Tb) : SeqAt.shaped (.tuple (A.map fun r => .tuple (r.map PyData.int))) = true := by
  unfold SeqAt.shaped
  rw [Bool.and_eq_true]
  refine ⟨?_, decide_eq_true ?_⟩
  · rw [PyData.canLay0]; exact cl_tb A
  · rw [PyData.depth]
    have := dp_tb A
    omega
theorem eq_dT (A B : Tb) : dEq (dT A) (dT B) = some (decide (A = B)) := by
  unfold dEq
  rw [py_dT, py_dT]
  show (if SeqAt.shaped _ && SeqAt.shaped _ then some (PyData.eqv _ _) else none) = _
  rw [shaped_tb, shaped_tb, Bool.and_self, if_pos rfl, PyData.eqv, eqv_tb]
theorem add_row (w v : List Int) (h : w.length + v.length ≤ 100000) : evP .add [dR w, dR v] = some (false, dR (w ++ v)) := by
  show (if (w.map D.int).length + (v.map D.int).length ≤ sizeLine then some (false, D.tup (w.map D.int ++ v.map D.int)) else none) = _
  rw [if_pos (by rw [List.length_map, List.length_map]; exact sl4 h), ← List.map_append]
  rfl
end
end M

set_option Elab.async false
set_option linter.all false
set_option maxRecDepth 100000
set_option maxHeartbeats 4000000
/-! Pk1: plain functions (printed by gen2.py). -/
namespace M
open PySem
def m_is_integer (x_0 : D) : Mo D :=
  (((.ok x_0) >>= fun v0 => (prmV (.isi "int") [v0])) >>= fun v1 => ((isB v1) >>= fun v2 => (if v2 then (((.ok x_0) >>= fun v3 => (prm (.isi "bool") [v3])) >>= fun v4 => ((tru v4) >>= fun v5 => (.ok (D.bl (!v5))))) else .ok (D.bl false))))
def m_are_integers (x_0 x_1 : D) : Mo D :=
  (((.ok x_0) >>= fun v0 => (prmV (.isi "tuple") [v0])) >>= fun v1 => ((isB v1) >>= fun v2 => (if v2 then ((((.ok x_0) >>= fun v3 => (prm .len [v3])) >>= fun v4 => ((.ok x_1) >>= fun v5 => (prmV .eq [v4, v5]))) >>= fun v6 => ((isB v6) >>= fun v7 => (if v7 then ((((.ok x_0) >>= fun v8 => (itemsM v8)) >>= fun v9 => (mapL (fun v10 => (.ok v10) >>= fun v11 => ((.ok v11) >>= fun v12 => (m_is_integer v12))) v9 >>= fun l => .ok (D.lst l))) >>= fun v13 => (prmV .all [v13])) else .ok (D.bl false)))) else .ok (D.bl false))))
def m_is_table (x_0 : D) : Mo D :=
  ((((((.ok x_0) >>= fun v0 => (prm (.isi "tuple") [v0])) >>= fun v1 => (tru v1)) >>= fun v2 => .ok (!v2)) >>= fun v3 => if v3 then .ok true else ((((.ok (D.int 1)) >>= fun v4 => (((.ok x_0) >>= fun v5 => (prm .len [v5])) >>= fun v6 => ((prm .le [v4, v6]) >>= fun v7 => ((isB v7) >>= fun v8 => (if v8 then ((.ok (D.int 4)) >>= fun v9 => (prmV .le [v6, v9])) else .ok (D.bl false)))))) >>= fun v10 => (tru v10)) >>= fun v11 => .ok (!v11))) >>= fun v12 => if v12 then (.ok (D.bl false)) else (((((((.ok x_0) >>= fun v13 => (itemsM v13)) >>= fun v14 => (mapL (fun v15 => (.ok v15) >>= fun v16 => ((.ok v16) >>= fun v17 => (((.ok x_0) >>= fun v18 => (prm .len [v18])) >>= fun v19 => (m_are_integers v17 v19)))) v14 >>= fun l => .ok (D.lst l))) >>= fun v20 => (prm .all [v20])) >>= fun v21 => (tru v21)) >>= fun v22 => .ok (!v22)) >>= fun v23 => if v23 then (.ok (D.bl false)) else ((((.ok x_0) >>= fun v24 => (itemsM v24)) >>= fun v25 => (catL (fun v26 => (.ok v26) >>= fun v27 => (((.ok v27) >>= fun v28 => (itemsM v28)) >>= fun v29 => (filA (fun v30 => (.ok v30) >>= fun v31 => ((((.ok v31) >>= fun v32 => (prm .abs [v32])) >>= fun v33 => ((.ok (D.int 1000000)) >>= fun v34 => (prm .le [v33, v34]))) >>= fun v35 => (.ok (some v35)))) v29))) v25 >>= fun l => .ok (D.lst l))) >>= fun v36 => (prm .all [v36]))))
def m_wrong_table (x_0 : D) : Mo D :=
  ((((((.ok x_0) >>= fun v0 => (prm (.isi "tuple") [v0])) >>= fun v1 => (tru v1)) >>= fun v2 => .ok (!v2)) >>= fun v3 => if v3 then .ok true else ((((.ok x_0) >>= fun v4 => (prm .len [v4])) >>= fun v5 => ((.ok (D.int 0)) >>= fun v6 => (prm .eq [v5, v6]))) >>= fun v7 => (tru v7))) >>= fun v8 => if v8 then ((.ok (D.int 1)) >>= fun v9 => (prm .neg [v9])) else (((.ok x_0) >>= fun v10 => (optM (enmF [v10]))) >>= fun v11 => foldB (ρ := D) (fun (v12 : Unit) v13 => (un2 v13) >>= fun v14 => (((((.ok v14.1) >>= fun v15 => ((.ok (D.int 3)) >>= fun v16 => (prm .eq [v15, v16]))) >>= fun v17 => (tru v17)) >>= fun v18 => if v18 then .ok true else (((((.ok v14.2) >>= fun v19 => (m_is_table v19)) >>= fun v20 => (tru v20)) >>= fun v21 => .ok (!v21)) >>= fun v22 => if v22 then .ok true else ((((.ok v14.2) >>= fun v23 => (prm .len [v23])) >>= fun v24 => ((((.ok x_0) >>= fun v25 => ((.ok (D.int 0)) >>= fun v26 => (prm .idx [v25, v26]))) >>= fun v27 => (prm .len [v27])) >>= fun v28 => (prm .ne [v24, v28]))) >>= fun v29 => (tru v29)))) >>= fun v30 => if v30 then ((.ok v14.1) >>= fun v31 => .ok (.ret v31)) else (.ok (.nx ())))) () v11 >>= fun v32 => Fl.on v32 (fun _ => (.ok D.non)) (fun v32 => .ok ( v32))))
def m_Lot_init (x_1 : D) : Mo (List D) :=
  ((((.ok x_1) >>= fun v0 => (m_wrong_table v0)) >>= fun v1 => (.ok v1)) >>= fun v2 => (((((.ok v2) >>= fun v3 => (prm .notN [v3])) >>= fun v4 => (tru v4)) >>= fun v5 => if v5 then .bad else (.ok ())) >>= fun _ => ((.ok x_1) >>= fun v6 => (.ok [v6]))))
def m_Lot_tables (x_0 : D) : Mo D :=
  ((.ok x_0) >>= fun v0 => (fldM 0 0 v0))
def m__law_cast (x_0 x_1 : D) : Mo (D × D) :=
  (((((.ok x_0) >>= fun v0 => ((.ok (D.int 0)) >>= fun v1 => (prm .idx [v0, v1]))) >>= fun v2 => ((.ok (D.int 0)) >>= fun v3 => (prm .gt [v2, v3]))) >>= fun v4 => (tru v4)) >>= fun v5 => if v5 then ((((.ok x_0) >>= fun v6 => ((.ok (D.int 0)) >>= fun v7 => (prm .idx [v6, v7]))) >>= fun v8 => ((.ok x_1) >>= fun v9 => (prm .divmod [v8, v9]))) >>= fun v10 => (un2 v10 >>= fun v11 => (((noExc (.ok (D.int 0))) >>= fun v12 => (putM x_0 v12 v11.1)) >>= fun v13 => (.ok v11.2) >>= fun v14 => .ok (v13, v14))) >>= fun v15 => ((.ok v15.2) >>= fun v16 => (.ok (v16, v15.1)))) else ((((.ok x_0) >>= fun v17 => ((.ok (D.int 2)) >>= fun v18 => (prm .idx [v17, v18]))) >>= fun v19 => ((.ok (D.int 1)) >>= fun v20 => (prm .add [v19, v20]))) >>= fun v21 => ((noExc (.ok (D.int 2))) >>= fun v22 => (putM x_0 v22 v21)) >>= fun v23 => ((((((((.ok v23) >>= fun v24 => ((.ok (D.int 1)) >>= fun v25 => (prm .idx [v24, v25]))) >>= fun v26 => (((.ok (D.int 36809)) >>= fun v27 => (((.ok (D.int 2)) >>= fun v28 => (((.ok v23) >>= fun v29 => ((.ok (D.int 2)) >>= fun v30 => (prm .idx [v29, v30]))) >>= fun v31 => (prm .mul [v28, v31]))) >>= fun v32 => (prm .add [v27, v32]))) >>= fun v33 => (prm .mul [v26, v33]))) >>= fun v34 => (((.ok (D.int 5303)) >>= fun v35 => (((.ok v23) >>= fun v36 => ((.ok (D.int 2)) >>= fun v37 => (prm .idx [v36, v37]))) >>= fun v38 => (prm .mul [v35, v38]))) >>= fun v39 => (prm .add [v34, v39]))) >>= fun v40 => ((.ok (D.int 7)) >>= fun v41 => (prm .add [v40, v41]))) >>= fun v42 => (prm .int [v42])) >>= fun v43 => ((.ok (D.int 2147483629)) >>= fun v44 => (prm .mod [v43, v44]))) >>= fun v45 => (((((((.ok v45) >>= fun v46 => ((.ok (D.int 45413)) >>= fun v47 => (prm .mul [v46, v47]))) >>= fun v48 => (((.ok (D.int 3)) >>= fun v49 => (((.ok v23) >>= fun v50 => ((.ok (D.int 2)) >>= fun v51 => (prm .idx [v50, v51]))) >>= fun v52 => (prm .mul [v49, v52]))) >>= fun v53 => (prm .add [v48, v53]))) >>= fun v54 => ((.ok (D.int 1)) >>= fun v55 => (prm .add [v54, v55]))) >>= fun v56 => (prm .int [v56])) >>= fun v57 => ((.ok (D.int 2147483587)) >>= fun v58 => (prm .mod [v57, v58]))) >>= fun v59 => ((noExc (.ok (D.int 1))) >>= fun v60 => (putM v23 v60 v59)) >>= fun v61 => ((((((.ok v61) >>= fun v62 => ((.ok (D.int 1)) >>= fun v63 => (prm .idx [v62, v63]))) >>= fun v64 => ((.ok (D.int 256)) >>= fun v65 => (prm .fdiv [v64, v65]))) >>= fun v66 => (prm .int [v66])) >>= fun v67 => ((.ok x_1) >>= fun v68 => (prm .mod [v67, v68]))) >>= fun v69 => (.ok (v69, v61)))))))
def m__law_begun (x_0 x_1 : D) : Mo D :=
  (((((.ok x_1) >>= fun v0 => (((.ok x_0) >>= fun v1 => (prm .len [v1])) >>= fun v2 => (prm .lt [v0, v2]))) >>= fun v3 => (tru v3)) >>= fun v4 => (if v4 then ((.ok x_0) >>= fun v5 => ((.ok x_1) >>= fun v6 => (prm .idx [v5, v6]))) else (.ok (D.int 0)))) >>= fun v7 => (((.ok (D.int 60013)) >>= fun v8 => (((.ok (D.int 7727)) >>= fun v9 => ((.ok x_1) >>= fun v10 => (prm .mul [v9, v10]))) >>= fun v11 => (prm .add [v8, v11]))) >>= fun v12 => ((((.ok x_0) >>= fun v13 => ((.ok (D.int 6)) >>= fun v14 => (prm (.slo false true) [v13, v14]))) >>= fun v15 => (itemsM v15)) >>= fun v16 => foldN (fun v17 v18 => (.ok v18) >>= fun v19 => (((((((.ok v17) >>= fun v20 => ((.ok (D.int 30269)) >>= fun v21 => (prm .mul [v20, v21]))) >>= fun v22 => (((.ok v19) >>= fun v23 => ((.ok (D.int 7)) >>= fun v24 => (prm .mul [v23, v24]))) >>= fun v25 => (prm .add [v22, v25]))) >>= fun v26 => ((.ok (D.int 13)) >>= fun v27 => (prm .add [v26, v27]))) >>= fun v28 => (prm .int [v28])) >>= fun v29 => ((.ok (D.int 2147483629)) >>= fun v30 => (prm .mod [v29, v30]))) >>= fun v31 => (.ok v31))) v12 v16 >>= fun v32 => (((((((.ok v7) >>= fun v33 => ((.ok (D.int 0)) >>= fun v34 => (prm .lt [v33, v34]))) >>= fun v35 => (tru v35)) >>= fun v36 => if v36 then .ok true else (((.ok v7) >>= fun v37 => (((.ok (D.int 10)) >>= fun v38 => ((.ok (D.int 18)) >>= fun v39 => (prm .pow [v38, v39]))) >>= fun v40 => (prm .ge [v37, v40]))) >>= fun v41 => (tru v41))) >>= fun v42 => (if v42 then ((.ok v7) >>= fun v43 => (prm .abs [v43])) else (.ok (D.int 0)))) >>= fun v44 => (((((((.ok v32) >>= fun v45 => ((.ok (D.int 53)) >>= fun v46 => (prm .mul [v45, v46]))) >>= fun v47 => (((.ok v7) >>= fun v48 => ((.ok v7) >>= fun v49 => (prm .mul [v48, v49]))) >>= fun v50 => (prm .add [v47, v50]))) >>= fun v51 => (((.ok (D.int 17)) >>= fun v52 => ((.ok x_1) >>= fun v53 => (prm .mul [v52, v53]))) >>= fun v54 => (prm .add [v51, v54]))) >>= fun v55 => (prm .int [v55])) >>= fun v56 => ((.ok (D.int 2147483629)) >>= fun v57 => (prm .mod [v56, v57]))) >>= fun v58 => ((.ok (D.int 0)) >>= fun v59 => (.ok []) >>= fun v60 => .ok (v59 :: v60)) >>= fun v61 => .ok (v58 :: v61)) >>= fun v62 => .ok (v44 :: v62)) >>= lstM))))
end M

set_option Elab.async false
set_option linter.all false
set_option maxRecDepth 100000
set_option maxHeartbeats 4000000
/-! S2: plain functions: primitives, walks; the package's functions up to products and traces. -/
namespace M
open PySem
section
variable {α β γ : Type} {a b : Int} {c : Bool} {l l' : List D} {d : D}
theorem prm_of {p : P} {ds : List D} {fl : Bool} {d : D} (h : evP p ds = some (fl, d)) : prm p ds = .ok d := by unfold prm; rw [h]
theorem prmV_of {p : P} {ds : List D} {d : D} (h : evP p ds = some (false, d)) : prmV p ds = .ok d := by unfold prmV; rw [h]
@[simp] theorem noExc_ok (a : α) : noExc (.ok a) = .ok a := nr rfl
@[simp] theorem tru_bl : tru (.bl c) = .ok c := nr rfl
@[simp] theorem tru_int : tru (.int a) = .ok (a != 0) := nr rfl
@[simp] theorem isB_bl : isB (.bl c) = .ok c := nr rfl
@[simp] theorem seqM_lst : seqM (.lst l) = .ok l := nr rfl
@[simp] theorem seqM_tup : seqM (.tup l) = .ok l := nr rfl
@[simp] theorem itemsM_lst : itemsM (.lst l) = .ok l := nr rfl
@[simp] theorem itemsM_tup : itemsM (.tup l) = .ok l := nr rfl
@[simp] theorem optM_some : optM (some l) = .ok l := nr rfl
@[simp] theorem un2_tup {x y : D} : un2 (.tup [x, y]) = .ok (x, y) := nr rfl
@[simp] theorem un3_tup {x y z : D} : un3 (.tup [x, y, z]) = .ok (x, y, z) := nr rfl
@[simp] theorem p_add : prm .add [.int a, .int b] = .ok (.int (a + b)) := nr rfl
@[simp] theorem p_sub : prm .sub [.int a, .int b] = .ok (.int (a - b)) := nr rfl
@[simp] theorem pV_sub : prmV .sub [.int a, .int b] = .ok (.int (a - b)) := nr rfl
@[simp] theorem pV_add : prmV .add [.int a, .int b] = .ok (.int (a + b)) := nr rfl
@[simp] theorem p_neg : prm .neg [.int a] = .ok (.int (-a)) := nr rfl
@[simp] theorem p_lt : prm .lt [.int a, .int b] = .ok (.bl (decide (a < b))) := nr rfl
@[simp] theorem p_le : prm .le [.int a, .int b] = .ok (.bl (decide (a ≤ b))) := nr rfl
@[simp] theorem p_gt : prm .gt [.int a, .int b] = .ok (.bl (decide (b < a))) := nr rfl
@[simp] theorem p_ge : prm .ge [.int a, .int b] = .ok (.bl (decide (b ≤ a))) := nr rfl
@[simp] theorem pV_lt : prmV .lt [.int a, .int b] = .ok (.bl (decide (a < b))) := nr rfl
@[simp] theorem pV_le : prmV .le [.int a, .int b] = .ok (.bl (decide (a ≤ b))) := nr rfl
@[simp] theorem pV_gt : prmV .gt [.int a, .int b] = .ok (.bl (decide (b < a))) := nr rfl
@[simp] theorem pV_ge : prmV .ge [.int a, .int b] = .ok (.bl (decide (b ≤ a))) := nr rfl
@[simp] theorem p_eq : prm .eq [.int a, .int b] = .ok (.bl (decide (a = b))) := prm_of (by rw [ev_eq, eq_int]; rfl)
@[simp] theorem p_ne : prm .ne [.int a, .int b] = .ok (.bl (!decide (a = b))) := prm_of (by rw [ev_ne, eq_int]; rfl)
@[simp] theorem pV_eq : prmV .eq [.int a, .int b] = .ok (.bl (decide (a = b))) := prmV_of (by rw [ev_eq, eq_int]; rfl)
@[simp] theorem pV_ne : prmV .ne [.int a, .int b] = .ok (.bl (!decide (a = b))) := prmV_of (by rw [ev_ne, eq_int]; rfl)
@[simp] theorem p_eqT {A B : Tb} : prm .eq [dT A, dT B] = .ok (.bl (decide (A = B))) := prm_of (by rw [ev_eq, eq_dT]; rfl)
@[simp] theorem p_neT {A B : Tb} : prm .ne [dT A, dT B] = .ok (.bl (!decide (A = B))) := prm_of (by rw [ev_ne, eq_dT]; rfl)
@[simp] theorem pV_eqT {A B : Tb} : prmV .eq [dT A, dT B] = .ok (.bl (decide (A = B))) := prmV_of (by rw [ev_eq, eq_dT]; rfl)
@[simp] theorem p_lenL : prm .len [.lst l] = .ok (.int l.length) := nr rfl
@[simp] theorem p_lenT : prm .len [.tup l] = .ok (.int l.length) := nr rfl
@[simp] theorem p_int : prm .int [.int a] = .ok (.int a) := nr rfl
@[simp] theorem p_intB : prm .int [.bl c] = .ok (.int (if c then 1 else 0)) := nr rfl
@[simp] theorem p_abs : prm .abs [.int a] = .ok (.int (if a < 0 then -a else a)) := nr rfl
@[simp] theorem p_tupleL : prm .tuple [.lst l] = .ok (.tup l) := nr rfl
@[simp] theorem p_tupleT : prm .tuple [.tup l] = .ok (.tup l) := nr rfl
@[simp] theorem p_max2 : prm .max2 [.int a, .int b] = .ok (.int (if b > a then b else a)) := nr rfl
@[simp] theorem p_min2 : prm .min2 [.int a, .int b] = .ok (.int (if b < a then b else a)) := nr rfl
@[simp] theorem p_notN : prm .notN [d] = .ok (.bl (!isNon d)) := nr rfl
@[simp] theorem p_isN : prm .isN [d] = .ok (.bl (isNon d)) := nr rfl
@[simp] theorem isNon_non : isNon .non = true := nr rfl
@[simp] theorem isNon_int : isNon (.int a) = false := nr rfl
@[simp] theorem isNon_tup : isNon (.tup l) = false := nr rfl
@[simp] theorem p_isiT : prm (.isi "tuple") [.tup l] = .ok (.bl true) := nr rfl
@[simp] theorem pV_isiT : prmV (.isi "tuple") [.tup l] = .ok (.bl true) := nr rfl
@[simp] theorem p_isiI : prm (.isi "int") [.int a] = .ok (.bl true) := nr rfl
@[simp] theorem pV_isiI : prmV (.isi "int") [.int a] = .ok (.bl true) := nr rfl
@[simp] theorem p_isiB : prm (.isi "bool") [.int a] = .ok (.bl false) := nr rfl
@[simp] theorem p_isiC {k k' : Nat} : prm (.isiC k) [.ins k' l] = .ok (.bl (k' == k)) := nr rfl
@[simp] theorem fldM_0 {k : Nat} : fldM k 0 (.ins k (d :: l)) = .ok d := by simp [fldM]
@[simp] theorem isI_ok {k : Nat} : isI k (.ins k l) = .ok () := by simp [isI]
theorem p_mul {p r : Nat} (hp : p + r < 134000000) (hx : a.natAbs < 2 ^ p) (hy : b.natAbs < 2 ^ r) : prm .mul [.int a, .int b] = .ok (.int (a * b)) := prm_of (mul_ok hp hx hy)
theorem p_mod (h : 0 < b) : prm .mod [.int a, .int b] = .ok (.int (a % b)) := prm_of (mod_ok h)
theorem p_fdiv (h : 0 < b) (hy : b.natAbs < 2 ^ 64) : prm .fdiv [.int a, .int b] = .ok (.int (a / b)) := prm_of (fdiv_ok h hy)
theorem p_divmod (h : 0 < b) (h' : b < 1073741824) : prm .divmod [.int a, .int b] = .ok (.tup [.int (a / b), .int (a % b)]) := prm_of (divmod_ok h h')
theorem p_idxT {i : Nat} (h : l[i]? = some d) : prm .idx [.tup l, .int (i : Nat)] = .ok d := prm_of (idx_tup h)
theorem p_idxL {i : Nat} (h : l[i]? = some d) : prm .idx [.lst l, .int (i : Nat)] = .ok d := prm_of (idx_lst h)
@[simp] theorem p_idx0T : prm .idx [.tup (d :: l), .int 0] = .ok d := p_idxT (i := 0) rfl
@[simp] theorem p_idx0L : prm .idx [.lst (d :: l), .int 0] = .ok d := p_idxL (i := 0) rfl
@[simp] theorem p_idx1T {x : D} : prm .idx [.tup (x :: d :: l), .int 1] = .ok d := p_idxT (i := 1) rfl
@[simp] theorem p_idx1L {x : D} : prm .idx [.lst (x :: d :: l), .int 1] = .ok d := p_idxL (i := 1) rfl
@[simp] theorem p_idx2T {x y : D} : prm .idx [.tup (x :: y :: d :: l), .int 2] = .ok d := p_idxT (i := 2) rfl
@[simp] theorem p_idx2L {x y : D} : prm .idx [.lst (x :: y :: d :: l), .int 2] = .ok d := p_idxL (i := 2) rfl
theorem put3_0 {x y z v : D} : putM (.lst [x, y, z]) (.int 0) v = .ok (.lst [v, y, z]) := nr rfl
theorem put3_1 {x y z v : D} : putM (.lst [x, y, z]) (.int 1) v = .ok (.lst [x, v, z]) := nr rfl
theorem put3_2 {x y z v : D} : putM (.lst [x, y, z]) (.int 2) v = .ok (.lst [x, y, v]) := nr rfl
theorem p_all {τ : Type} {r : List τ} : prm .all [.lst (r.map fun _ => D.bl true)] = .ok (.bl true) := prm_of (all_true r)
theorem pV_all {τ : Type} {r : List τ} : prmV .all [.lst (r.map fun _ => D.bl true)] = .ok (.bl true) := prmV_of (all_true r)
theorem tup_ok (h : l.length ≤ sizeLine) : tupM l = .ok (.tup l) := if_pos h
theorem lst_ok (h : l.length ≤ sizeLine) : lstM l = .ok (.lst l) := if_pos h
theorem sz {n : Nat} (h : n ≤ 100000) : n ≤ sizeLine := sl4 h
@[simp] theorem tup0 : tupM [] = .ok (.tup []) := tup_ok (sz (by simp))
@[simp] theorem tup1 {x : D} : tupM [x] = .ok (.tup [x]) := tup_ok (sz (by simp))
@[simp] theorem tup2 {x y : D} : tupM [x, y] = .ok (.tup [x, y]) := tup_ok (sz (by simp))
@[simp] theorem tup3 {x y z : D} : tupM [x, y, z] = .ok (.tup [x, y, z]) := tup_ok (sz (by simp))
@[simp] theorem tup4 {x y z w : D} : tupM [x, y, z, w] = .ok (.tup [x, y, z, w]) := tup_ok (sz (by simp))
@[simp] theorem lst0 : lstM [] = .ok (.lst []) := lst_ok (sz (by simp))
@[simp] theorem lst1 {x : D} : lstM [x] = .ok (.lst [x]) := lst_ok (sz (by simp))
@[simp] theorem lst2 {x y : D} : lstM [x, y] = .ok (.lst [x, y]) := lst_ok (sz (by simp))
@[simp] theorem lst3 {x y z : D} : lstM [x, y, z] = .ok (.lst [x, y, z]) := lst_ok (sz (by simp))
@[simp] theorem lst4 {x y z w : D} : lstM [x, y, z, w] = .ok (.lst [x, y, z, w]) := lst_ok (sz (by simp))
/-! walks -/
theorem mapA_ok {τ : Type} {f : D → Mo D} {h g : τ → D} : ∀ {xs : List τ}, (∀ x ∈ xs, f (h x) = .ok (g x)) → mapA f (xs.map h) = .ok (xs.map g)
  | [], _ => rfl
  | x :: xs, e => by
    rw [List.map_cons, mapA, e x (List.mem_cons_self ..), mapA_ok fun y hy => e y (List.mem_cons_of_mem _ hy)]
    rfl
theorem mapL_ok {τ : Type} {f : D → Mo D} {h g : τ → D} {xs : List τ} (hl : xs.length ≤ sizeLine) (e : ∀ x ∈ xs, f (h x) = .ok (g x)) : mapL f (xs.map h) = .ok (xs.map g) := by
  unfold mapL
  rw [if_pos (by simpa using hl), mapA_ok e]
  rfl
theorem foldN_inv {σ τ : Type} {f : σ → D → Mo σ} {h : τ → D} (J : List τ → σ → Prop) (full : List τ) : ∀ (xs acc : List τ) (s : σ), acc ++ xs = full → J acc s → (∀ x acc s rest, acc ++ x :: rest = full → J acc s → ∃ s', f s (h x) = .ok s' ∧ J (acc ++ [x]) s') → ∃ s', foldN f s (xs.map h) = .ok s' ∧ J full s'
  | [], acc, s, hf, j, _ => ⟨s, rfl, by rw [← hf]; simpa using j⟩
  | x :: xs, acc, s, hf, j, st => by
    obtain ⟨s1, e1, j1⟩ := st x acc s xs hf j
    obtain ⟨s2, e2, j2⟩ := foldN_inv J full xs (acc ++ [x]) s1 (by simpa using hf) j1 st
    exact ⟨s2, by rw [List.map_cons, foldN, e1, ok_bind, e2], j2⟩
theorem foldN_fun {σ τ υ : Type} {f : σ → D → Mo σ} {h : τ → D} {F : υ → σ} {g : υ → τ → υ} (J : List τ → υ → Prop) {xs : List τ} {u : υ} (j : J [] u) (st : ∀ x acc u rest, acc ++ x :: rest = xs → J acc u → f (F u) (h x) = .ok (F (g u x)) ∧ J (acc ++ [x]) (g u x)) : foldN f (F u) (xs.map h) = .ok (F (xs.foldl g u)) ∧ J xs (xs.foldl g u) := by
  have key : ∀ (ys acc : List τ) (u : υ), acc ++ ys = xs → J acc u → foldN f (F u) (ys.map h) = .ok (F (ys.foldl g u)) ∧ J xs (ys.foldl g u) := by
    intro ys
    induction ys with
    | nil => intro acc u hf j; exact ⟨rfl, by rw [← hf]; simpa using j⟩
    | cons y ys ih =>
      intro acc u hf j
      obtain ⟨e, j1⟩ := st y acc u ys hf j
      obtain ⟨e2, j2⟩ := ih (acc ++ [y]) (g u y) (by simpa using hf) j1
      exact ⟨by rw [List.map_cons, foldN, e, ok_bind]; exact e2, j2⟩
  exact key xs [] u rfl j
theorem foldB_all {σ τ ρ : Type} {f : σ → D → Mo (Fl σ ρ)} {h : τ → D} {s : σ} : ∀ {xs : List τ}, (∀ x ∈ xs, f s (h x) = .ok (.nx s)) → foldB f s (xs.map h) = .ok (.nx s)
  | [], _ => rfl
  | x :: xs, e => by
    rw [List.map_cons, foldB, e x (List.mem_cons_self ..), ok_bind]
    exact foldB_all fun y hy => e y (List.mem_cons_of_mem _ hy)
theorem enm_map {τ : Type} (h : τ → D) : ∀ (xs : List τ) (k : Nat), enmL k (xs.map h) = (xs.zipIdx k).map fun p => .tup [.int (p.2 : Nat), h p.1]
  | [], k => rfl
  | x :: xs, k => by rw [List.map_cons, enmL, enm_map h xs (k + 1)]; rfl
theorem o_enmT {τ : Type} {h : τ → D} {xs : List τ} : optM (enmF [.tup (xs.map h)]) = .ok ((xs.zipIdx 0).map fun p => .tup [.int (p.2 : Nat), h p.1]) := by
  show optM (some (enmL 0 _)) = _
  rw [enm_map]; rfl
theorem o_rng {m : Nat} (hm : m ≤ 1000000) : optM (rng1F [.int (m : Nat)]) = .ok ((List.range m).map fun (i : Nat) => D.int i) := by
  rw [rng1F_nat hm]
  show Mo.ok (rngL 0 m) = _
  unfold rngL
  simp
end
/-! ### the package -/
theorem m_int {i : Int} : m_is_integer (.int i) = .ok (.bl true) := by
  unfold m_is_integer
  simp
theorem m_ints {r : List Int} (h : r.length ≤ 100000) : m_are_integers (dR r) (.int r.length) = .ok (.bl true) := by
  unfold m_are_integers dR
  simp only [ok_bind, pV_isiT, isB_bl, if_true, p_lenT, List.length_map, pV_eq, decide_true, itemsM_tup]
  rw [mapL_ok (g := fun _ => .bl true) (sz h) (fun x _ => m_int)]
  simp only [ok_bind]
  exact pV_all
theorem len_dT (r : Tb) : prm .len [dT r] = .ok (.int r.length) := by unfold dT; simp
theorem len_dL (r : List Tb) : prm .len [dL r] = .ok (.int r.length) := by unfold dL; simp
theorem catA_ok {τ υ : Type} {f : D → Mo (List D)} {h : τ → D} {g : τ → List υ} {k : υ → D} : ∀ {xs : List τ}, (∀ x ∈ xs, f (h x) = .ok ((g x).map k)) → catA f (xs.map h) = .ok ((xs.flatMap g).map k)
  | [], _ => rfl
  | x :: xs, e => by
    rw [List.map_cons, catA, e x (List.mem_cons_self ..), ok_bind, catA_ok fun y hy => e y (List.mem_cons_of_mem _ hy), List.flatMap_cons, List.map_append]
    rfl
theorem filA_map {τ : Type} {f : D → Mo (Option D)} {h g : τ → D} : ∀ {xs : List τ}, (∀ x ∈ xs, f (h x) = .ok (some (g x))) → filA f (xs.map h) = .ok (xs.map g)
  | [], _ => rfl
  | x :: xs, e => by
    rw [List.map_cons, filA, e x (List.mem_cons_self ..), ok_bind, filA_map fun y hy => e y (List.mem_cons_of_mem _ hy)]
    rfl
theorem catL_ok {f : D → Mo (List D)} {l r : List D} (h : catA f l = .ok r) (hr : r.length ≤ sizeLine) : catL f l = .ok r := by
  unfold catL
  rw [h]
  show fitL r = _
  unfold fitL
  rw [if_pos hr]
theorem flat_le {τ υ : Type} (n : Nat) (g : τ → List υ) : ∀ xs : List τ, (∀ x ∈ xs, (g x).length ≤ n) → (xs.flatMap g).length ≤ xs.length * n
  | [], _ => by simp
  | x :: xs, h => by
    rw [List.flatMap_cons, List.length_append, List.length_cons, Nat.succ_mul]
    have h1 := h x (List.mem_cons_self ..)
    have h2 := flat_le n g xs fun y hy => h y (List.mem_cons_of_mem _ hy)
    omega
theorem m_table {m : Nat} {A : Tb} (h : TbOk m A) : m_is_table (dT A) = .ok (.bl true) := by
  have hlo := h.lo
  have hhi := h.hi
  have hlen := h.len
  unfold m_is_table dT
  simp only [ok_bind, p_isiT, tru_bl, Bool.not_true, Bool.false_eq_true, if_false, p_lenT, List.length_map, hlen, p_le, isB_bl, show decide ((1 : Int) ≤ (m : Int)) = true from decide_eq_true (by omega), if_true, pV_le, show decide ((m : Int) ≤ 4) = true from decide_eq_true (by omega), itemsM_tup]
  rw [mapL_ok (g := fun _ => .bl true) (sz (by omega)) (fun r hr => by rw [← h.row r hr]; exact m_ints (by rw [h.row r hr]; omega))]
  simp only [ok_bind, p_all, tru_bl, Bool.not_true, Bool.false_eq_true, if_false]
  have e := catA_ok (f := fun v14 => (Mo.ok v14) >>= fun v15 => ((Mo.ok v15) >>= fun v16 => (itemsM v16)) >>= fun v17 => (filA (fun v18 => (Mo.ok v18) >>= fun v19 => ((((Mo.ok v19) >>= fun v20 => (prm .abs [v20])) >>= fun v21 => ((Mo.ok (D.int 1000000)) >>= fun v22 => (prm .le [v21, v22]))) >>= fun v23 => (.ok (some v23)))) v17)) (h := dR) (g := fun r => r.map fun _ => ()) (k := fun _ => D.bl true) (xs := A) (fun r hr => by
    unfold dR
    simp only [ok_bind, itemsM_tup]
    rw [filA_map (g := fun _ => D.bl true) (fun x hx => by
      have hb := h.sm r hr x hx
      have hd : (if x < 0 then -x else x) ≤ 1000000 := by split <;> omega
      simp only [ok_bind, p_abs, p_le, decide_eq_true hd])]
    rw [List.map_map]; rfl)
  simp only [ok_bind] at e
  rw [catL_ok e (by
    rw [List.length_map]
    refine sz (Nat.le_trans (flat_le 4 _ A fun r hr => ?_) (by rw [hlen]; omega))
    rw [List.length_map, h.row r hr]; omega)]
  simp only [ok_bind]
  exact p_all
theorem m_wrongT {m : Nat} {ts : List Tb} (h : LotOk m ts) : m_wrong_table (dL ts) = .ok .non := by
  obtain ⟨A0, ts', hts⟩ : ∃ a l, ts = a :: l := by
    cases ts with
    | nil => exact absurd rfl h.ne
    | cons a l => exact ⟨a, l, rfl⟩
  have hl : ts.length ≤ 3 := h.few
  have hne : ¬ ((ts.length : Int) = 0) := by rw [hts]; simp; omega
  have h0 : prm .idx [dL ts, .int 0] = .ok (dT A0) := by rw [hts]; unfold dL; simp
  have e0 : prm (.isi "tuple") [dL ts] = .ok (.bl true) := rfl
  have e1 : optM (enmF [dL ts]) = _ := o_enmT
  unfold m_wrong_table
  simp only [ok_bind, e0, tru_bl, Bool.not_true, Bool.false_eq_true, if_false, len_dL, p_eq, decide_eq_false hne, e1, h0]
  rw [foldB_all (fun p hp => by
    obtain ⟨A, i⟩ := p
    have hi := List.mem_zipIdx hp
    have hA : A ∈ ts := by rw [hi.2.2]; exact List.getElem_mem _
    have h3 : ¬ ((i : Int) = 3) := by omega
    have l1 := (h.tb A hA).len
    have l2 := (h.tb A0 (by rw [hts]; exact List.mem_cons_self ..)).len
    simp only [ok_bind, un2_tup, p_eq, tru_bl, decide_eq_false h3, Bool.false_eq_true, if_false, m_table (h.tb A hA), Bool.not_true, len_dT, p_ne, l1, l2, decide_true])]
  rfl
theorem m_Lot {m : Nat} {ts : List Tb} (h : LotOk m ts) : m_Lot_init (dL ts) = .ok [dL ts] := by
  unfold m_Lot_init
  simp [m_wrongT h]
theorem dL_idx {ts : List Tb} {i : Nat} (h : i < ts.length) : prm .idx [dL ts, .int (i : Nat)] = .ok (dT (ts.getD i [])) := p_idxT (by
  rw [List.getElem?_map, List.getElem?_eq_getElem h, List.getD_eq_getElem?_getD, List.getElem?_eq_getElem h]; rfl)
theorem m_tables {ts : List Tb} : m_Lot_tables (dO ts) = .ok (dL ts) := by
  unfold m_Lot_tables dO
  simp
theorem isI_O {ts : List Tb} : isI 0 (dO ts) = .ok () := isI_ok
end M

set_option Elab.async false
set_option linter.all false
set_option maxRecDepth 100000
set_option maxHeartbeats 4000000
/-! S3: traces; draws. -/
namespace M
open PySem
theorem dR_idx {r : List Int} {i : Nat} (h : i < r.length) : prm .idx [dR r, .int (i : Nat)] = .ok (.int (r.getD i 0)) := p_idxT (by
  rw [List.getElem?_map, List.getElem?_eq_getElem h, List.getD_eq_getElem?_getD, List.getElem?_eq_getElem h]; rfl)
/-! ### draws -/
/-- a pail after at most k mixings -/
def Pl (k : Nat) (p : D) : Prop := ∃ A s c : Int, p = pail A s c ∧ 0 ≤ A ∧ (0 ≤ s ∧ s < 4294967296) ∧ 0 ≤ c ∧ c ≤ k
theorem Pl.mono {k k' : Nat} {p : D} (h : Pl k p) (l : k ≤ k') : Pl k' p := by
  obtain ⟨A, s, c, e, h1, h2, h3, h4⟩ := h
  exact ⟨A, s, c, e, h1, h2, h3, by omega⟩
theorem n32 {x : Int} (h : 0 ≤ x) (h' : x < 4294967296) : x.natAbs < 2 ^ 32 := lt_pow32 h h'
theorem m_cast {k : Nat} {p : D} {m : Int} (h : Pl k p) (hk : k ≤ 1000000) (hm : 0 < m ∧ m < 1073741824) : ∃ v p', m__law_cast p (.int m) = .ok (.int v, p') ∧ (0 ≤ v ∧ v < m) ∧ Pl (k + 1) p' := by
  obtain ⟨A, s, c, rfl, hA, hs, hc, hck⟩ := h
  by_cases hpos : 0 < A
  · refine ⟨A % m, pail (A / m) s c, ?_, ⟨Int.emod_nonneg _ (by omega), Int.emod_lt_of_pos _ hm.1⟩, A / m, s, c, rfl, Int.ediv_nonneg hA (by omega), hs, hc, by omega⟩
    unfold m__law_cast pail
    simp only [ok_bind, p_idx0L, p_gt, tru_bl, decide_eq_true hpos, if_true, p_divmod hm.1 hm.2, un2_tup, noExc_ok, put3_0]
  · have c32 : ∀ z : Int, 0 ≤ z → z ≤ 1000001 → z.natAbs < 2 ^ 32 := fun z h1 h2 => n32 h1 (by omega)
    have hc1 := c32 (c + 1) (by omega) (by omega)
    have s1 := Int.emod_nonneg (s * (36809 + 2 * (c + 1)) + 5303 * (c + 1) + 7) (show (2147483629 : Int) ≠ 0 by omega)
    have s2 := Int.emod_lt_of_pos (s * (36809 + 2 * (c + 1)) + 5303 * (c + 1) + 7) (show (0 : Int) < 2147483629 by omega)
    have t1 := Int.emod_nonneg (((s * (36809 + 2 * (c + 1)) + 5303 * (c + 1) + 7) % 2147483629) * 45413 + 3 * (c + 1) + 1) (show (2147483587 : Int) ≠ 0 by omega)
    have t2 := Int.emod_lt_of_pos (((s * (36809 + 2 * (c + 1)) + 5303 * (c + 1) + 7) % 2147483629) * 45413 + 3 * (c + 1) + 1) (show (0 : Int) < 2147483587 by omega)
    refine ⟨(((((s * (36809 + 2 * (c + 1)) + 5303 * (c + 1) + 7) % 2147483629) * 45413 + 3 * (c + 1) + 1) % 2147483587) / 256) % m, pail A ((((s * (36809 + 2 * (c + 1)) + 5303 * (c + 1) + 7) % 2147483629) * 45413 + 3 * (c + 1) + 1) % 2147483587) (c + 1), ?_, ⟨Int.emod_nonneg _ (by omega), Int.emod_lt_of_pos _ hm.1⟩, _, _, _, rfl, hA, ⟨t1, by omega⟩, by omega, by omega⟩
    unfold m__law_cast pail
    simp only [ok_bind, p_idx0L, p_gt, tru_bl, decide_eq_false hpos, if_false, p_idx2L, p_add, noExc_ok, put3_2, p_idx1L, p_mul (a := 2) (p := 32) (r := 32) (by decide) (n32 (by decide) (by decide)) hc1, p_mul (a := s) (p := 32) (r := 32) (by decide) (n32 hs.1 hs.2) (n32 (x := 36809 + 2 * (c + 1)) (by omega) (by omega)), p_mul (a := 5303) (p := 32) (r := 32) (by decide) (n32 (by decide) (by decide)) hc1, p_int, p_mod (show (0 : Int) < 2147483629 by decide), Bool.false_eq_true]
    generalize (s * (36809 + 2 * (c + 1)) + 5303 * (c + 1) + 7) % 2147483629 = st at s1 s2 t1 t2 ⊢
    simp only [ok_bind, p_mul (a := st) (p := 32) (r := 32) (by decide) (n32 s1 (by omega)) (n32 (x := 45413) (by decide) (by decide)), p_mul (a := 3) (p := 32) (r := 32) (by decide) (n32 (by decide) (by decide)) hc1, p_add, p_int, p_mod (show (0 : Int) < 2147483587 by decide), noExc_ok, put3_1, p_idx1L, p_fdiv (show (0 : Int) < 256 by decide) (show (256 : Int).natAbs < 2 ^ 64 by decide), p_mod hm.1]
theorem slo_cut {l : List D} : prm (.slo false true) [.lst l, .int 6] = .ok (.lst (cutL l none (some 6))) := rfl
theorem map_cut (ns : List Int) : ∃ ms : List Int, cutL (ns.map D.int) none (some 6) = ms.map D.int ∧ ∀ z ∈ ms, z ∈ ns := by
  unfold cutL
  rw [← List.map_drop, ← List.map_take]
  exact ⟨_, rfl, fun z hz => List.mem_of_mem_drop (List.mem_of_mem_take hz)⟩
theorem p_pow18 : prm .pow [.int 10, .int 18] = .ok (.int 1000000000000000000) := prm_of pow18
theorem m_begun {ns : List Int} {k : Nat} (hn : ns.length ≤ 63) (hb : ∀ z ∈ ns, Builtin.Int.intBits z ≤ 1048576) (hk : k < 1000) : ∃ p, m__law_begun ((.lst (ns.map D.int))) (.int k) = .ok p ∧ Pl 0 p := by
  obtain ⟨P0, hP0, hbit⟩ : ∃ P0 : Nat, P0 ≤ 1048576 ∧ ∀ z ∈ ns, z.natAbs < 2 ^ P0 := ⟨_, Nat.le_refl _, fun z hz => PySem.intBits_le_iff.1 (hb z hz)⟩
  have k32 := n32 (x := (k : Int)) (by omega) (by omega)
  obtain ⟨own, hown, e1⟩ : ∃ own : Int, own.natAbs < 2 ^ P0 ∧ (if decide ((k : Int) < (ns.length : Int)) then prm .idx [.lst (ns.map D.int), .int k] else .ok (.int 0)) = .ok (.int own) := by
    by_cases hl : (k : Int) < (ns.length : Int)
    · have hl' : k < ns.length := by omega
      refine ⟨ns[k], hbit _ (List.getElem_mem hl'), ?_⟩
      rw [decide_eq_true hl, if_pos rfl]
      exact p_idxL (by rw [List.getElem?_map, List.getElem?_eq_getElem hl']; rfl)
    · rw [decide_eq_false hl]
      exact ⟨0, Nat.two_pow_pos _, rfl⟩
  obtain ⟨ms, e2, hms⟩ := map_cut ns
  have u1 : (0 : Int) ≤ 60013 + 7727 * (k : Int) ∧ (60013 + 7727 * (k : Int)) < 4294967296 := by omega
  obtain ⟨s', e3, st, hst, hs'⟩ := foldN_inv (f := fun v17 v18 => ((((((prm .mul [v17, D.int 30269]) >>= fun v22 => (prm .mul [v18, D.int 7] >>= fun v25 => prm .add [v22, v25])) >>= fun v26 => prm .add [v26, D.int 13]) >>= fun v28 => prm .int [v28]) >>= fun v29 => prm .mod [v29, D.int 2147483629]))) (h := D.int)
    (fun _ s => ∃ st : Int, (0 ≤ st ∧ st < 4294967296) ∧ s = .int st) ms ms [] (.int (60013 + 7727 * (k : Int))) rfl ⟨_, u1, rfl⟩ (by
      rintro x acc s rest hf ⟨st, hst, rfl⟩
      have hx := hbit x (hms x (by rw [← hf]; simp))
      refine ⟨.int ((st * 30269 + x * 7 + 13) % 2147483629), ?_, _, ⟨Int.emod_nonneg _ (by omega), Int.lt_trans (Int.emod_lt_of_pos _ (by omega)) (by omega)⟩, rfl⟩
      simp only [ok_bind, p_mul (p := 32) (r := 32) (by decide) (n32 hst.1 hst.2) (n32 (x := 30269) (by decide) (by decide)), p_mul (p := P0) (r := 32) (by omega) hx (n32 (x := 7) (by decide) (by decide)), p_add, p_int, p_mod (show (0 : Int) < 2147483629 by decide)])
  subst hs'
  obtain ⟨A, hA, e4⟩ : ∃ A : Int, 0 ≤ A ∧ ((if decide (own < 0) then Mo.ok true else .ok (decide (1000000000000000000 ≤ own))) >>= fun v => if v then Mo.ok (D.int (if own < 0 then -own else own)) else .ok (.int 0)) = .ok (.int A) := by
    by_cases c1 : own < 0
    · exact ⟨-own, by omega, by simp [c1]⟩
    · by_cases c2 : 1000000000000000000 ≤ own
      · exact ⟨own, by omega, by simp [c1, c2]⟩
      · exact ⟨0, Int.le_refl _, by simp [c1, c2]⟩
  refine ⟨pail A ((st * 53 + own * own + 17 * (k : Int)) % 2147483629) 0, ?_, A, _, 0, rfl, hA, ⟨Int.emod_nonneg _ (by omega), Int.lt_trans (Int.emod_lt_of_pos _ (by omega)) (by omega)⟩, by omega, by omega⟩
  unfold m__law_begun pail
  simp only [ok_bind, p_lenL, List.length_map, p_lt, tru_bl, e1, p_mul (a := 7727) (p := 32) (r := 32) (by decide) (n32 (by decide) (by decide)) k32, p_add, slo_cut, itemsM_lst, e2]
  simp only [bind_ok] at e3 ⊢
  simp only [e3, ok_bind, p_lt, tru_bl, p_pow18, p_ge, p_abs, e4, p_mul (a := st) (p := 32) (r := 32) (by decide) (n32 hst.1 hst.2) (n32 (x := 53) (by decide) (by decide)), p_mul (a := own) (p := P0) (r := P0) (by omega) hown hown, p_mul (a := 17) (p := 32) (r := 32) (by decide) (n32 (by decide) (by decide)) k32, p_add, p_int, p_mod (show (0 : Int) < 2147483629 by decide), lst3]
end M

set_option Elab.async false
set_option linter.all false
set_option maxRecDepth 100000
set_option maxHeartbeats 4000000
/-! Pk2: plain functions (printed by gen2.py). -/
namespace M
open PySem
def m__law_any_of (x_0 x_1 : D) : Mo (D × D) :=
  (((.ok x_1) >>= fun v0 => ((((.ok x_1) >>= fun v1 => (prm .len [v1])) >>= fun v2 => (m__law_cast x_0 v2)) >>= fun v3 => (.ok []) >>= fun v4 => .ok ((v3.1 :: v4), v3.2)) >>= fun v5 => .ok ((v0 :: v5.1), v5.2)) >>= fun v6 => prm .idx v6.1 >>= fun v7 => .ok (v7, v6.2))
def m__law_number (x_0 : D) : Mo (D × D) :=
  (((.ok (D.int 8)) >>= fun v0 => (m__law_cast x_0 v0)) >>= fun v1 => ((((.ok v1.1) >>= fun v2 => ((.ok (D.int 5)) >>= fun v3 => (prm .lt [v2, v3]))) >>= fun v4 => (tru v4)) >>= fun v5 => if v5 then ((((.ok (D.int 7)) >>= fun v6 => (m__law_cast v1.2 v6)) >>= fun v7 => ((.ok (D.int 3)) >>= fun v8 => (.ok []) >>= fun v9 => .ok (v8 :: v9)) >>= fun v10 => .ok ((v7.1 :: v10), v7.2)) >>= fun v11 => prm .sub v11.1 >>= fun v12 => .ok (v12, v11.2)) else ((((.ok v1.1) >>= fun v13 => ((.ok (D.int 5)) >>= fun v14 => (prm .eq [v13, v14]))) >>= fun v15 => (tru v15)) >>= fun v16 => if v16 then (((((.ok (D.int 10)) >>= fun v17 => ((.ok (D.int 6)) >>= fun v18 => (prm .pow [v17, v18]))) >>= fun v19 => ((((.ok (D.int 10)) >>= fun v20 => ((.ok (D.int 6)) >>= fun v21 => (prm .pow [v20, v21]))) >>= fun v22 => (prm .neg [v22])) >>= fun v23 => ((.ok (D.int 999999)) >>= fun v24 => ((.ok (D.int 10)) >>= fun v25 => (.ok []) >>= fun v26 => .ok (v25 :: v26)) >>= fun v27 => .ok (v24 :: v27)) >>= fun v28 => .ok (v23 :: v28)) >>= fun v29 => .ok (v19 :: v29)) >>= lstM) >>= fun v30 => (m__law_any_of v1.2 v30)) else ((((.ok v1.1) >>= fun v31 => ((.ok (D.int 6)) >>= fun v32 => (prm .eq [v31, v32]))) >>= fun v33 => (tru v33)) >>= fun v34 => if v34 then ((((.ok (D.int 41)) >>= fun v35 => (m__law_cast v1.2 v35)) >>= fun v36 => ((.ok (D.int 20)) >>= fun v37 => (.ok []) >>= fun v38 => .ok (v37 :: v38)) >>= fun v39 => .ok ((v36.1 :: v39), v36.2)) >>= fun v40 => prm .sub v40.1 >>= fun v41 => .ok (v41, v40.2)) else ((((((.ok (D.int 2)) >>= fun v42 => (((.ok (D.int 10)) >>= fun v43 => ((.ok (D.int 6)) >>= fun v44 => (prm .pow [v43, v44]))) >>= fun v45 => (prm .mul [v42, v45]))) >>= fun v46 => ((.ok (D.int 1)) >>= fun v47 => (prm .add [v46, v47]))) >>= fun v48 => (m__law_cast v1.2 v48)) >>= fun v49 => (((.ok (D.int 10)) >>= fun v50 => ((.ok (D.int 6)) >>= fun v51 => (prm .pow [v50, v51]))) >>= fun v52 => (.ok []) >>= fun v53 => .ok (v52 :: v53)) >>= fun v54 => .ok ((v49.1 :: v54), v49.2)) >>= fun v55 => prm .sub v55.1 >>= fun v56 => .ok (v56, v55.2))))))
def m__law_grids (x_0 : D) : Mo (D × D) :=
  ((((.ok (D.int 1)) >>= fun v0 => (((.ok (D.int 4)) >>= fun v1 => (m__law_cast x_0 v1)) >>= fun v2 => (.ok []) >>= fun v3 => .ok ((v2.1 :: v3), v2.2)) >>= fun v4 => .ok ((v0 :: v4.1), v4.2)) >>= fun v5 => prm .add v5.1 >>= fun v6 => .ok (v6, v5.2)) >>= fun v7 => (((.ok []) >>= lstM) >>= fun v8 => (((((.ok (D.int 1)) >>= fun v9 => (((.ok (D.int 3)) >>= fun v10 => (m__law_cast v7.2 v10)) >>= fun v11 => (.ok []) >>= fun v12 => .ok ((v11.1 :: v12), v11.2)) >>= fun v13 => .ok ((v9 :: v13.1), v13.2)) >>= fun v14 => prm .add v14.1 >>= fun v15 => .ok (v15, v14.2)) >>= fun v16 => optM (rng1F [v16.1]) >>= fun v17 => .ok (v17, v16.2)) >>= fun v18 => foldN (fun v19 v20 => (.ok v20) >>= fun v21 => ((((((.ok v7.1) >>= fun v22 => (optM (rng1F [v22]))) >>= fun v23 => mapSL (fun v24 v25 => (.ok v24) >>= fun v26 => (((((.ok v7.1) >>= fun v27 => (optM (rng1F [v27]))) >>= fun v28 => mapSL (fun v29 v30 => (.ok v29) >>= fun v31 => (m__law_number v30)) v28 v25 >>= fun v32 => .ok (D.lst v32.1, v32.2)) >>= fun v33 => (.ok []) >>= fun v34 => .ok ((v33.1 :: v34), v33.2)) >>= fun v35 => prm .tuple v35.1 >>= fun v36 => .ok (v36, v35.2))) v23 v19.1 >>= fun v37 => .ok (D.lst v37.1, v37.2)) >>= fun v38 => (.ok []) >>= fun v39 => .ok ((v38.1 :: v39), v38.2)) >>= fun v40 => prm .tuple v40.1 >>= fun v41 => .ok (v41, v40.2)) >>= fun v42 => appM v19.2 v42.1 >>= fun v43 => (.ok (v42.2, v43)))) (v18.2, v8) v18.1 >>= fun v44 => (((.ok v44.2) >>= fun v45 => (prm .tuple [v45])) >>= fun v46 => (.ok (v46, v44.1))))))
def m_written_integer (x_0 : D) : Mo D :=
  ((((((.ok x_0) >>= fun v0 => ((.ok (D.int 1)) >>= fun v1 => (prm (.slo false true) [v0, v1]))) >>= fun v2 => ((.ok (D.str "-")) >>= fun v3 => (prm .eq [v2, v3]))) >>= fun v4 => (tru v4)) >>= fun v5 => (if v5 then ((.ok x_0) >>= fun v6 => ((.ok (D.int 1)) >>= fun v7 => (prm (.slo true false) [v6, v7]))) else (.ok x_0))) >>= fun v8 => (((((.ok v8) >>= fun v9 => ((.ok (D.str "")) >>= fun v10 => (prm .eq [v9, v10]))) >>= fun v11 => (tru v11)) >>= fun v12 => if v12 then .ok true else (((((.ok v8) >>= fun v13 => (prm .len [v13])) >>= fun v14 => ((.ok (D.int 4000)) >>= fun v15 => (prm .gt [v14, v15]))) >>= fun v16 => (tru v16)) >>= fun v17 => if v17 then .ok true else ((((((.ok v8) >>= fun v18 => (itemsM v18)) >>= fun v19 => (mapL (fun v20 => (.ok v20) >>= fun v21 => ((.ok v21) >>= fun v22 => ((.ok (D.str "0123456789")) >>= fun v23 => (prm .isIn [v22, v23])))) v19 >>= fun l => .ok (D.lst l))) >>= fun v24 => (prm .all [v24])) >>= fun v25 => (tru v25)) >>= fun v26 => .ok (!v26)))) >>= fun v27 => if v27 then (.ok D.non) else ((((((.ok x_0) >>= fun v28 => (prm .int [v28])) >>= fun v29 => (prm .strI [v29])) >>= fun v30 => ((.ok x_0) >>= fun v31 => (prm .eq [v30, v31]))) >>= fun v32 => (tru v32)) >>= fun v33 => (if v33 then ((.ok x_0) >>= fun v34 => (prm .int [v34])) else (.ok D.non)))))
def m_text_row (x_0 : D) : Mo D :=
  (((((.ok x_0) >>= fun v0 => (isS v0 >>= fun _ => ((.ok (D.str " ")) >>= fun v1 => (prm .split [v0, v1])))) >>= fun v2 => (itemsM v2)) >>= fun v3 => (mapL (fun v4 => (.ok v4) >>= fun v5 => ((.ok v5) >>= fun v6 => (m_written_integer v6))) v3 >>= fun l => .ok (D.lst l))) >>= fun v7 => (prm .tuple [v7]))
def m_text_lot (x_0 : D) : Mo D :=
  (((((.ok x_0) >>= fun v0 => (prm (.isi "str") [v0])) >>= fun v1 => (tru v1)) >>= fun v2 => .ok (!v2)) >>= fun v3 => if v3 then (.ok D.non) else (((.ok x_0) >>= fun v4 => (isS v4 >>= fun _ => ((.ok (D.str "\n")) >>= fun v5 => (prm .split [v4, v5])))) >>= fun v6 => (((((((.ok v6) >>= fun v7 => ((.ok (D.int 0)) >>= fun v8 => (prm .idx [v7, v8]))) >>= fun v9 => ((.ok (D.int 4)) >>= fun v10 => (prm (.slo false true) [v9, v10]))) >>= fun v11 => ((.ok (D.str "lot ")) >>= fun v12 => (prm .eq [v11, v12]))) >>= fun v13 => (tru v13)) >>= fun v14 => (if v14 then ((((.ok v6) >>= fun v15 => ((.ok (D.int 0)) >>= fun v16 => (prm .idx [v15, v16]))) >>= fun v17 => ((.ok (D.int 4)) >>= fun v18 => (prm (.slo true false) [v17, v18]))) >>= fun v19 => (m_written_integer v19)) else (.ok D.non))) >>= fun v20 => (((((.ok v20) >>= fun v21 => (prm .isN [v21])) >>= fun v22 => (tru v22)) >>= fun v23 => if v23 then .ok true else (((((.ok (D.int 1)) >>= fun v24 => ((.ok v20) >>= fun v25 => ((prm .le [v24, v25]) >>= fun v26 => ((isB v26) >>= fun v27 => (if v27 then ((.ok (D.int 4)) >>= fun v28 => (prmV .le [v25, v28])) else .ok (D.bl false)))))) >>= fun v29 => (tru v29)) >>= fun v30 => .ok (!v30)) >>= fun v31 => if v31 then .ok true else (((((.ok v6) >>= fun v32 => (prm .len [v32])) >>= fun v33 => (((.ok v20) >>= fun v34 => ((.ok (D.int 1)) >>= fun v35 => (prm .add [v34, v35]))) >>= fun v36 => (prm .mod [v33, v36]))) >>= fun v37 => ((.ok (D.int 1)) >>= fun v38 => (prm .ne [v37, v38]))) >>= fun v39 => (tru v39)))) >>= fun v40 => if v40 then (.ok D.non) else (((.ok []) >>= lstM) >>= fun v41 => (((.ok (D.int 1)) >>= fun v42 => (((.ok v6) >>= fun v43 => (prm .len [v43])) >>= fun v44 => (((.ok v20) >>= fun v45 => ((.ok (D.int 1)) >>= fun v46 => (prm .add [v45, v46]))) >>= fun v47 => (optM (rng3F [v42, v44, v47]))))) >>= fun v48 => foldB (ρ := D) (fun v49 v50 => (.ok v50) >>= fun v51 => (((((.ok v6) >>= fun v52 => ((.ok v51) >>= fun v53 => (prm .idx [v52, v53]))) >>= fun v54 => ((.ok (D.str "table")) >>= fun v55 => (prm .ne [v54, v55]))) >>= fun v56 => (tru v56)) >>= fun v57 => if v57 then ((.ok D.non) >>= fun v58 => .ok (.ret v58)) else ((((((.ok v6) >>= fun v59 => (((.ok v51) >>= fun v60 => ((.ok (D.int 1)) >>= fun v61 => (prm .add [v60, v61]))) >>= fun v62 => ((((.ok v51) >>= fun v63 => ((.ok (D.int 1)) >>= fun v64 => (prm .add [v63, v64]))) >>= fun v65 => ((.ok v20) >>= fun v66 => (prm .add [v65, v66]))) >>= fun v67 => (prm (.slo true true) [v59, v62, v67])))) >>= fun v68 => (itemsM v68)) >>= fun v69 => (mapL (fun v70 => (.ok v70) >>= fun v71 => ((.ok v71) >>= fun v72 => (m_text_row v72))) v69 >>= fun l => .ok (D.lst l))) >>= fun v73 => (prm .tuple [v73])) >>= fun v74 => appM v49 v74 >>= fun v75 => (.ok (.nx v75))))) v41 v48 >>= fun v76 => Fl.on v76 (fun v77 => (((((((.ok v77) >>= fun v78 => (prm .tuple [v78])) >>= fun v79 => (m_wrong_table v79)) >>= fun v80 => (prm .notN [v80])) >>= fun v81 => (tru v81)) >>= fun v82 => if v82 then .ok true else (((((.ok v77) >>= fun v83 => ((.ok (D.int 0)) >>= fun v84 => (prm .idx [v83, v84]))) >>= fun v85 => (prm .len [v85])) >>= fun v86 => ((.ok v20) >>= fun v87 => (prm .ne [v86, v87]))) >>= fun v88 => (tru v88))) >>= fun v89 => if v89 then (.ok D.non) else (((.ok v77) >>= fun v90 => (prm .tuple [v90])) >>= fun v91 => (m_Lot_init v91 >>= fun fs => .ok (D.ins 0 fs))))) (fun v76 => .ok ( v76))))))))
def m_Lot_read (x_0 x_1 : D) : Mo D :=
  (((.ok x_1) >>= fun v0 => (m_text_lot v0)) >>= fun v1 => ((((.ok v1) >>= fun v2 => (prm .isN [v2])) >>= fun v3 => (tru v3)) >>= fun v4 => if v4 then .bad else (.ok v1)))
def m__law_lines (x_0 : D) : Mo D :=
  (((((.ok (D.str "lot ")) >>= fun v0 => (((((.ok x_0) >>= fun v1 => ((.ok (D.int 0)) >>= fun v2 => (prm .idx [v1, v2]))) >>= fun v3 => (prm .len [v3])) >>= fun v4 => (prm .strI [v4])) >>= fun v5 => (prm .add [v0, v5]))) >>= fun v6 => (.ok []) >>= fun v7 => .ok (v6 :: v7)) >>= lstM) >>= fun v8 => (((.ok x_0) >>= fun v9 => (itemsM v9)) >>= fun v10 => foldN (fun v11 v12 => (.ok v12) >>= fun v13 => ((((.ok v11) >>= fun v14 => ((((.ok (D.str "table")) >>= fun v15 => (.ok []) >>= fun v16 => .ok (v15 :: v16)) >>= lstM) >>= fun v17 => (prm .add [v14, v17]))) >>= fun v18 => ((((.ok v13) >>= fun v19 => (itemsM v19)) >>= fun v20 => (mapL (fun v21 => (.ok v21) >>= fun v22 => ((.ok (D.str " ")) >>= fun v23 => (isS v23 >>= fun _ => ((((.ok v22) >>= fun v24 => (itemsM v24)) >>= fun v25 => (mapL (fun v26 => (.ok v26) >>= fun v27 => ((.ok v27) >>= fun v28 => (prm .strI [v28]))) v25 >>= fun l => .ok (D.lst l))) >>= fun v29 => (prm .join [v23, v29]))))) v20 >>= fun l => .ok (D.lst l))) >>= fun v30 => (prm .add [v18, v30]))) >>= fun v31 => (.ok v31))) v8 v10 >>= fun v32 => (.ok v32)))
def m__law_sheet (x_0 : D) : Mo D :=
  ((.ok (D.str "\n")) >>= fun v0 => (isS v0 >>= fun _ => (((.ok x_0) >>= fun v1 => (m__law_lines v1)) >>= fun v2 => (prm .join [v0, v2]))))
def m__law_built (x_0 x_1 : D) : Mo (D × D) :=
  (((.ok (D.int 3)) >>= fun v0 => (m__law_cast x_0 v0)) >>= fun v1 => ((((.ok v1.1) >>= fun v2 => ((.ok (D.int 0)) >>= fun v3 => (prm .eq [v2, v3]))) >>= fun v4 => (tru v4)) >>= fun v5 => if v5 then (((.ok x_1) >>= fun v6 => (m_Lot_init v6 >>= fun fs => .ok (D.ins 0 fs))) >>= fun v7 => (.ok (v7, v1.2))) else (((((.ok v1.1) >>= fun v8 => ((.ok (D.int 1)) >>= fun v9 => (prm .eq [v8, v9]))) >>= fun v10 => (tru v10)) >>= fun v11 => (if v11 then ((.ok x_1) >>= fun v12 => (m_Lot_init v12 >>= fun fs => .ok (D.ins 0 fs))) else ((.ok (D.cls 0)) >>= fun v13 => (((.ok x_1) >>= fun v14 => (m__law_sheet v14)) >>= fun v15 => (m_Lot_read v13 v15))))) >>= fun v16 => (.ok (v16, v1.2)))))
end M

set_option Elab.async false
set_option linter.all false
set_option maxRecDepth 100000
set_option maxHeartbeats 4000000
/-! S4: texts in plain Lean: numbers written, joined, split, read. -/
namespace M
open PySem
abbrev tx (a : List Nat) : D := .str (SX.S a)
def numI (i : Int) : List Nat := if i < 0 then 45 :: TL.numL i.natAbs else TL.numL i.natAbs
theorem str_num (i : Int) : Str.ofString (toString i) = SX.S (numI i) := by
  unfold numI
  by_cases h : i < 0
  · rw [if_pos h]
    obtain ⟨m, rfl⟩ := Int.eq_negSucc_of_lt_zero h
    refine TL.ext_tl ?_
    show (Str.ofString (toString (Int.negSucc m))).cps.toList = 45 :: TL.numL (m + 1)
    rw [← TL.tl_num (m + 1)]
    show _ = 45 :: (Str.ofString (toString ((m + 1 : Nat) : Int))).cps.toList
    rw [PyProof.Rows.signs_ofString, PyProof.Rows.signs_ofString]
    have e : (toString (Int.negSucc m)) = "-" ++ toString ((m + 1 : Nat) : Int) := rfl
    rw [e, String.toList_append, List.map_append]
    rfl
  · rw [if_neg h]
    obtain ⟨m, rfl⟩ := Int.eq_ofNat_of_zero_le (by omega : 0 ≤ i)
    exact SX.num_S m
theorem numI_mem {i : Int} {c : Nat} (h : c ∈ numI i) : c = 45 ∨ (48 ≤ c ∧ c ≤ 57) := by
  unfold numI at h
  split at h
  · rcases List.mem_cons.1 h with h | h
    · exact .inl h
    · exact .inr (TL.numL_digits _ c h)
  · exact .inr (TL.numL_digits _ c h)
theorem numI_len {i : Int} {k : Nat} (hk : 0 < k) (h : i.natAbs < 10 ^ k) : (numI i).length ≤ k + 1 := by
  have z := TL.numL_len hk h
  unfold numI
  split
  · rw [List.length_cons]; omega
  · omega
theorem numI_int {i : Int} (h : (numI i).length ≤ 4300) : intText? (SX.S (numI i)) = some i := by
  unfold numI at h ⊢
  by_cases hi : i < 0
  · rw [if_pos hi] at h ⊢
    rw [intText_neg (x := SX.S (45 :: TL.numL i.natAbs)) rfl (TL.numL_digits _) (TL.numL_ne _) (by rw [SX.S_len]; exact h), TL.numL_val]
    congr 1; omega
  · rw [if_neg hi] at h ⊢
    have e := TL.int_num (n := i.natAbs) h
    rw [SX.num_S] at e
    rw [e]
    congr 1; omega
section
variable {a b : List Nat} {i : Int}
theorem n20' {i : Int} (h : i.natAbs < 2 ^ 1920) : i.natAbs.log2 < 1920 := by
  by_cases ha : i.natAbs = 0
  · rw [ha]; decide
  · exact (Nat.log2_lt ha).2 h
theorem p_strI (h : i.natAbs < 2 ^ 1920) : prm .strI [.int i] = .ok (tx (numI i)) := prm_of (fl := false) (by
  show (if i.natAbs.log2 < 1920 then some (false, D.str (Str.ofString (toString i))) else none) = _
  rw [if_pos (n20' h), str_num])
theorem p_addS (h : a.length + b.length ≤ 100000) : prm .add [tx a, tx b] = .ok (tx (a ++ b)) := prm_of (fl := false) (by
  show (if (SX.S a).length + (SX.S b).length ≤ sizeLine then some (false, D.str (SX.S a ++ SX.S b)) else none) = _
  rw [SX.S_len, SX.S_len, if_pos (sl4 h), SX.S_cat])
def Cps (a : List Nat) : Prop := ∀ c ∈ a, c < 1114112
theorem cps_num (i : Int) : Cps (numI i) := fun c hc => by have := numI_mem hc; omega
theorem cps_nat (i : Nat) : Cps (TL.numL i) := fun c hc => by have := TL.numL_digits _ c hc; omega
theorem Cps.take (h : Cps a) (k : Nat) : Cps (a.take k) := fun c hc => h c (List.mem_of_mem_take hc)
theorem Cps.drop (h : Cps a) (k : Nat) : Cps (a.drop k) := fun c hc => h c (List.mem_of_mem_drop hc)
theorem Cps.app (h : Cps a) (h' : Cps b) : Cps (a ++ b) := fun c hc => (List.mem_append.1 hc).elim (h c) (h' c)
theorem ok_S (h : Cps a) : PyData.strOk (SX.S a) = true := by
  unfold PyData.strOk
  rw [← Array.all_toList, List.all_eq_true]
  intro c hc
  exact decide_eq_true (h c hc)
theorem ev_eqS (ha : Cps a) (hb : Cps b) : dEq (tx a) (tx b) = some (decide (a = b)) := by
  rw [← SX.S_beq_eq]
  have x1 : SeqAt.shaped (.str (SX.S a)) = true := by
    show ((PyData.strOk (SX.S a)) && decide ((PyData.str (SX.S a)).depth ≤ 64)) = true
    rw [ok_S ha]; rfl
  have x2 : SeqAt.shaped (.str (SX.S b)) = true := by
    show ((PyData.strOk (SX.S b)) && decide ((PyData.str (SX.S b)).depth ≤ 64)) = true
    rw [ok_S hb]; rfl
  show (if SeqAt.shaped (.str (SX.S a)) && SeqAt.shaped (.str (SX.S b)) then some (PyData.eqv (.str (SX.S a)) (.str (SX.S b))) else none) = _
  rw [x1, x2]; rfl
theorem p_eqS (ha : Cps a) (hb : Cps b) : prm .eq [tx a, tx b] = .ok (.bl (decide (a = b))) := prm_of (by rw [ev_eq, ev_eqS ha hb]; rfl)
theorem p_neS (ha : Cps a) (hb : Cps b) : prm .ne [tx a, tx b] = .ok (.bl (!decide (a = b))) := prm_of (by rw [ev_ne, ev_eqS ha hb]; rfl)
theorem strs_map (l : List (List Nat)) : strsOf (l.map tx) = some (l.map SX.S) := by
  induction l with
  | nil => rfl
  | cons x l ih => rw [List.map_cons, strsOf, ih]; rfl
theorem p_joinS {l : List (List Nat)} (h : (l.map (·.length)).sum + l.length * a.length ≤ 100000) : prm .join [tx a, .lst (l.map tx)] = .ok (tx (TL.joinL a l)) := prm_of (fl := false) (by
  show joinD (SX.S a) (l.map tx) = _
  unfold joinD
  rw [strs_map]
  show (if ((l.map SX.S).map (·.length)).sum + (l.map SX.S).length * (SX.S a).length ≤ 16777216 then some (false, D.str (Txt.join (SX.S a) (l.map SX.S))) else none) = _
  rw [SX.lens, List.length_map, SX.S_len, if_pos (by omega), SX.join_S])
theorem p_splitS {c : Nat} (hc : c < 256) (hl : a.length ≤ 100000) : prm .split [tx a, tx [c]] = .ok (.lst ((TL.spl [c] 0 [] a).map tx)) := prm_of (fl := true) (by
  show (if ((SX.S [c]).length == 0) = false ∧ (SX.S a).length + 2 ≤ sizeLine then some (true, D.lst ((Txt.split (SX.S a) (SX.S [c])).map D.str)) else none) = _
  rw [SX.S_len, SX.S_len, if_pos ⟨rfl, Nat.le_trans (Nat.add_le_add_right hl 2) (by decide)⟩, SX.split_S (by simp) (by simp [hc]), List.map_map]
  rfl)
theorem p_toS {k : Nat} (hl : a.length ≤ 100000) : prm (.slo false true) [tx a, .int (k : Nat)] = .ok (tx (a.take k)) := prm_of (fl := false) (by
  show (if (SX.S a).length ≤ sizeLine then some (false, D.str (L2.cutS (SX.S a) none (some (k : Int)))) else none) = _
  rw [SX.S_len, if_pos (sl4 hl), C8.cutS_slice, SX.slice_to (by omega), Int.toNat_natCast])
theorem p_fromS {k : Nat} (hl : a.length ≤ 100000) : prm (.slo true false) [tx a, .int (k : Nat)] = .ok (tx (a.drop k)) := prm_of (fl := false) (by
  show (if (SX.S a).length ≤ sizeLine then some (false, D.str (L2.cutS (SX.S a) (some (k : Int)) none)) else none) = _
  rw [SX.S_len, if_pos (sl4 hl), C8.cutS_slice, SX.slice_from (by omega), Int.toNat_natCast])
theorem p_lenS (hl : a.length ≤ 100000) : prm .len [tx a] = .ok (.int a.length) := prm_of (fl := false) (by
  show (if (SX.S a).length ≤ sizeLine then some (false, D.int (SX.S a).length) else none) = _
  rw [SX.S_len, if_pos (sl4 hl)])
theorem p_intS (h : a.length ≤ 640) (e : intText? (SX.S a) = some i) : prm .int [tx a] = .ok (.int i) := prm_of (fl := false) (by
  show (match intText? (SX.S a) with | some n => if (SX.S a).length ≤ 640 then some (false, D.int n) else none | none => none) = _
  rw [e]
  show (if (SX.S a).length ≤ 640 then some (false, D.int i) else none) = _
  rw [SX.S_len, if_pos h])
theorem p_inS {c : Nat} : prm .isIn [tx [c], tx a] = .ok (.bl (decide (c ∈ a))) := prm_of (fl := false) (by
  have e : inD (tx [c]) (tx a) = some (!(Builtin.Str.occurrences (SX.S a) (SX.S [c]) 0 (SX.S a).length 1).isEmpty) := by
    unfold inD; rfl
  show (inD (tx [c]) (tx a)).map (fun c => (false, D.bl c)) = _
  rw [e, SX.in_one]; rfl)
@[simp] theorem isS_tx : isS (tx a) = .ok () := nr rfl
theorem items_S : itemsM (tx a) = .ok (a.map fun c => tx [c]) := rfl
end
end M

set_option Elab.async false
set_option linter.all false
set_option maxRecDepth 100000
set_option maxHeartbeats 4000000
/-! S5: the lot's text written and read, in plain Lean. -/
namespace M
open PySem
def bigL : Nat := 10 ^ 30
theorem num31 {i : Int} (h : i.natAbs < bigL) : (numI i).length ≤ 31 := numI_len (k := 30) (by decide) h
theorem lt1920 {i : Int} (h : i.natAbs < bigL) : i.natAbs < 2 ^ 1920 := Nat.lt_trans h (by decide)
theorem m_wi {i : Int} (h : i.natAbs < bigL) : m_written_integer (tx (numI i)) = .ok (.int i) := by
  have hl := num31 h
  have e1 : prm (.slo false true) [tx (numI i), .int 1] = .ok (tx ((numI i).take 1)) := p_toS (k := 1) (by omega)
  have e2 : prm (.slo true false) [tx (numI i), .int 1] = .ok (tx ((numI i).drop 1)) := p_fromS (k := 1) (by omega)
  have e3 : (if decide ((numI i).take 1 = [45]) then (Mo.ok (tx ((numI i).drop 1))) else Mo.ok (tx (numI i))) = .ok (tx (TL.numL i.natAbs)) := by
    unfold numI
    by_cases hi : i < 0
    · simp [hi]
    · have hn : ¬ ((TL.numL i.natAbs).take 1 = [45]) := by
        intro z
        have hm : 45 ∈ TL.numL i.natAbs := List.mem_of_mem_take (by rw [z]; simp)
        exact TL.numL_free (by omega) hm
      simp [hi, hn]
  have hr : (TL.numL i.natAbs).length ≤ 31 := by
    have z := TL.numL_len (k := 30) (by decide) h; omega
  have c45 : Cps [45] := by intro c hc; simp at hc; omega
  have c0 : Cps [] := by intro c hc; simp at hc
  have e4 : ¬ (TL.numL i.natAbs = []) := TL.numL_ne _
  have e5 : ¬ ((4000 : Int) < ((TL.numL i.natAbs).length : Nat)) := by omega
  have e6 : (D.str "-") = tx [45] := rfl
  have e7 : (D.str "") = tx [] := rfl
  have e8 : (D.str "0123456789") = tx [48, 49, 50, 51, 52, 53, 54, 55, 56, 57] := rfl
  have e9 : prm .int [tx (numI i)] = .ok (.int i) := p_intS (by omega) (numI_int (by omega))
  unfold m_written_integer
  simp only [ok_bind, e1, e2, e6, e7, e8, p_eqS ((cps_num i).take 1) c45, p_eqS (cps_nat i.natAbs) c0, tru_bl, e3, decide_eq_false e4, Bool.false_eq_true, if_false, p_lenS (show (TL.numL i.natAbs).length ≤ 100000 by omega), p_gt, decide_eq_false e5, items_S]
  rw [mapL_ok (g := fun _ => .bl true) (sz (by omega)) (fun c hc => by
    have hd := TL.numL_digits _ c hc
    have : c ∈ [48, 49, 50, 51, 52, 53, 54, 55, 56, 57] := by
      have : c = 48 ∨ c = 49 ∨ c = 50 ∨ c = 51 ∨ c = 52 ∨ c = 53 ∨ c = 54 ∨ c = 55 ∨ c = 56 ∨ c = 57 := by omega
      simp; omega
    simp only [ok_bind, p_inS, decide_eq_true this])]
  simp only [ok_bind, p_all, tru_bl, Bool.not_true, Bool.false_eq_true, if_false, e9, p_strI (lt1920 h), p_eqS (cps_num i) (cps_num i), decide_true, if_true]
/-! rows -/
def rowT (r : List Int) : List Nat := TL.joinL [32] (r.map numI)
theorem sum_le {k : Nat} : ∀ {l : List (List Nat)}, (∀ x ∈ l, x.length ≤ k) → (l.map (·.length)).sum ≤ l.length * k
  | [], _ => by simp
  | x :: l, h => by
    have h1 := h x (List.mem_cons_self ..)
    have h2 := sum_le fun y hy => h y (List.mem_cons_of_mem _ hy)
    rw [List.map_cons, List.sum_cons, List.length_cons, Nat.succ_mul]; omega
theorem joinL_len (a : List Nat) : ∀ l : List (List Nat), (TL.joinL a l).length ≤ (l.map (·.length)).sum + l.length * a.length
  | [] => by simp [TL.joinL]
  | [p] => by simp [TL.joinL]
  | p :: q :: r => by
    have h := joinL_len a (q :: r)
    rw [TL.joinL, List.length_append, List.length_append, List.map_cons, List.sum_cons, List.length_cons, Nat.succ_mul]; omega
theorem joinL_mem {a : List Nat} {c : Nat} : ∀ {l : List (List Nat)}, c ∈ TL.joinL a l → c ∈ a ∨ ∃ p ∈ l, c ∈ p
  | [], h => by simp [TL.joinL] at h
  | [p], h => .inr ⟨p, by simp, h⟩
  | p :: q :: r, h => by
    rw [TL.joinL, List.mem_append, List.mem_append] at h
    rcases h with h | h | h
    · exact .inr ⟨p, by simp, h⟩
    · exact .inl h
    · rcases joinL_mem h with h | ⟨z, hz, h⟩
      · exact .inl h
      · exact .inr ⟨z, List.mem_cons_of_mem _ hz, h⟩
/-- rows of numbers that are not too long -/
structure RowOk (r : List Int) : Prop where
  ne : r ≠ []
  few : r.length ≤ 100
  sm : ∀ x ∈ r, x.natAbs < bigL
theorem rowT_len {r : List Int} (h : RowOk r) : (rowT r).length ≤ 3200 := by
  have h1 := joinL_len [32] (r.map numI)
  have h2 := sum_le (k := 31) (l := r.map numI) (fun x hx => by
    obtain ⟨i, hi, rfl⟩ := List.mem_map.1 hx
    exact num31 (h.sm i hi))
  have h3 := h.few
  rw [List.length_map] at h1 h2
  show (TL.joinL [32] (r.map numI)).length ≤ _
  simp only [List.length_cons, List.length_nil] at h1
  omega
theorem rowT_free {r : List Int} {c : Nat} (hc : c ≠ 32 ∧ c ≠ 45 ∧ (c < 48 ∨ 57 < c)) : c ∉ rowT r := by
  intro h
  rcases joinL_mem h with h | ⟨p, hp, h⟩
  · simp at h; omega
  · obtain ⟨i, hi, rfl⟩ := List.mem_map.1 hp
    have := numI_mem h
    omega
theorem row_sum {r : List Int} (h : RowOk r) : ((r.map numI).map (·.length)).sum + (r.map numI).length * [32].length ≤ 100000 := by
  have h2 := sum_le (k := 31) (l := r.map numI) (fun x hx => by
    obtain ⟨i, hi, rfl⟩ := List.mem_map.1 hx
    exact num31 (h.sm i hi))
  have h3 := h.few
  rw [List.length_map] at h2 ⊢
  simp only [List.length_cons, List.length_nil]
  omega
theorem spl_row {r : List Int} (h : RowOk r) : TL.spl [32] 0 [] (rowT r) = r.map numI := by
  refine SX.spl_join (fun z => h.ne (List.map_eq_nil_iff.1 z)) (fun p hp => ?_)
  obtain ⟨i, hi, rfl⟩ := List.mem_map.1 hp
  intro hm
  have := numI_mem hm
  omega
theorem m_trow {r : List Int} (h : RowOk r) : m_text_row (tx (rowT r)) = .ok (dR r) := by
  have e1 : (D.str " ") = tx [32] := rfl
  have hf := h.few
  have e2 : prm .split [tx (rowT r), tx [32]] = .ok (.lst ((r.map numI).map tx)) := by
    rw [p_splitS (by decide) (by have := rowT_len h; omega), spl_row h]
  unfold m_text_row
  simp only [ok_bind, isS_tx, e1, e2, itemsM_lst, List.map_map]
  rw [mapL_ok (h := tx ∘ numI) (g := D.int) (sz (by omega)) (fun i hi => m_wi (h.sm i hi))]
  simp only [ok_bind, p_tupleL]; rfl
/-! lines -/
def wordTable : List Nat := [116, 97, 98, 108, 101]
def wordLot : List Nat := [108, 111, 116, 32]
def blockT (A : Tb) : List (List Nat) := wordTable :: A.map rowT
def linesT (m : Nat) (ts : List Tb) : List (List Nat) := (wordLot ++ numI (m : Nat)) :: ts.flatMap blockT
def sheetT (m : Nat) (ts : List Tb) : List Nat := TL.joinL [10] (linesT m ts)
theorem lotRow {m : Nat} {ts : List Tb} (h : LotOk m ts) {A : Tb} (hA : A ∈ ts) {r : List Int} (hr : r ∈ A) : RowOk r := by
  have t := h.tb A hA
  have hl := t.row r hr
  have h1 := t.lo
  have h2 := t.hi
  refine ⟨fun z => by rw [z] at hl; simp at hl; omega, by omega, fun x hx => ?_⟩
  have := t.sm r hr x hx
  have e : bigL = 1000000000000000000000000000000 := by decide
  rw [e]; omega
theorem m_lines {m : Nat} {ts : List Tb} (h : LotOk m ts) : m__law_lines (dL ts) = .ok (.lst ((linesT m ts).map tx)) := by
  obtain ⟨A0, ts', hts⟩ : ∃ a l, ts = a :: l := by
    cases ts with
    | nil => exact absurd rfl h.ne
    | cons a l => exact ⟨a, l, rfl⟩
  have hA0 := h.tb A0 (by rw [hts]; exact List.mem_cons_self ..)
  have hm := hA0.hi
  have hf := h.few
  have h0 : prm .idx [dL ts, .int 0] = .ok (dT A0) := by rw [hts]; unfold dL; simp
  have e1 : (D.str "lot ") = tx wordLot := rfl
  have e2 : (D.str "table") = tx wordTable := rfl
  have e3 : (D.str " ") = tx [32] := rfl
  have hmb : ((m : Nat) : Int).natAbs < bigL := by
    have e : bigL = 1000000000000000000000000000000 := by decide
    rw [e]; omega
  have e4 : prm .add [tx wordLot, tx (numI (m : Nat))] = .ok (tx (wordLot ++ numI (m : Nat))) := p_addS (by have := num31 hmb; unfold wordLot; simp; omega)
  have e5 : itemsM (dL ts) = .ok (ts.map dT) := rfl
  unfold m__law_lines
  simp only [ok_bind, e1, h0, len_dT, hA0.len, p_strI (lt1920 hmb), e4, lst1, e5, e2, e3]
  obtain ⟨e6, _⟩ := foldN_fun (f := fun v11 v12 => (Mo.ok v12) >>= fun v13 => ((((.ok v11) >>= fun v14 => ((((.ok (tx wordTable)) >>= fun v15 => (.ok []) >>= fun v16 => .ok (v15 :: v16)) >>= lstM) >>= fun v17 => (prm .add [v14, v17]))) >>= fun v18 => ((((.ok v13) >>= fun v19 => (itemsM v19)) >>= fun v20 => (mapL (fun v21 => (.ok v21) >>= fun v22 => ((.ok (tx [32])) >>= fun v23 => (isS v23 >>= fun _ => ((((.ok v22) >>= fun v24 => (itemsM v24)) >>= fun v25 => (mapL (fun v26 => (.ok v26) >>= fun v27 => ((.ok v27) >>= fun v28 => (prm .strI [v28]))) v25 >>= fun l => .ok (D.lst l))) >>= fun v29 => (prm .join [v23, v29]))))) v20 >>= fun l => .ok (D.lst l))) >>= fun v30 => (prm .add [v18, v30]))) >>= fun v31 => (.ok v31))) (h := dT) (F := fun l => D.lst (l.map tx)) (g := fun l A => l ++ blockT A) (xs := ts) (u := [wordLot ++ numI (m : Nat)]) (fun acc l => l.length = 1 + acc.length * (m + 1)) (by simp) (fun A acc l rest hf2 hu => by
    have hA : A ∈ ts := by rw [← hf2]; simp
    have hT := h.tb A hA
    have hacc : acc.length ≤ 2 := by
      have : acc.length + 1 ≤ ts.length := by rw [← hf2]; simp
      omega
    have hl : l.length ≤ 100 := by
      have h5 : acc.length * (m + 1) ≤ 2 * 5 := Nat.mul_le_mul hacc (by omega)
      omega
    have hAl := hT.len
    constructor
    · have x1 : prm .add [.lst (l.map tx), .lst [tx wordTable]] = .ok (.lst ((l ++ [wordTable]).map tx)) := prm_of (fl := true) (by
        show (if (l.map tx).length + [tx wordTable].length ≤ sizeLine then some (true, D.lst (l.map tx ++ [tx wordTable])) else none) = _
        rw [if_pos (sz (by simp; omega)), List.map_append]; rfl)
      have x2 : prm .add [.lst ((l ++ [wordTable]).map tx), .lst ((A.map rowT).map tx)] = .ok (.lst ((l ++ blockT A).map tx)) := prm_of (fl := true) (by
        show (if ((l ++ [wordTable]).map tx).length + ((A.map rowT).map tx).length ≤ sizeLine then some (true, D.lst ((l ++ [wordTable]).map tx ++ (A.map rowT).map tx)) else none) = _
        rw [if_pos (sz (by simp; omega)), ← List.map_append, List.append_assoc]; rfl)
      have x3 : itemsM (dT A) = .ok (A.map dR) := rfl
      simp only [ok_bind, lst1, x1, x3]
      rw [mapL_ok (g := fun r => tx (rowT r)) (sz (by omega)) (fun r hr => by
        have hR := lotRow h hA hr
        have x4 : itemsM (dR r) = .ok (r.map D.int) := rfl
        simp only [ok_bind, isS_tx, x4]
        rw [mapL_ok (g := fun i => tx (numI i)) (sz (by have := hR.few; omega)) (fun i hi => p_strI (lt1920 (hR.sm i hi)))]
        have x5 : (r.map fun i => tx (numI i)) = (r.map numI).map tx := by rw [List.map_map]; rfl
        simp only [ok_bind, x5]
        exact p_joinS (row_sum hR))]
      have x6 : (A.map fun r => tx (rowT r)) = (A.map rowT).map tx := by rw [List.map_map]; rfl
      simp only [ok_bind, x6, x2]
    · rw [List.length_append, hu, List.length_append, blockT, List.length_cons, List.length_map, hAl, List.length_singleton, Nat.add_mul]; omega)
  have e7 : ∀ (xs : List Tb) (u : List (List Nat)), xs.foldl (fun l A => l ++ blockT A) u = u ++ xs.flatMap blockT := by
    intro xs
    induction xs with
    | nil => intro u; simp
    | cons x xs ih => intro u; rw [List.foldl_cons, ih, List.flatMap_cons, List.append_assoc]
  rw [e7] at e6
  simp only [ok_bind, bind_ok, List.map_cons, List.map_nil] at e6 ⊢
  exact e6
end M

set_option Elab.async false
set_option linter.all false
set_option maxRecDepth 100000
set_option maxHeartbeats 4000000
/-! S6: a lot of its text; lots built; draws of tables and words; the laws' own products. -/
namespace M
open PySem
theorem foldB_rngA {σ ρ : Type} {f : σ → D → Mo (Fl σ ρ)} {S : Nat → σ} {h : Nat → D} : ∀ (n s : Nat), (∀ k, s ≤ k → k < s + n → f (S k) (h k) = .ok (.nx (S (k + 1)))) → foldB f (S s) ((List.range' s n).map h) = .ok (.nx (S (s + n)))
  | 0, s, _ => rfl
  | n + 1, s, e => by
    rw [List.range'_succ, List.map_cons, foldB, e s (Nat.le_refl _) (by omega), ok_bind]
    have z := foldB_rngA n (s + 1) fun k h1 h2 => e k (by omega) (by omega)
    rw [show s + 1 + n = s + (n + 1) by omega] at z
    exact z
theorem foldB_rng {σ ρ : Type} {f : σ → D → Mo (Fl σ ρ)} {h : Nat → D} (S : Nat → σ) {n : Nat} (e : ∀ k, k < n → f (S k) (h k) = .ok (.nx (S (k + 1)))) : foldB f (S 0) ((List.range n).map h) = .ok (.nx (S n)) := by
  have z := foldB_rngA (f := f) (S := S) (h := h) n 0 fun k _ h2 => e k (by omega)
  rw [Nat.zero_add, ← List.range_eq_range'] at z
  exact z
theorem app_ok {l : List D} {d : D} (h : l.length ≤ 10000) : appM (.lst l) d = .ok (.lst (l ++ [d])) := if_pos (Nat.lt_of_le_of_lt h (by decide))
theorem take_succ' {α : Type} (f : α → D) (l : List α) (k : Nat) (a : α) (h : l[k]? = some a) : (l.take k).map f ++ [f a] = (l.take (k + 1)).map f := by
  rw [List.take_succ, h, List.map_append]; rfl
section
variable {m : Nat} {ts : List Tb}
theorem blk_len (h : LotOk m ts) {A : Tb} (hA : A ∈ ts) : (blockT A).length = m + 1 := by
  rw [blockT, List.length_cons, List.length_map, (h.tb A hA).len]
theorem flat_len {m : Nat} : ∀ {ts : List Tb}, (∀ A ∈ ts, (blockT A).length = m + 1) → (ts.flatMap blockT).length = ts.length * (m + 1)
  | [], _ => by simp
  | A :: ts, h => by
    rw [List.flatMap_cons, List.length_append, h A (List.mem_cons_self ..), flat_len fun B hB => h B (List.mem_cons_of_mem _ hB), List.length_cons, Nat.succ_mul]; omega
theorem flat_drop {m : Nat} : ∀ (k : Nat) {ts : List Tb}, (∀ A ∈ ts, (blockT A).length = m + 1) → (ts.flatMap blockT).drop (k * (m + 1)) = (ts.drop k).flatMap blockT
  | 0, ts, _ => by simp
  | k + 1, [], _ => by simp
  | k + 1, A :: ts, h => by
    rw [List.flatMap_cons, List.drop_succ_cons, ← flat_drop k fun B hB => h B (List.mem_cons_of_mem _ hB), Nat.succ_mul, Nat.add_comm, ← List.drop_drop]
    congr 1
    rw [← h A (List.mem_cons_self ..), List.drop_left]
theorem lines_len (h : LotOk m ts) : (linesT m ts).length = 1 + ts.length * (m + 1) := by
  rw [linesT, List.length_cons, flat_len fun A hA => blk_len h hA]; omega
theorem LotOk.sz (h : LotOk m ts) : 1 ≤ m ∧ m ≤ 4 := by
  obtain ⟨A0, ts', hts⟩ : ∃ a l, ts = a :: l := by
    cases ts with
    | nil => exact absurd rfl h.ne
    | cons a l => exact ⟨a, l, rfl⟩
  have hA0 := h.tb A0 (by rw [hts]; exact List.mem_cons_self ..)
  exact ⟨hA0.lo, hA0.hi⟩
theorem lines_few (h : LotOk m ts) : (linesT m ts).length ≤ 16 := by
  rw [lines_len h]
  have h1 := h.few
  have h2 := h.sz
  have h5 : ts.length * (m + 1) ≤ 3 * 5 := Nat.mul_le_mul h1 (by omega)
  omega
theorem msm {m : Nat} (h : m ≤ 100000) : ((m : Nat) : Int).natAbs < bigL := by
  have e : bigL = 1000000000000000000000000000000 := by decide
  rw [e]; omega
theorem line_mem (h : LotOk m ts) {p : List Nat} (hp : p ∈ linesT m ts) : p = wordLot ++ numI (m : Nat) ∨ p = wordTable ∨ ∃ r, RowOk r ∧ p = rowT r := by
  rw [linesT, List.mem_cons] at hp
  rcases hp with hp | hp
  · exact .inl hp
  · obtain ⟨A, hA, hp⟩ := List.mem_flatMap.1 hp
    rw [blockT, List.mem_cons] at hp
    rcases hp with hp | hp
    · exact .inr (.inl hp)
    · obtain ⟨r, hr, rfl⟩ := List.mem_map.1 hp
      exact .inr (.inr ⟨r, lotRow h hA hr, rfl⟩)
theorem line_free (h : LotOk m ts) : ∀ p ∈ linesT m ts, 10 ∉ p := by
  intro p hp
  rcases line_mem h hp with rfl | rfl | ⟨r, hr, rfl⟩
  · intro hm
    rcases List.mem_append.1 hm with hm | hm
    · simp [wordLot] at hm
    · have := numI_mem hm; omega
  · simp [wordTable]
  · exact rowT_free (by decide)
theorem line_len (h : LotOk m ts) : ∀ p ∈ linesT m ts, p.length ≤ 3200 := by
  intro p hp
  have h2 := h.sz
  rcases line_mem h hp with rfl | rfl | ⟨r, hr, rfl⟩
  · rw [List.length_append]
    have := num31 (msm (m := m) (by omega))
    have e : wordLot.length = 4 := rfl
    omega
  · decide
  · exact rowT_len hr
theorem line_sum (h : LotOk m ts) : ((linesT m ts).map (·.length)).sum + (linesT m ts).length * [10].length ≤ 100000 := by
  have h1 := sum_le (line_len h)
  have h2 := lines_few h
  have h3 : (linesT m ts).length * 3200 ≤ 16 * 3200 := Nat.mul_le_mul_right _ h2
  simp only [List.length_cons, List.length_nil]
  omega
theorem sheet_len (h : LotOk m ts) : (sheetT m ts).length ≤ 100000 := Nat.le_trans (joinL_len [10] (linesT m ts)) (line_sum h)
theorem m_sheet (h : LotOk m ts) : m__law_sheet (dL ts) = .ok (tx (sheetT m ts)) := by
  have e1 : (D.str "\n") = tx [10] := rfl
  unfold m__law_sheet
  simp only [ok_bind, e1, isS_tx, m_lines h]
  exact p_joinS (line_sum h)
theorem spl_sheet (h : LotOk m ts) : TL.spl [10] 0 [] (sheetT m ts) = linesT m ts := SX.spl_join (by simp [linesT]) (line_free h)
theorem at_k (h : LotOk m ts) {k : Nat} {A : Tb} (hk : ts[k]? = some A) : ∃ rest, (linesT m ts).drop (1 + k * (m + 1)) = wordTable :: (A.map rowT ++ rest) := by
  refine ⟨(ts.drop (k + 1)).flatMap blockT, ?_⟩
  have hlt : k < ts.length := (List.getElem?_eq_some_iff.1 hk).1
  have hA : ts[k] = A := (List.getElem?_eq_some_iff.1 hk).2
  rw [linesT, Nat.add_comm 1, List.drop_succ_cons, flat_drop k fun A hA => blk_len h hA, List.drop_eq_getElem_cons hlt, hA, List.flatMap_cons]
  rfl
theorem m_tlot (h : LotOk m ts) : m_text_lot (tx (sheetT m ts)) = .ok (dO ts) := by
  have hs := h.sz
  have hf := h.few
  have hn := lines_len h
  have hne : 1 ≤ ts.length := List.length_pos_iff.2 h.ne
  have e1 : (D.str "\n") = tx [10] := rfl
  have e2 : (D.str "lot ") = tx wordLot := rfl
  have e3 : (D.str "table") = tx wordTable := rfl
  have e0 : prm (.isi "str") [tx (sheetT m ts)] = .ok (.bl true) := rfl
  have e4 : prm .split [tx (sheetT m ts), tx [10]] = .ok (.lst ((linesT m ts).map tx)) := by
    rw [p_splitS (by decide) (sheet_len h), spl_sheet h]
  have e5 : prm .idx [.lst ((linesT m ts).map tx), .int 0] = .ok (tx (wordLot ++ numI (m : Nat))) := by rw [linesT, List.map_cons]; exact p_idx0L
  have hm := msm (m := m) (by omega)
  have hl4 : (wordLot ++ numI (m : Nat)).length ≤ 100000 := by
    rw [List.length_append]
    have := num31 hm
    have e : wordLot.length = 4 := rfl
    omega
  have e6 : prm (.slo false true) [tx (wordLot ++ numI (m : Nat)), .int 4] = .ok (tx wordLot) := p_toS (k := 4) hl4
  have e7 : prm (.slo true false) [tx (wordLot ++ numI (m : Nat)), .int 4] = .ok (tx (numI (m : Nat))) := p_fromS (k := 4) hl4
  have cw : Cps wordLot := by intro c hc; simp [wordLot] at hc; omega
  have ct : Cps wordTable := by intro c hc; simp [wordTable] at hc; omega
  have e8 : prm .eq [tx wordLot, tx wordLot] = .ok (.bl true) := by rw [p_eqS cw cw]; simp
  have c1 : (1 : Int) ≤ (m : Int) := by omega
  have c4 : (m : Int) ≤ 4 := by omega
  have e9 : prm .mod [.int ((linesT m ts).length : Nat), .int ((m : Int) + 1)] = .ok (.int 1) := by
    rw [p_mod (by omega), hn]
    congr 2
    have x : ((1 + ts.length * (m + 1) : Nat) : Int) = 1 + (ts.length : Int) * ((m : Int) + 1) := by simp
    rw [x, Int.add_mul_emod_self_right]
    exact Int.emod_eq_of_lt (by omega) (by omega)
  have e10 : optM (rng3F [.int 1, .int ((linesT m ts).length : Nat), .int ((m : Int) + 1)]) = .ok ((List.range ts.length).map fun (k : Nat) => D.int ((1 + k * (m + 1) : Nat) : Int)) := by
    have i1 : inR 1 = true := inR_nat (m := 1) (by decide)
    have i2 : inR ((linesT m ts).length : Nat) = true := inR_nat (by have := lines_few h; omega)
    show optM (if inR 1 && inR ((linesT m ts).length : Nat) && decide ((0 : Int) < (m : Int) + 1) && decide ((m : Int) + 1 < 1000000) then some (rngC 1 ((m : Int) + 1) (Builtin.Range.rangeSize 1 ((linesT m ts).length : Nat) ((m : Int) + 1)).toNat) else none) = _
    rw [i1, i2, decide_eq_true (show (0 : Int) < (m : Int) + 1 by omega), decide_eq_true (show (m : Int) + 1 < 1000000 by omega), if_pos (show (true && true && true && true) = true from rfl)]
    have x : (Builtin.Range.rangeSize 1 ((linesT m ts).length : Nat) ((m : Int) + 1)).toNat = ts.length := by
      unfold Builtin.Range.rangeSize
      have y : ((linesT m ts).length : Int) = 1 + (ts.length : Int) * ((m : Int) + 1) := by rw [hn]; simp
      have hp : (0 : Int) < (ts.length : Int) * ((m : Int) + 1) := Int.mul_pos (by omega) (by omega)
      rw [if_pos (by omega), if_pos (by omega), y]
      have z : (1 + (ts.length : Int) * ((m : Int) + 1) - 1 - 1) = ((m : Int)) + ((ts.length : Int) - 1) * ((m : Int) + 1) := by rw [Int.sub_mul]; omega
      rw [z, Int.add_mul_ediv_right _ _ (by omega), Int.ediv_eq_zero_of_lt (by omega) (by omega)]
      omega
    rw [x]
    show Mo.ok (rngC 1 _ _) = _
    unfold rngC
    refine congrArg Mo.ok (List.map_congr_left fun k _ => ?_)
    simp
  obtain ⟨A0, ts', hts⟩ : ∃ a l, ts = a :: l := by
    cases ts with
    | nil => exact absurd rfl h.ne
    | cons a l => exact ⟨a, l, rfl⟩
  have hA0 := h.tb A0 (by rw [hts]; exact List.mem_cons_self ..)
  have e11 : prm .idx [.lst (ts.map dT), .int 0] = .ok (dT A0) := by rw [hts, List.map_cons]; exact p_idx0L
  have e12 : m_wrong_table (.tup (ts.map dT)) = .ok .non := m_wrongT h
  have e13 : m_Lot_init (.tup (ts.map dT)) = .ok [dL ts] := m_Lot h
  have e14 : foldB (ρ := D) (fun v49 v50 => (.ok v50) >>= fun v51 => (((((Mo.ok (.lst ((linesT m ts).map tx))) >>= fun v52 => ((.ok v51) >>= fun v53 => (prm .idx [v52, v53]))) >>= fun v54 => ((.ok (tx wordTable)) >>= fun v55 => (prm .ne [v54, v55]))) >>= fun v56 => (tru v56)) >>= fun v57 => if v57 then ((.ok D.non) >>= fun v58 => .ok (.ret v58)) else ((((((.ok (.lst ((linesT m ts).map tx))) >>= fun v59 => (((.ok v51) >>= fun v60 => ((.ok (D.int 1)) >>= fun v61 => (prm .add [v60, v61]))) >>= fun v62 => ((((.ok v51) >>= fun v63 => ((.ok (D.int 1)) >>= fun v64 => (prm .add [v63, v64]))) >>= fun v65 => ((.ok (D.int (m : Nat))) >>= fun v66 => (prm .add [v65, v66]))) >>= fun v67 => (prm (.slo true true) [v59, v62, v67])))) >>= fun v68 => (itemsM v68)) >>= fun v69 => (mapL (fun v70 => (.ok v70) >>= fun v71 => ((.ok v71) >>= fun v72 => (m_text_row v72))) v69 >>= fun l => .ok (D.lst l))) >>= fun v73 => (prm .tuple [v73])) >>= fun v74 => appM v49 v74 >>= fun v75 => (.ok (.nx v75))))) (D.lst []) ((List.range ts.length).map fun (k : Nat) => D.int ((1 + k * (m + 1) : Nat) : Int)) = .ok (.nx (.lst (ts.map dT))) := by
    refine (foldB_rng (n := ts.length) (fun k => D.lst ((ts.take k).map dT)) fun k hk => ?_).trans (by simp only [List.take_length])
    obtain ⟨A, hA⟩ : ∃ A, ts[k]? = some A := ⟨ts[k], List.getElem?_eq_getElem hk⟩
    obtain ⟨rest, hr⟩ := at_k h hA
    have hmem := List.mem_of_getElem? hA
    have hT := h.tb A hmem
    have hAl := hT.len
    have hdl : (linesT m ts).length = 1 + k * (m + 1) + (1 + (m + rest.length)) := by
      have z := congrArg List.length hr
      rw [List.length_drop, List.length_cons, List.length_append, List.length_map, hAl] at z
      omega
    have y1 : prm .idx [.lst ((linesT m ts).map tx), .int ((1 + k * (m + 1) : Nat) : Int)] = .ok (tx wordTable) := by
      refine p_idxL ?_
      have z := congrArg (fun l => l[0]?) hr
      simp only [List.getElem?_drop, List.getElem?_cons_zero, Nat.add_zero] at z
      rw [List.getElem?_map, z]; rfl
    have y2 : prm .ne [tx wordTable, tx wordTable] = .ok (.bl false) := by rw [p_neS ct ct]; simp
    have y3 : prm (.slo true true) [.lst ((linesT m ts).map tx), .int (((1 + k * (m + 1) : Nat) : Int) + 1), .int (((1 + k * (m + 1) : Nat) : Int) + 1 + (m : Int))] = .ok (.lst ((A.map rowT).map tx)) := prm_of (fl := true) (by
      show some (true, D.lst (cutL ((linesT m ts).map tx) (some (((1 + k * (m + 1) : Nat) : Int) + 1)) (some (((1 + k * (m + 1) : Nat) : Int) + 1 + (m : Int))))) = _
      have c1 : ((1 + k * (m + 1) : Nat) : Int) + 1 = ((1 + k * (m + 1) + 1 : Nat) : Int) := by simp
      have c2 : ((1 + k * (m + 1) : Nat) : Int) + 1 + (m : Int) = ((1 + k * (m + 1) + 1 + m : Nat) : Int) := by simp
      rw [c2, c1]
      unfold cutL
      rw [HT.sIx_nat, HT.sIx_nat, List.length_map, Nat.min_eq_left (by omega), Nat.min_eq_left (by omega), ← List.map_drop, ← List.map_take, ← List.drop_drop, hr, show 1 + k * (m + 1) + 1 + m - (1 + k * (m + 1) + 1) = m by omega, List.drop_succ_cons, List.drop_zero]
      have z : (A.map rowT ++ rest).take m = A.map rowT := by
        have q : m = (A.map rowT).length := by rw [List.length_map, hAl]
        rw [q, List.take_left]
      rw [z])
    simp only [ok_bind, y1, y2, tru_bl, Bool.false_eq_true, if_false, p_add, y3, itemsM_lst]
    rw [List.map_map, mapL_ok (h := tx ∘ rowT) (g := dR) (sz (by omega)) (fun r hr => m_trow (lotRow h hmem hr))]
    simp only [ok_bind, p_tupleL]
    rw [app_ok (by rw [List.length_map, List.length_take]; omega), ok_bind]
    have z := take_succ' dT ts k A hA
    rw [← z]; rfl
  have c10 : ¬ ((1 : Int) ≠ 1) := by simp
  unfold m_text_lot
  simp only [ok_bind, e0, tru_bl, Bool.not_true, Bool.false_eq_true, if_false, isS_tx, e1, e4, e5, e6, e2, e8, if_true, e7, m_wi hm, p_isN, isNon_int, p_le, isB_bl, pV_le, decide_eq_true c1, decide_eq_true c4, p_lenL, List.length_map, p_add, e9, p_ne, decide_true, lst0, e10, e3]
  simp only [ok_bind] at e14
  simp only [e14, ok_bind, Fl.on, p_tupleL, e12, p_notN, isNon_non, Bool.not_true, tru_bl, Bool.false_eq_true, if_false, e11, len_dT, hA0.len, p_ne, decide_true, e13]
  rfl
theorem m_read (h : LotOk m ts) : m_Lot_read (.cls 0) (tx (sheetT m ts)) = .ok (dO ts) := by
  unfold m_Lot_read
  simp only [ok_bind, m_tlot h, p_isN]
  rfl
theorem m_built {p : D} {k : Nat} (h : LotOk m ts) (hp : Pl k p) (hk : k ≤ 1000000) : ∃ p', m__law_built p (dL ts) = .ok (dO ts, p') ∧ Pl (k + 1) p' := by
  obtain ⟨v, p1, e1, hv, h1⟩ := m_cast (m := 3) hp hk ⟨by decide, by decide⟩
  refine ⟨p1, ?_, h1⟩
  unfold m__law_built
  simp only [ok_bind, e1, p_eq, tru_bl, m_Lot h, m_sheet h, m_read h]
  by_cases c0 : v = 0
  · subst c0; rfl
  · by_cases c1 : v = 1
    · subst c1; rfl
    · simp only [c0, c1, decide_false, Bool.false_eq_true, if_false, ok_bind]
end
end M

set_option Elab.async false
set_option linter.all false
set_option maxRecDepth 100000
set_option maxHeartbeats 4000000
/-! S7: repr of data; draws of numbers, tables, words. -/
namespace M
open PySem
/-! ### repr -/
def Tq (n : Nat) (x : Str) : Prop := Cps (TL.tl x) ∧ (TL.tl x).length ≤ n
theorem Tq.mono {n k : Nat} {x : Str} (h : Tq n x) (l : n ≤ k) : Tq k x := ⟨h.1, Nat.le_trans h.2 l⟩
theorem Tq.app {n k : Nat} {x y : Str} (h : Tq n x) (h' : Tq k y) : Tq (n + k) (x ++ y) := by
  unfold Tq
  rw [TL.tl_append]
  exact ⟨h.1.app h'.1, by rw [List.length_append]; exact Nat.add_le_add h.2 h'.2⟩
theorem Tq.from {n : Nat} : ∀ {ts : List Str} {k a : Nat} {acc : Str}, Tq a acc → (∀ t ∈ ts, Tq n t) → Tq (a + ts.length * (n + 2)) (textFrom k acc ts)
  | [], k, a, acc, ha, _ => ha.mono (by omega)
  | t :: r, k, a, acc, ha, h => by
    have h1 := h t (by simp)
    have hs : Tq 2 (((if k > 0 then ", " else "" : String) : String) : Str) := by
      unfold Tq
      rw [TL.tl_ofString]
      by_cases hk : k > 0
      · rw [if_pos hk]; exact ⟨by intro c hc; simp at hc; omega, by decide⟩
      · rw [if_neg hk]; exact ⟨by intro c hc; simp at hc, by decide⟩
    refine (Tq.from (k := k + 1) ((ha.app hs).app h1) fun x hx => h x (List.mem_cons_of_mem _ hx)).mono ?_
    rw [List.length_cons, Nat.succ_mul]; omega
structure Rp (k n : Nat) (d : D) : Prop where
  go : ∃ p, d.py = some p ∧ p.showable = true ∧ p.depth ≤ k ∧ Tq n p.shown
theorem rp_all {k n : Nat} : ∀ {ds : List D}, (∀ d ∈ ds, Rp k n d) → ∃ ps, D.pys ds = some ps ∧ PyData.showableAll ps = true ∧ PyData.depthAll ps ≤ k ∧ (PyData.shownAll ps).length = ds.length ∧ ∀ t ∈ PyData.shownAll ps, Tq n t
  | [], _ => ⟨[], rfl, rfl, Nat.zero_le _, rfl, fun t ht => by simp [PyData.shownAll] at ht⟩
  | d :: ds, h => by
    obtain ⟨p, h1, h2, h3, h4⟩ := (h d (by simp)).go
    obtain ⟨ps, g1, g2, g3, g4, g5⟩ := rp_all (ds := ds) fun x hx => h x (List.mem_cons_of_mem _ hx)
    refine ⟨p :: ps, by rw [D.pys, h1, g1], by rw [PyData.showableAll, h2, g2]; rfl, by rw [PyData.depthAll]; exact Nat.max_le.2 ⟨h3, g3⟩, by rw [PyData.shownAll, List.length_cons, g4, List.length_cons], fun t ht => ?_⟩
    rw [PyData.shownAll, List.mem_cons] at ht
    rcases ht with rfl | ht
    · exact h4
    · exact g5 t ht
theorem rp_lst {k n : Nat} {ds : List D} (h : ∀ d ∈ ds, Rp k n d) : Rp (k + 1) (ds.length * (n + 2) + 3) (.lst ds) := by
  obtain ⟨ps, g1, g2, g3, g4, g5⟩ := rp_all h
  refine ⟨.list ps, by rw [D.py, g1], by rw [PyData.showable]; exact g2, by rw [PyData.depth]; omega, ?_⟩
  show Tq _ (textFrom 0 "[" (PyData.shownAll ps) ++ "]")
  have ho : Tq 1 (("[" : String) : Str) := by
    unfold Tq; rw [TL.tl_ofString]; exact ⟨by intro c hc; simp at hc; omega, by decide⟩
  have he : Tq 1 (("]" : String) : Str) := by
    unfold Tq; rw [TL.tl_ofString]; exact ⟨by intro c hc; simp at hc; omega, by decide⟩
  refine ((Tq.from ho g5).app he).mono ?_
  rw [g4]; omega
theorem Rp.mono {k n k' n' : Nat} {d : D} (h : Rp k n d) (hk : k ≤ k') (hn : n ≤ n') : Rp k' n' d := by
  obtain ⟨p, h1, h2, h3, h4⟩ := h.go
  exact ⟨p, h1, h2, Nat.le_trans h3 hk, h4.mono hn⟩
/-- what repr tells -/
def rpr (d : D) : List Nat := match d.py with
  | some p => TL.tl p.shown
  | none => []
theorem rpr_cps {k n : Nat} {d : D} (h : Rp k n d) : Cps (rpr d) := by
  obtain ⟨p, h1, h2, h3, h4⟩ := h.go
  unfold rpr
  rw [h1]
  exact h4.1
/-- two reprs of one thing -/
theorem p_reprNe {k n : Nat} {d : D} (h : Rp k n d) : prm .ne [tx (rpr d), tx (rpr d)] = .ok (.bl false) := by
  rw [p_neS (rpr_cps h) (rpr_cps h)]; simp
theorem rp_l2 {n : Nat} {k : Nat} {d e : D} (h : Rp k n d) (h' : Rp k n e) : Rp (k + 1) (2 * (n + 2) + 3) (.lst [d, e]) := rp_lst (ds := [d, e]) fun x hx => by
  simp at hx
  rcases hx with rfl | rfl
  · exact h
  · exact h'
/-! ### draws -/
theorem mapS_pl {τ : Type} {f : D → D → Mo (D × D)} {h : τ → D} {P : τ → Prop} {s B : Nat} : ∀ {xs : List D} {k : Nat} {p : D}, (∀ x ∈ xs, ∀ k p, Pl k p → k ≤ B → ∃ v p', f x p = .ok (h v, p') ∧ P v ∧ Pl (k + s) p') → Pl k p → k + xs.length * s ≤ B → ∃ vs : List τ, ∃ p', mapS f xs p = .ok (vs.map h, p') ∧ vs.length = xs.length ∧ (∀ v ∈ vs, P v) ∧ Pl (k + xs.length * s) p'
  | [], k, p, _, hp, _ => ⟨[], p, rfl, rfl, fun v hv => by simp at hv, by simpa using hp⟩
  | x :: xs, k, p, st, hp, hB => by
    rw [List.length_cons, Nat.succ_mul] at hB
    obtain ⟨v, p1, e1, hv, h1⟩ := st x (by simp) k p hp (by omega)
    obtain ⟨vs, p2, e2, hl, hvs, h2⟩ := mapS_pl (xs := xs) (k := k + s) (fun y hy => st y (List.mem_cons_of_mem _ hy)) h1 (by omega)
    refine ⟨v :: vs, p2, by rw [mapS, e1, ok_bind, e2]; rfl, by rw [List.length_cons, hl, List.length_cons], fun w hw => ?_, ?_⟩
    · rcases List.mem_cons.1 hw with rfl | hw
      · exact hv
      · exact hvs w hw
    · rw [List.length_cons, Nat.succ_mul, show k + (xs.length * s + s) = k + s + xs.length * s by omega]; exact h2
theorem mapSL_pl {τ : Type} {f : D → D → Mo (D × D)} {h : τ → D} {P : τ → Prop} {s : Nat} (B : Nat) {xs : List D} {k : Nat} {p : D} (hl : xs.length ≤ sizeLine) (st : ∀ x ∈ xs, ∀ k p, Pl k p → k ≤ B → ∃ v p', f x p = .ok (h v, p') ∧ P v ∧ Pl (k + s) p') (hp : Pl k p) (hB : k + xs.length * s ≤ B) : ∃ vs : List τ, ∃ p', mapSL f xs p = .ok (vs.map h, p') ∧ vs.length = xs.length ∧ (∀ v ∈ vs, P v) ∧ Pl (k + xs.length * s) p' := by
  obtain ⟨vs, p', e, r⟩ := mapS_pl st hp hB
  exact ⟨vs, p', by unfold mapSL; rw [if_pos hl, e]; rfl, r⟩
theorem m_any {k : Nat} {p : D} {l : List D} (h : Pl k p) (hk : k ≤ 1000000) (h0 : l ≠ []) (hl : l.length ≤ 100000) : ∃ d ∈ l, ∃ p', m__law_any_of p (.lst l) = .ok (d, p') ∧ Pl (k + 1) p' := by
  have hpos : 0 < l.length := List.length_pos_iff.2 h0
  obtain ⟨v, p1, e1, hv, h1⟩ := m_cast (m := (l.length : Int)) h hk ⟨by omega, by omega⟩
  obtain ⟨i, rfl⟩ : ∃ i : Nat, v = (i : Int) := ⟨v.toNat, by omega⟩
  have hi : i < l.length := by omega
  refine ⟨l[i], List.getElem_mem hi, p1, ?_, h1⟩
  unfold m__law_any_of
  simp only [ok_bind, p_lenL, e1, p_idxL (List.getElem?_eq_getElem hi)]
theorem p_pow6 : prm .pow [.int 10, .int 6] = .ok (.int 1000000) := prm_of rfl
theorem m_number {k : Nat} {p : D} (h : Pl k p) (hk : k ≤ 1000000 - 1) : ∃ z p', m__law_number p = .ok (D.int z, p') ∧ (-1000000 ≤ z ∧ z ≤ 1000000) ∧ Pl (k + 2) p' := by
  obtain ⟨v, p1, e1, hv, h1⟩ := m_cast (m := 8) h (by omega) ⟨by decide, by decide⟩
  have x1 : prm .mul [.int 2, .int 1000000] = .ok (.int 2000000) := p_mul (p := 32) (r := 32) (by decide) (n32 (by decide) (by decide)) (n32 (by decide) (by decide))
  have x2 : (2000000 : Int) + 1 = 2000001 := by decide
  unfold m__law_number
  simp only [ok_bind, e1, p_lt, tru_bl, p_eq]
  by_cases c5 : v < 5
  · obtain ⟨u, p2, e2, hu, h2⟩ := m_cast (m := 7) h1 (by omega) ⟨by decide, by decide⟩
    simp only [decide_eq_true c5, if_true, e2, ok_bind, p_sub]
    exact ⟨_, _, rfl, by omega, h2⟩
  · simp only [decide_eq_false c5, Bool.false_eq_true, if_false]
    by_cases d5 : v = 5
    · have xn : prm .neg [.int 1000000] = .ok (.int (-1000000)) := rfl
      simp only [decide_eq_true d5, if_true, p_pow6, xn, ok_bind, lst4]
      obtain ⟨d, hd, p2, e2, h2⟩ := m_any (l := [.int 1000000, .int (-1000000), .int 999999, .int 10]) h1 (by omega) (by simp) (by simp)
      rw [e2]
      simp at hd
      rcases hd with rfl | rfl | rfl | rfl
      · exact ⟨_, _, rfl, by omega, h2⟩
      · exact ⟨_, _, rfl, by omega, h2⟩
      · exact ⟨_, _, rfl, by omega, h2⟩
      · exact ⟨_, _, rfl, by omega, h2⟩
    · simp only [decide_eq_false d5, Bool.false_eq_true, if_false]
      by_cases d6 : v = 6
      · obtain ⟨u, p2, e2, hu, h2⟩ := m_cast (m := 41) h1 (by omega) ⟨by decide, by decide⟩
        simp only [decide_eq_true d6, if_true, e2, ok_bind, p_sub]
        exact ⟨_, _, rfl, by omega, h2⟩
      · obtain ⟨u, p2, e2, hu, h2⟩ := m_cast (m := 2000001) h1 (by omega) ⟨by decide, by decide⟩
        simp only [decide_eq_false d6, Bool.false_eq_true, if_false, p_pow6, x1, p_add, x2, e2, ok_bind, p_sub]
        exact ⟨_, _, rfl, by omega, h2⟩
theorem map_dT (l : List Tb) : (D.tup (l.map dT)) = dL l := rfl
theorem m_grids {k : Nat} {p : D} (h : Pl k p) (hk : k ≤ 900000) : ∃ m ts p', m__law_grids p = .ok (dL ts, p') ∧ LotOk m ts ∧ Pl (k + 98) p' := by
  obtain ⟨v, p1, e1, hv, h1⟩ := m_cast (m := 4) h (by omega) ⟨by decide, by decide⟩
  obtain ⟨u, p2, e2, hu, h2⟩ := m_cast (m := 3) h1 (by omega) ⟨by decide, by decide⟩
  obtain ⟨m, hm⟩ : ∃ m : Nat, 1 + v = (m : Int) := ⟨(1 + v).toNat, by omega⟩
  obtain ⟨n, hn⟩ : ∃ n : Nat, 1 + u = (n : Int) := ⟨(1 + u).toNat, by omega⟩
  have hm4 : 1 ≤ m ∧ m ≤ 4 := by omega
  have hn3 : 1 ≤ n ∧ n ≤ 3 := by omega
  unfold m__law_grids
  simp only [ok_bind, e1, p_add, hm, lst0, e2, hn, o_rng (show n ≤ 1000000 by omega), o_rng (show m ≤ 1000000 by omega)]
  obtain ⟨s, es, A, pA, hs, hA, hAl, hp⟩ := foldN_inv (f := fun v19 v20 => (Mo.ok v20) >>= fun v21 => ((((mapSL (fun v24 v25 => (Mo.ok v24) >>= fun v26 => ((((mapSL (fun v29 v30 => (Mo.ok v29) >>= fun v31 => (m__law_number v30)) ((List.range m).map fun (i : Nat) => D.int i) v25 >>= fun v32 => Mo.ok (D.lst v32.1, v32.2)) >>= fun v33 => (Mo.ok []) >>= fun v34 => Mo.ok ((v33.1 :: v34), v33.2)) >>= fun v35 => prm .tuple v35.1 >>= fun v36 => Mo.ok (v36, v35.2)))) ((List.range m).map fun (i : Nat) => D.int i) v19.1 >>= fun v37 => Mo.ok (D.lst v37.1, v37.2)) >>= fun v38 => (Mo.ok []) >>= fun v39 => Mo.ok ((v38.1 :: v39), v38.2)) >>= fun v40 => prm .tuple v40.1 >>= fun v41 => Mo.ok (v41, v40.2)) >>= fun v42 => appM v19.2 v42.1 >>= fun v43 => (Mo.ok (v42.2, v43)))) (h := fun (i : Nat) => D.int i)
    (fun acc (s : D × D) => ∃ (A : List Tb) (q : D), s = (q, .lst (A.map dT)) ∧ (∀ B ∈ A, TbOk m B) ∧ A.length = acc.length ∧ Pl (k + 2 + 32 * acc.length) q) (List.range n) (List.range n) [] (p2, D.lst []) rfl ⟨[], p2, rfl, fun B hB => by simp at hB, rfl, h2⟩ (by
      rintro x acc s rest hf ⟨A, q, rfl, hA, hl, hq⟩
      have hacc : acc.length + 1 ≤ n := by
        have z := congrArg List.length hf
        rw [List.length_append, List.length_cons, List.length_range] at z; omega
      obtain ⟨B, q1, eB, lB, hB, hq1⟩ := mapSL_pl (f := fun v24 v25 => (Mo.ok v24) >>= fun v26 => ((((mapSL (fun v29 v30 => (Mo.ok v29) >>= fun v31 => (m__law_number v30)) ((List.range m).map fun (i : Nat) => D.int i) v25 >>= fun v32 => Mo.ok (D.lst v32.1, v32.2)) >>= fun v33 => (Mo.ok []) >>= fun v34 => Mo.ok ((v33.1 :: v34), v33.2)) >>= fun v35 => prm .tuple v35.1 >>= fun v36 => Mo.ok (v36, v35.2)))) (h := dR) (P := fun r => r.length = m ∧ ∀ x ∈ r, -1000000 ≤ x ∧ x ≤ 1000000) (s := 2 * m) 950000 (xs := (List.range m).map fun (i : Nat) => D.int i) (sz (by simp; omega)) (fun x _ k' p' hp' hk' => by
        obtain ⟨r, q2, er, lr, hr, hq2⟩ := mapSL_pl (f := fun v29 v30 => (Mo.ok v29) >>= fun v31 => (m__law_number v30)) (h := D.int) (P := fun x => -1000000 ≤ x ∧ x ≤ 1000000) (s := 2) 960000 (xs := (List.range m).map fun (i : Nat) => D.int i) (sz (by simp; omega)) (fun x _ k'' p'' hp'' hk'' => by
          obtain ⟨z, q3, ez, hz, hq3⟩ := m_number hp'' (by omega)
          exact ⟨z, q3, by simp only [ok_bind, ez], hz, hq3⟩) hp' (by simp; omega)
        refine ⟨r, q2, ?_, ⟨by rw [lr]; simp, hr⟩, hq2.mono (by simp; omega)⟩
        simp only [ok_bind] at er ⊢
        simp only [er, ok_bind, p_tupleL]; rfl) hq (by
          have z1 : acc.length ≤ 2 := by omega
          have z2 : m * (2 * m) ≤ 4 * 8 := Nat.mul_le_mul hm4.2 (by omega)
          simp only [List.length_map, List.length_range]; omega)
      have z2 : m * (2 * m) ≤ 4 * 8 := Nat.mul_le_mul hm4.2 (by omega)
      refine ⟨(q1, .lst ((A ++ [B]).map dT)), ?_, A ++ [B], q1, rfl, ?_, ?_, ?_⟩
      · simp only [ok_bind] at eB ⊢
        simp only [eB, ok_bind, p_tupleL]
        rw [app_ok (by rw [List.length_map]; omega), ok_bind, List.map_append]; rfl
      · intro C hC
        rcases List.mem_append.1 hC with hC | hC
        · exact hA C hC
        · rw [List.mem_singleton] at hC; subst hC
          exact ⟨hm4.1, hm4.2, by rw [lB]; simp, fun r hr => (hB r hr).1, fun r hr => (hB r hr).2⟩
      · simp [hl]
      · refine hq1.mono ?_
        simp only [List.length_map, List.length_range, List.length_append, List.length_singleton]; omega)
  subst hs
  rw [List.length_range] at hAl
  simp only [ok_bind] at es ⊢
  simp only [es, ok_bind, p_tupleL, map_dT]
  refine ⟨m, A, pA, rfl, ⟨fun z => by rw [z] at hAl; simp at hAl; omega, by omega, hA⟩, hp.mono (by rw [List.length_range]; omega)⟩
end M

set_option Elab.async false
set_option linter.all false
set_option maxRecDepth 100000
set_option maxHeartbeats 4000000
/-! S8: tables by their entries; sums; products by the laws' own sums. -/
namespace M
open PySem
def ent (A : Tb) (i j : Nat) : Int := (A.getD i []).getD j 0
def sg : Nat → (Nat → Int) → Int
  | 0, _ => 0
  | n + 1, f => sg n f + f n
def mkT (m : Nat) (f : Nat → Nat → Int) : Tb := (List.range m).map fun i => (List.range m).map fun j => f i j
theorem sq_mk (m : Nat) (f : Nat → Nat → Int) : Sq m (mkT m f) := ⟨by simp [mkT], by
  intro r hr
  obtain ⟨i, _, rfl⟩ := List.mem_map.1 hr
  simp⟩
theorem getD_mem {α : Type} {l : List α} {i : Nat} {a : α} (h : i < l.length) : l.getD i a ∈ l := by
  rw [List.getD_eq_getElem?_getD, List.getElem?_eq_getElem h]; exact List.getElem_mem h
/-! ### the laws' own sums -/
theorem dT_idx {A : Tb} {i : Nat} (h : i < A.length) : prm .idx [dT A, .int (i : Nat)] = .ok (dR (A.getD i [])) := p_idxT (by
  rw [List.getElem?_map, List.getElem?_eq_getElem h, List.getD_eq_getElem?_getD, List.getElem?_eq_getElem h]; rfl)
end M

set_option Elab.async false
set_option linter.all false
set_option maxRecDepth 100000
set_option maxHeartbeats 4000000
/-! S9: walks with draws; words. -/
namespace M
open PySem
theorem p_addR {a b : List Int} (h : a.length + b.length ≤ 1000) : prm .add [dR a, dR b] = .ok (dR (a ++ b)) := prm_of (add_row a b (by omega))
theorem foldB_inv {σ τ ρ : Type} {f : σ → D → Mo (Fl σ ρ)} {h : τ → D} (J : Nat → σ → Prop) (N : Nat) : ∀ (xs : List τ) (n : Nat) (s : σ), n + xs.length ≤ N → J n s → (∀ x ∈ xs, ∀ n s, n < N → J n s → ∃ s', f s (h x) = .ok (.nx s') ∧ J (n + 1) s') → ∃ s', foldB f s (xs.map h) = .ok (.nx s') ∧ J (n + xs.length) s'
  | [], n, s, _, j, _ => ⟨s, rfl, j⟩
  | x :: xs, n, s, hN, j, st => by
    rw [List.length_cons] at hN
    obtain ⟨s1, e1, j1⟩ := st x (by simp) n s (by omega) j
    obtain ⟨s2, e2, j2⟩ := foldB_inv J N xs (n + 1) s1 (by omega) j1 fun y hy => st y (List.mem_cons_of_mem _ hy)
    refine ⟨s2, ?_, by rw [List.length_cons, show n + (xs.length + 1) = n + 1 + xs.length by omega]; exact j2⟩
    rw [List.map_cons, foldB, e1, ok_bind]
    exact e2
theorem foldB_bind {σ τ ρ γ : Type} {f : σ → D → Mo (Fl σ ρ)} {h : τ → D} {k : Fl σ ρ → Mo γ} {s : σ} {xs : List τ} (G : Mo γ → Prop) (J : Nat → σ → Prop) (j : J 0 s) (st : ∀ x ∈ xs, ∀ n s, n < xs.length → J n s → ∃ s', f s (h x) = .ok (.nx s') ∧ J (n + 1) s') (fin : ∀ s', J xs.length s' → G (k (.nx s'))) : G (foldB f s (xs.map h) >>= k) := by
  obtain ⟨s', e, j'⟩ := foldB_inv J xs.length xs 0 s (by omega) j st
  rw [e]
  exact fin s' (by rw [Nat.zero_add] at j'; exact j')
theorem foldN_bind {σ τ γ : Type} {f : σ → D → Mo σ} {h : τ → D} {k : σ → Mo γ} {s : σ} {xs : List τ} (G : Mo γ → Prop) (J : List τ → σ → Prop) (j : J [] s) (st : ∀ x acc s rest, acc ++ x :: rest = xs → J acc s → ∃ s', f s (h x) = .ok s' ∧ J (acc ++ [x]) s') (fin : ∀ s', J xs s' → G (k s')) : G (foldN f s (xs.map h) >>= k) := by
  obtain ⟨s', e, j'⟩ := foldN_inv J xs xs [] s rfl j st
  rw [e]
  exact fin s' j'
/-- the frame of a law: so many cases -/
theorem cases_ok {f : D → Mo D} {ns : List Int} {c : Int} (hc : 2 ≤ c ∧ c ≤ 100) (hn : ns.length ≤ 63) (h : ∀ k : Nat, k < 1000 → f (.int (k : Nat)) = .ok (.bl true)) :
    (((optM (rng1F [D.int (if (if c < (ns.length : Int) then c else (ns.length : Int)) > 2 then (if c < (ns.length : Int) then c else (ns.length : Int)) else 2)])) >>= fun v6 => mapL f v6 >>= fun l => Mo.ok (D.lst l)) >>= fun v12 => prm .all [v12]) = .ok (.bl true) := by
  obtain ⟨z, e, hz⟩ : ∃ z : Nat, (if (if c < (ns.length : Int) then c else (ns.length : Int)) > 2 then (if c < (ns.length : Int) then c else (ns.length : Int)) else 2) = (z : Int) ∧ z ≤ 100 :=
    ⟨(if (if c < (ns.length : Int) then c else (ns.length : Int)) > 2 then (if c < (ns.length : Int) then c else (ns.length : Int)) else 2).toNat, by split <;> split <;> omega, by split <;> split <;> omega⟩
  rw [e, o_rng (by omega)]
  simp only [ok_bind]
  rw [mapL_ok (g := fun _ => .bl true) (sz (by simp; omega)) (fun k hk => h k (by have := List.mem_range.1 hk; omega))]
  simp only [ok_bind]
  exact p_all
end M

set_option Elab.async false
set_option linter.all false
set_option maxRecDepth 100000
set_option maxHeartbeats 4000000
/-! S10: traces by entries; words turned. -/
namespace M
open PySem
end M

set_option Elab.async false
set_option linter.all false
set_option maxRecDepth 100000
set_option maxHeartbeats 4000000
/-! S11: tables scaled, added, turned over. -/
namespace M
open PySem
def tpT (m : Nat) (A : Tb) : Tb := mkT m fun i j => ent A j i
theorem sq_tp {m : Nat} {A : Tb} : Sq m (tpT m A) := sq_mk _ _
end M

set_option Elab.async false
set_option linter.all false
set_option maxRecDepth 100000
set_option maxHeartbeats 4000000
/-! Pk3: plain functions (printed by gen2.py). -/
namespace M
open PySem
def m_Lot_size (x_0 : D) : Mo D :=
  ((((.ok x_0) >>= fun v0 => (fldM 0 0 v0)) >>= fun v1 => ((.ok (D.int 0)) >>= fun v2 => (prm .idx [v1, v2]))) >>= fun v3 => (prm .len [v3]))
def m_Lot_len (x_0 : D) : Mo D :=
  (((.ok x_0) >>= fun v0 => (fldM 0 0 v0)) >>= fun v1 => (prm .len [v1]))
def m_lot_lines (x_0 : D) : Mo D :=
  ((((((.ok x_0) >>= fun v0 => (isI 0 v0 >>= fun _ => noExc (m_Lot_size v0))) >>= fun v1 => (fstM "lot " Str.empty v1)) >>= fun v2 => (.ok []) >>= fun v3 => .ok (v2 :: v3)) >>= lstM) >>= fun v4 => ((((.ok x_0) >>= fun v5 => (fldM 0 0 v5)) >>= fun v6 => (itemsM v6)) >>= fun v7 => foldN (fun v8 v9 => (.ok v9) >>= fun v10 => ((((.ok (D.str "table")) >>= fun v11 => ((((.ok v10) >>= fun v12 => (itemsM v12)) >>= fun v13 => (mapL (fun v14 => (.ok v14) >>= fun v15 => ((.ok (D.str " ")) >>= fun v16 => (isS v16 >>= fun _ => ((((.ok v15) >>= fun v17 => (itemsM v17)) >>= fun v18 => (mapL (fun v19 => (.ok v19) >>= fun v20 => ((.ok v20) >>= fun v21 => (prm .strI [v21]))) v18 >>= fun l => .ok (D.lst l))) >>= fun v22 => (prm .join [v16, v22]))))) v13 >>= fun l => .ok (D.lst l))) >>= fun v23 => seqM v23 >>= fun v24 => (.ok []) >>= fun v25 => .ok (v24 ++ v25)) >>= fun v26 => .ok (v11 :: v26)) >>= lstM) >>= fun v27 => extM v8 v27 >>= fun v28 => (.ok v28))) v4 v7 >>= fun v29 => (.ok v29)))
def m_Lot_str (x_0 : D) : Mo D :=
  ((.ok (D.str "\n")) >>= fun v0 => (isS v0 >>= fun _ => (((.ok x_0) >>= fun v1 => (m_lot_lines v1)) >>= fun v2 => (prm .join [v0, v2]))))
def m_Lot_text (x_0 : D) : Mo D :=
  (((.ok x_0) >>= fun v0 => (isI 0 v0 >>= fun _ => noExc (m_Lot_str v0))) >>= fun v1 => (prm .asStr [v1]))
def m_Lot_eq (x_0 x_1 : D) : Mo D :=
  (((.ok x_1) >>= fun v0 => (prmV (.isiC 0) [v0])) >>= fun v1 => ((isB v1) >>= fun v2 => (if v2 then (((.ok x_0) >>= fun v3 => (fldM 0 0 v3)) >>= fun v4 => (((.ok x_1) >>= fun v5 => (fldM 0 0 v5)) >>= fun v6 => (prmV .eq [v4, v6]))) else .ok (D.bl false))))
end M

set_option Elab.async false
set_option linter.all false
set_option maxRecDepth 100000
set_option maxHeartbeats 4000000
/-! S12: repr of texts; what a lot tells of itself. -/
namespace M
open PySem
theorem rp_bl (b : Bool) : Rp 0 5 (.bl b) := ⟨.bool b, rfl, rfl, Nat.le_refl _, by
  cases b
  · show Tq 5 (("False" : String) : Str)
    unfold Tq; rw [TL.tl_ofString]; exact ⟨by intro c hc; simp at hc; omega, by decide⟩
  · show Tq 5 (("True" : String) : Str)
    unfold Tq; rw [TL.tl_ofString]; exact ⟨by intro c hc; simp at hc; omega, by decide⟩⟩
theorem p_reprB {k n : Nat} {d : D} (h : Rp k n d) (hk : k ≤ 64) (hn : n ≤ 1000000) : prm .repr [d] = .ok (tx (rpr d)) := by
  obtain ⟨p, h1, h2, h3, h4⟩ := h.go
  refine prm_of (fl := false) ?_
  show reprD d = _
  have e : p.shown.length = (TL.tl p.shown).length := by rw [TL.len_tl]
  unfold reprD rpr
  rw [h1]
  show (if p.showable = true ∧ p.depth ≤ 64 ∧ p.shown.length ≤ sizeLine then some (false, D.str p.shown) else none) = some (false, D.str (SX.S (TL.tl p.shown)))
  rw [if_pos ⟨h2, Nat.le_trans h3 hk, by rw [e]; exact Nat.le_trans (Nat.le_trans h4.2 hn) (by decide)⟩]
/-! sizes -/
section
variable {m : Nat} {ts : List Tb}
theorem line_cps (h : LotOk m ts) : ∀ p ∈ linesT m ts, Cps p := by
  intro p hp c hc
  rcases line_mem h hp with rfl | rfl | ⟨r, hr, rfl⟩
  · rcases List.mem_append.1 hc with hc | hc
    · simp [wordLot] at hc; omega
    · exact cps_num _ c hc
  · simp [wordTable] at hc; omega
  · rcases joinL_mem hc with hc | ⟨p, hp, hc⟩
    · simp at hc; omega
    · obtain ⟨i, hi, rfl⟩ := List.mem_map.1 hp
      exact cps_num _ c hc
theorem sheet_cps (h : LotOk m ts) : Cps (sheetT m ts) := fun c hc => by
  rcases joinL_mem hc with hc | ⟨p, hp, hc⟩
  · simp at hc; omega
  · exact line_cps h p hp c hc
/-! the lot's own defs -/
theorem p_fst {a b : List Nat} {i : Int} (h : i.natAbs < 2 ^ 1920) (hl : a.length + (numI i).length + b.length ≤ 100000) : fstM (SX.S a) (SX.S b) (.int i) = .ok (tx (a ++ numI i ++ b)) := by
  have e : ((SX.S a ++ (toString i : Str)) ++ SX.S b) = SX.S (a ++ numI i ++ b) := by
    show ((SX.S a ++ Str.ofString (toString i)) ++ SX.S b) = _
    rw [str_num, SX.S_cat, SX.S_cat]
  show (if i.natAbs.log2 < 1920 ∧ ((SX.S a ++ (toString i : Str)) ++ SX.S b).length ≤ sizeLine then Mo.ok (D.str ((SX.S a ++ (toString i : Str)) ++ SX.S b)) else .bad) = _
  rw [e, if_pos ⟨n20' h, by rw [SX.S_len, List.length_append, List.length_append]; exact sl4 hl⟩]
theorem ts_head (h : LotOk m ts) : ∃ A0, prm .idx [dL ts, .int 0] = .ok (dT A0) ∧ A0.length = m := by
  obtain ⟨A0, ts', hts⟩ : ∃ a l, ts = a :: l := by
    cases ts with
    | nil => exact absurd rfl h.ne
    | cons a l => exact ⟨a, l, rfl⟩
  exact ⟨A0, by rw [hts]; unfold dL; simp, (h.tb A0 (by rw [hts]; exact List.mem_cons_self ..)).len⟩
theorem fld_O : fldM 0 0 (dO ts) = .ok (dL ts) := fldM_0
theorem m_size (h : LotOk m ts) : m_Lot_size (dO ts) = .ok (.int (m : Nat)) := by
  obtain ⟨A0, e0, l0⟩ := ts_head h
  unfold m_Lot_size
  simp only [ok_bind, fld_O, e0, len_dT, l0]
theorem m_len : m_Lot_len (dO ts) = .ok (.int (ts.length : Nat)) := by
  unfold m_Lot_len
  simp only [ok_bind, fld_O, len_dL]
theorem ext_okL {a b : List D} (h : a.length + b.length ≤ 100000) : extM (.lst a) (.lst b) = .ok (.lst (a ++ b)) := if_pos (sl4 h)
theorem m_llines (h : LotOk m ts) : m_lot_lines (dO ts) = .ok (.lst ((linesT m ts).map tx)) := by
  have hs := h.sz
  have hf := h.few
  have hmb := msm (m := m) (by omega)
  have e1 : fstM "lot " Str.empty (.int (m : Nat)) = .ok (tx (wordLot ++ numI (m : Nat))) := by
    have z := p_fst (a := wordLot) (b := []) (lt1920 hmb) (by have := num31 hmb; simp [wordLot]; omega)
    rw [List.append_nil] at z
    exact z
  have e2 : (D.str "table") = tx wordTable := rfl
  have e3 : (D.str " ") = tx [32] := rfl
  have e5 : itemsM (dL ts) = .ok (ts.map dT) := rfl
  unfold m_lot_lines
  simp only [ok_bind, bind_bind, isI_O, noExc_ok, m_size h, e1, lst1, fld_O, e5, e2, e3]
  refine foldN_bind (fun M => M = Mo.ok (D.lst ((linesT m ts).map tx))) (fun acc s => s = D.lst (((wordLot ++ numI (m : Nat)) :: acc.flatMap blockT).map tx)) rfl (fun A acc s rest hf2 hu => ?_) (fun s hs => by subst hs; rfl)
  subst hu
  have hA : A ∈ ts := by rw [← hf2]; simp
  have hT := h.tb A hA
  have hAl := hT.len
  have hacc : acc.length + 1 ≤ ts.length := by rw [← hf2]; simp
  have hfl : (acc.flatMap blockT).length = acc.length * (m + 1) := flat_len fun B hB => blk_len h (by rw [← hf2]; simp [hB])
  have h5 : acc.length * (m + 1) ≤ 2 * 5 := Nat.mul_le_mul (by omega) (by omega)
  have x3 : itemsM (dT A) = .ok (A.map dR) := rfl
  refine ⟨D.lst (((wordLot ++ numI (m : Nat)) :: (acc ++ [A]).flatMap blockT).map tx), ?_, rfl⟩
  simp only [ok_bind, bind_bind, bind_ok, x3]
  rw [mapL_ok (g := fun r => tx (rowT r)) (sz (by omega)) (fun r hr => by
    have hR := lotRow h hA hr
    have x4 : itemsM (dR r) = .ok (r.map D.int) := rfl
    simp only [ok_bind, bind_bind, isS_tx, x4]
    rw [mapL_ok (g := fun i => tx (numI i)) (sz (by have := hR.few; omega)) (fun i hi => p_strI (lt1920 (hR.sm i hi)))]
    have x5 : (r.map fun i => tx (numI i)) = (r.map numI).map tx := by rw [List.map_map]; rfl
    simp only [ok_bind, x5]
    exact p_joinS (row_sum hR))]
  have x6 : tx wordTable :: (A.map fun r => tx (rowT r)) = (blockT A).map tx := by rw [blockT, List.map_cons, List.map_map]; rfl
  simp only [ok_bind, seqM_lst, List.append_nil, x6]
  rw [lst_ok (sz (by rw [List.length_map, blk_len h hA]; omega)), ok_bind, ext_okL (by rw [List.length_map, List.length_map, List.length_cons, hfl, blk_len h hA]; omega), ← List.map_append, List.flatMap_append]
  simp
theorem m_str (h : LotOk m ts) : m_Lot_str (dO ts) = .ok (tx (sheetT m ts)) := by
  have e1 : (D.str "\n") = tx [10] := rfl
  unfold m_Lot_str
  simp only [ok_bind, e1, isS_tx, m_llines h]
  exact p_joinS (line_sum h)
theorem p_asStr {a : List Nat} : prm .asStr [tx a] = .ok (tx a) := rfl
theorem m_text (h : LotOk m ts) : m_Lot_text (dO ts) = .ok (tx (sheetT m ts)) := by
  unfold m_Lot_text
  simp only [ok_bind, isI_O, noExc_ok, m_str h, p_asStr]
end
end M

set_option Elab.async false
set_option linter.all false
set_option maxRecDepth 100000
set_option maxHeartbeats 4000000
/-! S13: lots compared. -/
namespace M
open PySem
theorem pys_dL : ∀ L : List Tb, D.pys (L.map dT) = some (L.map fun A => .tuple (A.map fun r => .tuple (r.map PyData.int)))
  | [] => rfl
  | x :: r => by rw [List.map_cons, D.pys, py_dT, pys_dL r]; rfl
theorem py_dL (L : List Tb) : D.py (dL L) = some (.tuple (L.map fun A => .tuple (A.map fun r => .tuple (r.map PyData.int)))) := by rw [dL, D.py, pys_dL]
theorem eqv_lot : ∀ A B : List Tb, PyData.eqvAll (A.map fun A => .tuple (A.map fun r => .tuple (r.map PyData.int))) (B.map fun A => .tuple (A.map fun r => .tuple (r.map PyData.int))) = decide (A = B)
  | [], [] => rfl
  | [], _ :: _ => by simp [PyData.eqvAll]
  | _ :: _, [] => by simp [PyData.eqvAll]
  | x :: r, y :: s => by
    rw [List.map_cons, List.map_cons, PyData.eqvAll, eqv_lot r s, PyData.eqv, eqv_tb]
    by_cases h : x = y <;> simp [h]
theorem cl_lot : ∀ L : List Tb, PyData.canLayAll0 (L.map fun A => .tuple (A.map fun r => .tuple (r.map PyData.int))) = true
  | [] => rfl
  | x :: r => by rw [List.map_cons, PyData.canLayAll0, cl_lot r, PyData.canLay0, cl_tb]; rfl
theorem dpt_ints : ∀ r : List Int, PyData.depthAll (r.map PyData.int) ≤ 0
  | [] => Nat.le_refl _
  | x :: r => by rw [List.map_cons, PyData.depthAll]; exact Nat.max_le.2 ⟨Nat.le_refl _, dpt_ints r⟩
theorem dpt_tb : ∀ A : Tb, PyData.depthAll (A.map fun r => .tuple (r.map PyData.int)) ≤ 1
  | [] => Nat.zero_le _
  | x :: r => by
    rw [List.map_cons, PyData.depthAll, PyData.depth]
    have := dpt_ints x
    exact Nat.max_le.2 ⟨by omega, dpt_tb r⟩
theorem dpt_lot : ∀ L : List Tb, PyData.depthAll (L.map fun A => .tuple (A.map fun r => .tuple (r.map PyData.int))) ≤ 2
  | [] => Nat.zero_le _
  | x :: r => by
    rw [List.map_cons, PyData.depthAll, PyData.depth]
    have := dpt_tb x
    exact Nat.max_le.2 ⟨by omega, dpt_lot r⟩
theorem shaped_lot (L : List Tb) : SeqAt.shaped (.tuple (L.map fun A => .tuple (A.map fun r => .tuple (r.map PyData.int)))) = true := by
  unfold SeqAt.shaped
  rw [Bool.and_eq_true]
  refine ⟨by rw [PyData.canLay0]; exact cl_lot L, decide_eq_true ?_⟩
  rw [PyData.depth]
  have := dpt_lot L
  omega
theorem eq_dL (A B : List Tb) : dEq (dL A) (dL B) = some (decide (A = B)) := by
  unfold dEq
  rw [py_dL, py_dL]
  show (if SeqAt.shaped _ && SeqAt.shaped _ then some (PyData.eqv _ _) else none) = _
  rw [shaped_lot, shaped_lot, Bool.and_self, if_pos rfl, PyData.eqv, eqv_lot]
theorem pV_eqL {A B : List Tb} : prmV .eq [dL A, dL B] = .ok (.bl (decide (A = B))) := prmV_of (by rw [ev_eq, eq_dL]; rfl)
theorem m_eq {A B : List Tb} : m_Lot_eq (dO A) (dO B) = .ok (.bl (decide (A = B))) := by
  have e : prmV (.isiC 0) [dO B] = .ok (.bl true) := rfl
  unfold m_Lot_eq
  simp only [ok_bind, e, isB_bl, if_true, fld_O, pV_eqL]
theorem p_notBl {b : Bool} : prm .notBl [.bl b] = .ok (.bl (!b)) := rfl
theorem dO_inj {A B : List Tb} (h : dO A = dO B) : A = B := by
  have z : dEq (dL A) (dL B) = dEq (dL A) (dL A) := by
    have e : dL A = dL B := by
      unfold dO at h
      injection h with _ h
      exact (List.cons.inj h).1
    rw [← e]
  rw [eq_dL, eq_dL] at z
  have z2 : decide (A = B) = true := by simpa using z
  exact of_decide_eq_true z2
/-- unlike tables have unlike texts -/
theorem sheet_inj {m m' : Nat} {A B : List Tb} (hA : LotOk m A) (hB : LotOk m' B) : sheetT m A = sheetT m' B ↔ A = B := by
  constructor
  · intro e
    have h1 := m_tlot hA
    rw [e, m_tlot hB] at h1
    injection h1 with h1
    exact (dO_inj h1).symm
  · intro e
    subst e
    obtain ⟨A0, ts', hts⟩ : ∃ a l, A = a :: l := by
      cases A with
      | nil => exact absurd rfl hA.ne
      | cons a l => exact ⟨a, l, rfl⟩
    have l1 := (hA.tb A0 (by rw [hts]; exact List.mem_cons_self ..)).len
    have l2 := (hB.tb A0 (by rw [hts]; exact List.mem_cons_self ..)).len
    rw [← l1, l2]
end M

set_option Elab.async false
set_option linter.all false
set_option maxRecDepth 100000
set_option maxHeartbeats 4000000
/-! Pk4: plain functions (printed by gen2.py). -/
namespace M
open PySem
end M

set_option Elab.async false
set_option linter.all false
/-! X10: the exceptions' layer and the specs, side by side. -/

set_option Elab.async false
set_option linter.all false
set_option maxRecDepth 100000
set_option maxHeartbeats 4000000
/-! Pk5: plain functions (printed by gen2.py). -/
namespace M
open PySem
def m__law_thing (x_0 : D) : Mo (D × D) :=
  ((((.ok D.non) >>= fun v0 => ((.ok (D.bl true)) >>= fun v1 => ((.ok (D.bl false)) >>= fun v2 => ((.ok (D.int 0)) >>= fun v3 => ((.ok (D.int 1)) >>= fun v4 => (((.ok (D.int 1)) >>= fun v5 => (prm .neg [v5])) >>= fun v6 => ((.ok (D.int 2)) >>= fun v7 => ((((.ok (D.int 10)) >>= fun v8 => ((.ok (D.int 6)) >>= fun v9 => (prm .pow [v8, v9]))) >>= fun v10 => ((.ok (D.int 1)) >>= fun v11 => (prm .add [v10, v11]))) >>= fun v12 => ((((.ok (D.int 10)) >>= fun v13 => ((.ok (D.int 39)) >>= fun v14 => (prm .pow [v13, v14]))) >>= fun v15 => (prm .neg [v15])) >>= fun v16 => ((.ok (D.str "")) >>= fun v17 => ((.ok (D.str "a")) >>= fun v18 => ((.ok (D.str "lot 1")) >>= fun v19 => (((.ok []) >>= tupM) >>= fun v20 => ((((.ok (D.int 0)) >>= fun v21 => (.ok []) >>= fun v22 => .ok (v21 :: v22)) >>= tupM) >>= fun v23 => ((((.ok (D.int 1)) >>= fun v24 => ((.ok (D.int 0)) >>= fun v25 => (.ok []) >>= fun v26 => .ok (v25 :: v26)) >>= fun v27 => .ok (v24 :: v27)) >>= tupM) >>= fun v28 => ((((((.ok (D.int 5)) >>= fun v29 => (.ok []) >>= fun v30 => .ok (v29 :: v30)) >>= tupM) >>= fun v31 => (.ok []) >>= fun v32 => .ok (v31 :: v32)) >>= tupM) >>= fun v33 => ((.ok (D.str "A")) >>= fun v34 => (.ok []) >>= fun v35 => .ok (v34 :: v35)) >>= fun v36 => .ok (v33 :: v36)) >>= fun v37 => .ok (v28 :: v37)) >>= fun v38 => .ok (v23 :: v38)) >>= fun v39 => .ok (v20 :: v39)) >>= fun v40 => .ok (v19 :: v40)) >>= fun v41 => .ok (v18 :: v41)) >>= fun v42 => .ok (v17 :: v42)) >>= fun v43 => .ok (v16 :: v43)) >>= fun v44 => .ok (v12 :: v44)) >>= fun v45 => .ok (v7 :: v45)) >>= fun v46 => .ok (v6 :: v46)) >>= fun v47 => .ok (v4 :: v47)) >>= fun v48 => .ok (v3 :: v48)) >>= fun v49 => .ok (v2 :: v49)) >>= fun v50 => .ok (v1 :: v50)) >>= fun v51 => .ok (v0 :: v51)) >>= lstM) >>= fun v52 => (((.ok v52) >>= fun v53 => (((((.ok []) >>= lstM) >>= fun v54 => ((((.ok (D.int 1)) >>= fun v55 => (.ok []) >>= fun v56 => .ok (v55 :: v56)) >>= lstM) >>= fun v57 => ((.ok (D.dct [])) >>= fun v58 => ((.ok (D.dct [("a", 1)])) >>= fun v59 => ((((((.ok (D.int 1)) >>= fun v60 => ((.ok (D.int 2)) >>= fun v61 => (.ok []) >>= fun v62 => .ok (v61 :: v62)) >>= fun v63 => .ok (v60 :: v63)) >>= tupM) >>= fun v64 => (.ok []) >>= fun v65 => .ok (v64 :: v65)) >>= tupM) >>= fun v66 => ((((((.ok (D.int 1)) >>= fun v67 => ((.ok (D.int 0)) >>= fun v68 => (.ok []) >>= fun v69 => .ok (v68 :: v69)) >>= fun v70 => .ok (v67 :: v70)) >>= tupM) >>= fun v71 => ((((.ok (D.int 0)) >>= fun v72 => ((.ok (D.int 1)) >>= fun v73 => (.ok []) >>= fun v74 => .ok (v73 :: v74)) >>= fun v75 => .ok (v72 :: v75)) >>= tupM) >>= fun v76 => (.ok []) >>= fun v77 => .ok (v76 :: v77)) >>= fun v78 => .ok (v71 :: v78)) >>= tupM) >>= fun v79 => ((((((((.ok (D.int 5)) >>= fun v80 => (.ok []) >>= fun v81 => .ok (v80 :: v81)) >>= tupM) >>= fun v82 => (.ok []) >>= fun v83 => .ok (v82 :: v83)) >>= tupM) >>= fun v84 => (.ok []) >>= fun v85 => .ok (v84 :: v85)) >>= tupM) >>= fun v86 => ((((.ok (D.str "all")) >>= fun v87 => (.ok []) >>= fun v88 => .ok (v87 :: v88)) >>= tupM) >>= fun v89 => ((((.ok D.non) >>= fun v90 => (.ok []) >>= fun v91 => .ok (v90 :: v91)) >>= tupM) >>= fun v92 => ((.ok (D.str "abcdefghi")) >>= fun v93 => (.ok []) >>= fun v94 => .ok (v93 :: v94)) >>= fun v95 => .ok (v92 :: v95)) >>= fun v96 => .ok (v89 :: v96)) >>= fun v97 => .ok (v86 :: v97)) >>= fun v98 => .ok (v79 :: v98)) >>= fun v99 => .ok (v66 :: v99)) >>= fun v100 => .ok (v59 :: v100)) >>= fun v101 => .ok (v58 :: v101)) >>= fun v102 => .ok (v57 :: v102)) >>= fun v103 => .ok (v54 :: v103)) >>= lstM) >>= fun v104 => (prm .add [v53, v104]))) >>= fun v105 => ((.ok v105) >>= fun v106 => (m__law_any_of x_0 v106))))
end M

set_option Elab.async false
set_option linter.all false
set_option maxRecDepth 100000
set_option maxHeartbeats 8000000
/-! X11: values of any kind, what is told of them; texts read where errors are caught. -/
namespace M
open PySem
/-- what a word may be made of; S: which texts -/
inductive WvS (S : Str → Prop) (L : Nat) : Nat → D → Prop
  | tup {κ : Nat} {xs : List D} : xs.length ≤ L → (∀ x ∈ xs, WvS S L κ x) → WvS S L (κ + 1) (.tup xs)
  | int {κ : Nat} (z : Int) : WvS S L κ (.int z)
  | bl {κ : Nat} (b : Bool) : WvS S L κ (.bl b)
  | non {κ : Nat} : WvS S L κ .non
  | str {κ : Nat} (s : Str) (h : S s := by trivial) : WvS S L κ (.str s)
  | lst {κ : Nat} (xs : List D) : WvS S L κ (.lst xs)
  | dct {κ : Nat} (kvs : List (Str × Int)) : WvS S L κ (.dct kvs)
abbrev Wv (L : Nat) : Nat → D → Prop := WvS (fun _ => True) L
theorem WvS.mono {S : Str → Prop} {L L' κ κ' : Nat} {d : D} (h : WvS S L κ d) (l : L ≤ L') (k : κ ≤ κ') : WvS S L' κ' d := by
  induction h generalizing κ' with
  | @tup c xs h1 _ ih =>
    obtain ⟨j, rfl⟩ : ∃ j, κ' = j + 1 := ⟨κ' - 1, by omega⟩
    exact .tup (Nat.le_trans h1 l) fun x hx => ih x hx (by omega)
  | int z => exact .int z
  | bl b => exact .bl b
  | non => exact .non
  | str s hs => exact .str s hs
  | lst xs => exact .lst xs
  | dct kv => exact .dct kv
theorem Wv.mono {L L' κ κ' : Nat} {d : D} (h : Wv L κ d) (l : L ≤ L') (k : κ ≤ κ') : Wv L' κ' d := WvS.mono h l k
theorem WvS.weak {S S' : Str → Prop} {L κ : Nat} {d : D} (h : WvS S L κ d) (w : ∀ s, S s → S' s) : WvS S' L κ d := by
  induction h with
  | tup h1 _ ih => exact .tup h1 ih
  | int z => exact .int z
  | bl b => exact .bl b
  | non => exact .non
  | str s hs => exact .str s (w s hs)
  | lst xs => exact .lst xs
  | dct kv => exact .dct kv
theorem WvS.any {S : Str → Prop} {L κ : Nat} {d : D} (h : WvS S L κ d) : Wv L κ d := h.weak fun _ _ => trivial
def menu : List D := [.non, .bl true, .bl false, .int 0, .int 1, .int (-1), .int 2, .int 1000001, .int (-1000000000000000000000000000000000000000), .str "", .str "a", .str "lot 1", .tup [], .tup [.int 0], .tup [.int 1, .int 0], .tup [.tup [.int 5]], .str "A",
  .lst [], .lst [.int 1], .dct [], .dct [("a", 1)], .tup [.tup [.int 1, .int 2]], .tup [.tup [.int 1, .int 0], .tup [.int 0, .int 1]], .tup [.tup [.tup [.int 5]]], .tup [.str "all"], .tup [.non], .str "abcdefghi"]
theorem thing_eq (p : D) : m__law_thing p = m__law_any_of p (.lst menu) := by
  unfold m__law_thing
  rfl
theorem m_thing {k : Nat} {p : D} (h : Pl k p) (hk : k ≤ 1000000) : ∃ d ∈ menu, ∃ p', m__law_thing p = .ok (d, p') ∧ Pl (k + 1) p' := by
  rw [thing_eq]
  exact m_any h hk (by decide) (by decide)
section
variable {xs : List D} {i j : Nat} {z : Int} {b : Bool} {s : Str} {kv : List (Str × Int)}
theorem cut_to : cutL xs none (some (i : Int)) = xs.take i := by
  unfold cutL
  rw [HT.sIx_none, HT.sIx_nat, List.drop_zero, Nat.sub_zero, List.take_eq_take_iff]; omega
theorem cut_from (h : i ≤ xs.length) : cutL xs (some (i : Int)) none = xs.drop i := by
  unfold cutL
  rw [HT.sIx_none, HT.sIx_nat, show min i xs.length = i by omega]
  exact List.take_of_length_le (by rw [List.length_drop]; omega)
theorem p_toT : prm (.slo false true) [.tup xs, .int (i : Nat)] = .ok (.tup (xs.take i)) := prm_of (fl := false) (by
  show some (false, D.tup (cutL xs none (some (i : Int)))) = _
  rw [cut_to])
theorem p_fromT (h : i ≤ xs.length) : prm (.slo true false) [.tup xs, .int (i : Nat)] = .ok (.tup (xs.drop i)) := prm_of (fl := false) (by
  show some (false, D.tup (cutL xs (some (i : Int)) none)) = _
  rw [cut_from h])
theorem p_addT {a b : List D} (h : a.length + b.length ≤ 100000) : prm .add [.tup a, .tup b] = .ok (.tup (a ++ b)) := prm_of (fl := false) (by
  show (if a.length + b.length ≤ sizeLine then some (false, D.tup (a ++ b)) else none) = _
  rw [if_pos (sz h)])
@[simp] theorem p_revT : prm .revL [.tup xs] = .ok (.tup xs.reverse) := nr rfl
@[simp] theorem p_neU : prm .neU [.tup xs] = .ok (.bl (!xs.isEmpty)) := nr rfl
@[simp] theorem p_listT : prm .list [.tup xs] = .ok (.lst xs) := nr rfl
@[simp] theorem ti_int : prm (.isi "tuple") [.int z] = .ok (.bl false) := nr rfl
@[simp] theorem ti_bl : prm (.isi "tuple") [.bl b] = .ok (.bl false) := nr rfl
@[simp] theorem ti_non : prm (.isi "tuple") [.non] = .ok (.bl false) := nr rfl
@[simp] theorem ti_str : prm (.isi "tuple") [.str s] = .ok (.bl false) := nr rfl
@[simp] theorem ti_lst : prm (.isi "tuple") [.lst xs] = .ok (.bl false) := nr rfl
@[simp] theorem ti_dct : prm (.isi "tuple") [.dct kv] = .ok (.bl false) := nr rfl
@[simp] theorem ii_bl : prm (.isi "int") [.bl b] = .ok (.bl true) := nr rfl
@[simp] theorem ii_non : prm (.isi "int") [.non] = .ok (.bl false) := nr rfl
@[simp] theorem ii_str : prm (.isi "int") [.str s] = .ok (.bl false) := nr rfl
@[simp] theorem ii_lst : prm (.isi "int") [.lst xs] = .ok (.bl false) := nr rfl
@[simp] theorem ii_tup : prm (.isi "int") [.tup xs] = .ok (.bl false) := nr rfl
@[simp] theorem ii_dct : prm (.isi "int") [.dct kv] = .ok (.bl false) := nr rfl
@[simp] theorem bi_bl : prm (.isi "bool") [.bl b] = .ok (.bl true) := nr rfl
end
def isI' : D → Bool
  | .int _ => true
  | _ => false
theorem is_integer {L c : Nat} {x : D} (h : Wv L c x) : m_is_integer x = .ok (.bl (isI' x)) := by
  unfold m_is_integer
  cases h <;> rfl
def two (a t : Str) : D := .lst [.lst [.str a, .str t], .lst [.str a, .str t]]
theorem lsM1 (a : D) : lstM [a] = .ok (.lst [a]) := lst_ok (sz (by simp))
theorem lsM2 (a b : D) : lstM [a, b] = .ok (.lst [a, b]) := lst_ok (sz (by simp))
/-! ### lots built -/
section
variable {m : Nat} {ts : List Tb}
end
end M

set_option Elab.async false
set_option linter.all false
set_option maxRecDepth 100000
set_option maxHeartbeats 4000000
/-! X12: values of any kind judged as tables, as lots. -/
namespace M
open PySem
@[simp] theorem p_neE {xs : List D} : prm .neE [.lst xs] = .ok (.bl (!xs.isEmpty)) := nr rfl
@[simp] theorem p_eqE {xs : List D} : prm .eqE [.lst xs] = .ok (.bl xs.isEmpty) := nr rfl
@[simp] theorem p_eqU {xs : List D} : prm .eqU [.tup xs] = .ok (.bl xs.isEmpty) := nr rfl
section
variable {z : Int} {b : Bool} {s : Str} {kv : List (Str × Int)} {xs : List D}
@[simp] theorem tV_int : prmV (.isi "tuple") [.int z] = .ok (.bl false) := nr rfl
@[simp] theorem tV_bl : prmV (.isi "tuple") [.bl b] = .ok (.bl false) := nr rfl
@[simp] theorem tV_non : prmV (.isi "tuple") [.non] = .ok (.bl false) := nr rfl
@[simp] theorem tV_str : prmV (.isi "tuple") [.str s] = .ok (.bl false) := nr rfl
@[simp] theorem tV_lst : prmV (.isi "tuple") [.lst xs] = .ok (.bl false) := nr rfl
@[simp] theorem tV_dct : prmV (.isi "tuple") [.dct kv] = .ok (.bl false) := nr rfl
end
def smB (z : Int) : Bool := decide ((if z < 0 then -z else z) ≤ 1000000)
def okEl : D → Bool
  | .int z => smB z
  | _ => false
def okRow (n : Nat) : D → Bool
  | .tup xs => xs.length == n && xs.all okEl
  | _ => false
def okTb : D → Bool
  | .tup xs => decide (1 ≤ xs.length) && decide (xs.length ≤ 4) && xs.all (okRow xs.length)
  | _ => false
end M

set_option Elab.async false
set_option linter.all false
set_option maxRecDepth 100000
set_option maxHeartbeats 4000000
/-! X13: values of any kind judged as lots. -/
namespace M
open PySem
def tlen : D → Nat
  | .tup xs => xs.length
  | _ => 0
def badL (xs : List D) (i : Nat) : Bool := i == 3 || (!okTb (xs.getD i .non) || !(tlen (xs.getD i .non) == tlen (xs.getD 0 .non)))
def fstWrong (xs : List D) : Option Nat := (List.range xs.length).find? (badL xs)
/-- what the program's judge gives -/
def judged : D → D
  | .tup xs => if xs.isEmpty then .int (-1) else match fstWrong xs with | some i => .int (i : Nat) | none => .non
  | _ => .int (-1)
end M

set_option Elab.async false
set_option linter.all false
set_option maxRecDepth 100000
set_option maxHeartbeats 4000000
/-! X14: what is answered, shown. -/
namespace M
open PySem
theorem on1_one {α : Type} {f : D → Mo α} {a : D} : on1 f [a] = f a := nr rfl
/-- what is shown of the same is the same -/
theorem same_shown {k n : Nat} {d : D} (h : Rp k n d) (hk : k ≤ 64) (hn : n ≤ 1000000) : prm .repr [d] = .ok (tx (rpr d)) ∧ prm .ne [tx (rpr d), tx (rpr d)] = .ok (.bl false) := ⟨p_reprB h hk hn, p_reprNe h⟩
end M

set_option Elab.async false
set_option linter.all false
set_option maxRecDepth 100000
set_option maxHeartbeats 8000000
/-! G19: xs.count(x) of numbers. -/
namespace M
open PySem L2 PyProof.Rows SlX
section
variable {X : Cx}
end
section
variable {W : Wo} {X : Cx} {ex : XK} {n k : Nat} {pos p1 p2 p3 p4 apos : Pos} {a b c : Expr} {A B C : E} {x : Str} {es : List Expr}
end
end M

set_option Elab.async false
set_option linter.all false
set_option maxRecDepth 100000
set_option maxHeartbeats 8000000
/-! G20: xs.index(x); xs.pop(i) in walks that draw. -/
namespace M
open PySem L2 PyProof.Rows SlX
section
variable {W : Wo} {X : Cx} {ex : XK} {n k : Nat} {pos p1 p2 p3 p4 apos : Pos} {a b c : Expr} {A B C : E} {x : Str} {es : List Expr}
end
/-! ### pop -/
section
variable {α γ : Type} {K : Calls} {q : Fm} {e : E}
end
end M

set_option Elab.async false
set_option linter.all false
set_option maxRecDepth 100000
set_option maxHeartbeats 8000000
/-! G21: list(zip(*e, f)). -/
namespace M
open PySem L2 PyProof.Rows
section
variable {Mo : Model} {A : Around} {E : Value → Shared → Prop} {s : Shared} {env : Env} {pos p : Pos} {Q : Value → Shared → Prop}
end
section
variable {α γ : Type} {K : Calls} {q : Fm} {e f : E}
end
end M

set_option Elab.async false
set_option linter.all false
set_option maxRecDepth 100000
set_option maxHeartbeats 4000000
/-! G22: walks over zip(*e) into one name. -/
namespace M
open PySem L2 PyProof.Rows
section
variable {prog : Program} {w : World} {A : Around} {E : Value → Shared → Prop} {s : Shared} {N n i : Nat} {rows : List Src}
end
def RB (K : PySem.W.Frag) (H : Hp) : List (Bool × Addr) → List (List V) → Prop
  | [], [] => True
  | p :: rs, xs :: xss => SqX p.1 K H p.2 xs ∧ RB K H rs xss
  | _, _ => False
theorem RB.len {K : PySem.W.Frag} {H : Hp} : ∀ {rs : List (Bool × Addr)} {vss : List (List V)}, RB K H rs vss → rs.length = vss.length
  | [], [], _ => rfl
  | _ :: _, _ :: _, h => by rw [List.length_cons, List.length_cons, RB.len h.2]
  | [], _ :: _, h => h.elim
  | _ :: _, [], h => h.elim
/-! ### the reading -/
section
variable {Z : Zc} {H : Hp} {R : Pr}
end
end M

set_option Elab.async false
set_option linter.all false
set_option maxRecDepth 100000
set_option maxHeartbeats 4000000
/-! G23: a dict of the module (texts to ints) asked by get. -/
namespace M
open PySem L2 PyProof.Rows SlX
def RelKV : List (Str × Int) → List (Key × Value) → Prop
  | [], [] => True
  | (x, i) :: r, (k, v) :: s => k = .inr x ∧ (∃ t, v = .int i t) ∧ RelKV r s
  | _, _ => False
structure Dg (W : Wo) (x : Str) (kvs : List (Str × Int)) : Prop where
  ex : ∃ (a : Addr) (o : Obj) (vs : List (Key × Value)), W.mg x = some (.ref a) ∧ W.Z.K.lookup a = some o ∧ (a == sysModules) = false ∧ o.IsDictOf (mixKind W.P W.w) vs ∧ RelKV kvs vs
section
variable {X : Cx} {e f : Expr} {x : Str} {p1 apos cpos : Pos} {ty tx : TE} {a : Addr} {o : Obj} {vs : List (Key × Value)} {kvs : List (Str × Int)}
end
section
variable {W : Wo} {X : Cx} {ex : XK} {n : Nat} {p1 apos cpos : Pos} {e f : Expr} {A B : M.E} {x : Str} {kvs : List (Str × Int)}
end
end M

set_option Elab.async false
set_option linter.all false
set_option maxRecDepth 100000
set_option maxHeartbeats 4000000
/-! G24: an instance compared with a value of any kind, in both orders. -/
namespace M
open PySem L2 PyProof.Rows SlX
section
variable {P : Program} {w : World} {A : Around} {E : Value → Shared → Prop} {s : Shared} {K : PySem.W.Frag} {x C f : Addr} {ox : Obj} {od : Option Obj} {v : Value} {T : String}
/-- an instance on the left, a builtin's value on the right -/
theorem rich_left {op : CmpOp} {Q : Value → Shared → Prop} (hu : A.units < cLine) (J : PySem.W.InstAt s.heap x ox C od) (hb : s.TypeIs v T) (hsub : isSubtype (.type T) (.ref C) = pure false)
    (one : wpAny (model P w) A (tryCompare (.ref x) (cmpInfo op).2.1 v) (fun r s2 => ∃ u, r = some u ∧ Q u s2) E s) : wpAny (model P w) A (richCompare op (.ref x) v) Q E s := by
  unfold richCompare
  simp only [PySem.oneThing_ref]
  refine wpAny_holding (wpAny_bind (wpAny_cRoomFor hu (wpAny_bind (J.type.here (wpAny_bind (wpAny_typeOf hb ?_))))))
  rw [show (Value.ref C != Value.type T) = true from by simp]
  simp only [if_true]
  refine wpAny_bind (wpAny_of_eq hsub ?_)
  simp only [Bool.false_eq_true, if_false]
  refine wpAny_bind (wpAny_mono one (fun r s2 z => ?_) fun _ _ z => z)
  obtain ⟨u, rfl, q⟩ := z
  first
    | exact wpAny_pure q
    | exact wpAny_pure (wpAny_pure q)
/-- a builtin's value on the left that declines, an instance on the right -/
theorem rich_right {op : CmpOp} {id : String} {Q : Value → Shared → Prop} (hu : A.units < cLine) (J : PySem.W.InstAt s.heap x ox C od) (hb : s.TypeIs v T) (kin : K.In s.heap) (hsub : PySem.W.subIn K (.ref C) (.type T) = some false) (sl : PySem.Slot T (cmpInfo op).2.1 id)
    (dec : ∀ Q' : Value → Shared → Prop, Q' .notImplemented s → wpAny (model P w) A (call (.builtin id) [v, .ref x]) Q' E s)
    (one : wpAny (model P w) A (tryCompare (.ref x) (cmpInfo op).2.2 v) (fun r s2 => ∃ u, r = some u ∧ Q u s2) E s) : wpAny (model P w) A (richCompare op v (.ref x)) Q E s := by
  unfold richCompare
  simp only [hb.oneThing_none]
  refine wpAny_holding (wpAny_bind (wpAny_cRoomFor hu (wpAny_bind (wpAny_typeOf hb (wpAny_bind (J.type.here ?_))))))
  rw [show (Value.type T != Value.ref C) = true from by simp]
  simp only [if_true]
  refine wpAny_bind ((PySem.W.looks_subIn kin hsub).here ?_)
  simp only [Bool.false_eq_true, if_false]
  refine wpAny_bind (m := tryCompare v _ _) (wpAny_tryCompare_declines hb sl (dec _ ⟨rfl, ?_⟩))
  simp only [Bool.not_false, if_true]
  refine wpAny_bind (wpAny_mono one (fun r s2 z => ?_) fun _ _ z => z)
  obtain ⟨u, rfl, q⟩ := z
  first
    | exact wpAny_pure q
    | exact wpAny_pure (wpAny_pure q)
theorem sub_int (C : Addr) : isSubtype (.type "int") (.ref C) = pure false := by kernel_rfl
theorem sub_bool (C : Addr) : isSubtype (.type "bool") (.ref C) = pure false := by kernel_rfl
theorem sub_str (C : Addr) : isSubtype (.type "str") (.ref C) = pure false := by kernel_rfl
theorem sub_non (C : Addr) : isSubtype (.type "NoneType") (.ref C) = pure false := by kernel_rfl
theorem sub_tup (C : Addr) : isSubtype (.type "tuple") (.ref C) = pure false := by kernel_rfl
theorem sub_lst (C : Addr) : isSubtype (.type "list") (.ref C) = pure false := by kernel_rfl
theorem sub_dct (C : Addr) : isSubtype (.type "dict") (.ref C) = pure false := by kernel_rfl
end
end M

set_option Elab.async false
set_option linter.all false
set_option maxRecDepth 100000
set_option maxHeartbeats 4000000
namespace M
open PySem L2 PyProof.Rows SlX
section
theorem dec_int (b : Int) (u : Tok) (x C dx : Addr) (sl : Array (Option Value)) :
    Meets (Builtin.«int.__eq__» ⟨[.int b u, .ref x], []⟩) (fun _ R s => s.heap.get? x = some { PySem.W.instObj C dx with slots := sl } ∧ R (.ok (.ret .notImplemented)) s) :=
  .of_wp fun prog w A R s h => by obtain ⟨hp, g, d, tk, os⟩ := s; obtain ⟨hl, h⟩ := h; wp_walk using wpAny_loadPart' hl, wpAny_load hl; exact ⟨_, rfl, h⟩
theorem dec_bool (b : Bool) (x C dx : Addr) (sl : Array (Option Value)) :
    Meets (Builtin.«int.__eq__» ⟨[.bool b, .ref x], []⟩) (fun _ R s => s.heap.get? x = some { PySem.W.instObj C dx with slots := sl } ∧ R (.ok (.ret .notImplemented)) s) :=
  .of_wp fun prog w A R s h => by obtain ⟨hp, g, d, tk, os⟩ := s; obtain ⟨hl, h⟩ := h; wp_walk using wpAny_loadPart' hl, wpAny_load hl; exact ⟨_, rfl, h⟩
theorem dec_str (b : Str) (u : Tok) (x C dx : Addr) (sl : Array (Option Value)) :
    Meets (Builtin.«str.__eq__» ⟨[.str b u, .ref x], []⟩) (fun _ R s => s.heap.get? x = some { PySem.W.instObj C dx with slots := sl } ∧ R (.ok (.ret .notImplemented)) s) :=
  .of_wp fun prog w A R s h => by obtain ⟨hp, g, d, tk, os⟩ := s; obtain ⟨hl, h⟩ := h; wp_walk using wpAny_loadPart' hl, wpAny_load hl; exact ⟨_, rfl, h⟩
theorem dec_lst {K : PySem.W.Frag} (l x C : Addr) (ox : Obj) (od : Option Obj) (items : Array Value) (n : Nat) (dd : Option Addr) (sl : Array (Option Value)) (hsub : PySem.W.subIn K (.ref C) (.type "list") = some false) :
    Meets (Builtin.«list.__eq__» ⟨[.ref l, .ref x], []⟩) (fun _ R s => s.heap.get? l = some { cls := .type "list", dict := dd, data := .seq items n, slots := sl } ∧ PySem.W.InstAt s.heap x ox C od ∧ K.In s.heap ∧ R (.ok (.ret .notImplemented)) s) :=
  .of_wp fun prog w A R s h => by
    obtain ⟨hp, g, d, tk, os⟩ := s; obtain ⟨hl, J, kin, h⟩ := h
    wp_walk using wpAny_loadPart' hl, J.type.here, (PySem.W.looks_subIn kin hsub).here; exact ⟨_, rfl, h⟩
theorem dec_tup {K : PySem.W.Frag} (l x C : Addr) (ox : Obj) (od : Option Obj) (items : Array Value) (n : Nat) (dd : Option Addr) (sl : Array (Option Value)) (hsub : PySem.W.subIn K (.ref C) (.type "tuple") = some false) :
    Meets (Builtin.«tuple.__eq__» ⟨[.ref l, .ref x], []⟩) (fun _ R s => s.heap.get? l = some { cls := .type "tuple", dict := dd, data := .seq items n, slots := sl } ∧ PySem.W.InstAt s.heap x ox C od ∧ K.In s.heap ∧ R (.ok (.ret .notImplemented)) s) :=
  .of_wp fun prog w A R s h => by
    obtain ⟨hp, g, d, tk, os⟩ := s; obtain ⟨hl, J, kin, h⟩ := h
    wp_walk using wpAny_loadPart' hl, J.type.here, (PySem.W.looks_subIn kin hsub).here; exact ⟨_, rfl, h⟩
theorem dec_dct {K : PySem.W.Frag} (l x C : Addr) (ox : Obj) (od : Option Obj) (es : Array DictEntry) (ep : Nat) (dd : Option Addr) (sl : Array (Option Value)) (hsub : PySem.W.subIn K (.ref C) (.type "dict") = some false) :
    Meets (Builtin.«dict.__eq__» ⟨[.ref l, .ref x], []⟩) (fun _ R s => s.heap.get? l = some { cls := .type "dict", dict := dd, data := .dict es ep, slots := sl } ∧ PySem.W.InstAt s.heap x ox C od ∧ K.In s.heap ∧ R (.ok (.ret .notImplemented)) s) :=
  .of_wp fun prog w A R s h => by
    obtain ⟨hp, g, d, tk, os⟩ := s; obtain ⟨hl, J, kin, h⟩ := h
    wp_walk using wpAny_loadPart' hl, J.type.here, (PySem.W.looks_subIn kin hsub).here; exact ⟨_, rfl, h⟩
end
end M

set_option Elab.async false
set_option linter.all false
set_option maxRecDepth 100000
set_option maxHeartbeats 4000000
/-! G26: == and != of an instance with a value of any kind, in both orders: readings. -/
namespace M
open PySem L2 PyProof.Rows SlX
/-- data, but no instance, class, exception, at its head -/
def PlV (K : PySem.W.Frag) (v : V) (H : Hp) : Prop := v = .non ∨ (∃ b, v = .bl b) ∨ (∃ i, v = .int i) ∨ (∃ x, v = .str x) ∨ (∃ a xs, v = .ref a ∧ SqT K H a xs) ∨ (∃ a xs, v = .ref a ∧ SqL K H a xs) ∨ ∃ a kvs, v = .ref a ∧ H a = some (dctH kvs)
def seven : List String := ["int", "str", "tuple", "list", "bool", "NoneType", "dict"]
section
variable {X : Cx} {pins : List (Addr × Obj)} {σ : Sg} {H : Hp} {s : Shared} {v : V} {u : Value} {b C dx : Addr} {vs : List (Option V)} {A : Around} {E : Value → Shared → Prop}
theorem plv_dec (I : Inv X pins σ H s) (h : PlV X.K v H) (ru : RelV v u) (J : Slt H b C dx vs) (hs : ∀ t ∈ seven, PySem.W.subIn X.K (.ref C) (.type t) = some false) : ∃ T id, s.TypeIs u T ∧ T ∈ seven ∧ isSubtype (.type T) (.ref C) = pure false ∧ PySem.Slot T (cmpInfo .Eq).2.1 id ∧
    ∀ Q' : Value → Shared → Prop, Q' .notImplemented s → wpAny (model X.prog X.w) A (call (.builtin id) [u, .ref b]) Q' E s := by
  obtain ⟨sl, od, _, J0, _⟩ := slt_inst I J
  rcases h with rfl | ⟨z, rfl⟩ | ⟨z, rfl⟩ | ⟨z, rfl⟩ | ⟨a, xs, rfl, h⟩ | ⟨a, xs, rfl, h⟩ | ⟨a, kvs, rfl, h⟩
  · cases (show u = Value.none from ru)
    exact ⟨"NoneType", _, rfl, by decide, sub_non C, F.slot_NoneType_eq, fun Q' hq => call_gives F.slot_NoneType_eq rfl F.entry_NoneType_eq (F.args_NoneType_eq_2 _ _) (SeqAt.NoneType___eq___none_ref_0 b) hq⟩
  · cases (show u = Value.bool z from ru)
    exact ⟨"bool", _, rfl, by decide, sub_bool C, F.slot_bool_eq, fun Q' hq => call_meets F.slot_bool_eq rfl F.entry_int_eq (F.args_int_eq_2 _ _) (dec_bool z b C dx sl) ⟨J0.at_, hq⟩⟩
  · obtain ⟨t, rfl⟩ : ∃ t, u = Value.int z t := ru
    exact ⟨"int", _, rfl, by decide, sub_int C, F.slot_int_eq, fun Q' hq => call_meets F.slot_int_eq rfl F.entry_int_eq (F.args_int_eq_2 _ _) (dec_int z t b C dx sl) ⟨J0.at_, hq⟩⟩
  · obtain ⟨t, rfl⟩ : ∃ t, u = Value.str z t := ru
    exact ⟨"str", _, rfl, by decide, sub_str C, F.slot_str_eq, fun Q' hq => call_meets F.slot_str_eq rfl F.entry_str_eq (F.args_str_eq_2 _ _) (dec_str z t b C dx sl) ⟨J0.at_, hq⟩⟩
  · cases (show u = Value.ref a from ru)
    obtain ⟨its, rv, ⟨⟨cls, dd, data, sl2⟩, ho, hc, n, hd⟩, _⟩ := I.tuple h
    simp only at hc hd
    subst hc hd
    exact ⟨"tuple", _, ⟨_, ho, rfl⟩, by decide, sub_tup C, F.slot_tuple_eq, fun Q' hq => call_meets F.slot_tuple_eq ⟨_, ho, rfl⟩ F.entry_tuple_eq (F.args_tuple_eq_2 _ _) (dec_tup a b C _ _ its.toArray n dd sl2 (hs "tuple" (by decide))) ⟨ho, J0, I.kIn, hq⟩⟩
  · cases (show u = Value.ref a from ru)
    obtain ⟨its, rv, ⟨⟨cls, dd, data, sl2⟩, n, ho, hc, hdn, hd⟩, _⟩ := I.list h
    simp only at hc hd
    subst hc hd
    exact ⟨"list", _, ⟨_, ho, rfl⟩, by decide, sub_lst C, F.slot_list_eq, fun Q' hq => call_meets F.slot_list_eq ⟨_, ho, rfl⟩ F.entry_list_eq (F.args_list_eq_2 _ _) (dec_lst a b C _ _ its.toArray n dd sl2 (hs "list" (by decide))) ⟨ho, J0, I.kIn, hq⟩⟩
  · cases (show u = Value.ref a from ru)
    obtain ⟨_, _, ws, _, ⟨cls, dd, data, sl2⟩, es, ep, ho, ⟨hc, hdn, hsl⟩, hd, _⟩ := dk_of I.hok h
    simp only at hc hdn hsl hd
    subst hc hdn hsl hd
    exact ⟨"dict", _, ⟨_, ho, rfl⟩, by decide, sub_dct C, F.slot_dict_eq, fun Q' hq => call_meets F.slot_dict_eq ⟨_, ho, rfl⟩ F.entry_dict_eq (F.args_dict_eq_2 _ _) (dec_dct a b C _ _ es ep none #[] (hs "dict" (by decide))) ⟨ho, J0, I.kIn, hq⟩⟩
end
section
variable {X : Cx} {CX : CXT} {C f : Addr} {sp : Sp} {E : XK} {n : Nat}
/-- an instance, then any value -/
def rOwnL (K : PySem.W.Frag) (C : Addr) (sp : Sp) (E : XK) (g : Bool → Bool) : R2 := fun x y H Q => ∃ a dx vs, x = .ref a ∧ Slt H a C dx vs ∧ PlV K y H ∧ sp [x, y] H (fun z H' => ∃ c, z = .bl c ∧ Q (.bl (g c)) H') E
/-- any value, then an instance -/
def rOwnR (K : PySem.W.Frag) (C : Addr) (sp : Sp) (E : XK) (g : Bool → Bool) : R2 := fun x y H Q => ∃ a dx vs, y = .ref a ∧ Slt H a C dx vs ∧ PlV K x H ∧ sp [y, x] H (fun z H' => ∃ c, z = .bl c ∧ Q (.bl (g c)) H') E
theorem op_eqL (hs : PySem.W.findIn X.K (.ref C) "__eq__" = some (some (.ref f))) (hf : PySem.W.isFn X.K (.ref f) = true) (F : FnG X.prog X.w X.K X.mg X.base CX n f sp) (qu : Qu X.A) (hr : Room n X.A) (hx : Passes CX X E) (h7 : ∀ t ∈ seven, PySem.W.subIn X.K (.ref C) (.type t) = some false) : OpR X (compareOp .Eq) (rOwnL X.K C sp E id) := by
  intro pins s σ H x y v u Q I rx ry h
  obtain ⟨a, dx, vs, rfl, ha, pl, q⟩ := h
  cases (show v = Value.ref a from rx)
  obtain ⟨sl, od, _, J, _⟩ := slt_inst I ha
  obtain ⟨T, id', ty, _, hsub, _, _⟩ := plv_dec (A := X.A) (E := X.xe) I pl ry ha h7
  have go : wpAny (model X.prog X.w) X.A (call (.ref f) [.ref a, u]) (EP X pins σ _) X.xe s := wpAny_call (run_G (us := [.ref a, u]) (vs := [.ref a, y]) F qu hr I.env0 hx I (.cons rfl (.cons ry .nil)) q)
  show wpAny (model X.prog X.w) X.A (richCompare .Eq (.ref a) u) _ _ _
  refine rich_left hr.units0 J ty hsub ?_
  unfold tryCompare
  refine wpAny_bind (PySem.W.ifBound_K I.kIn J hs hf (wpAny_mono go (fun r s2 z => ?_) fun _ _ z => z))
  obtain ⟨z2, H2, I2, rz, c, ez, qz⟩ := z
  subst ez
  cases (show r = Value.bool c from rz)
  exact wpAny_pure ⟨_, rfl, .bl c, H2, I2, rfl, qz⟩
theorem op_neL (hm : PySem.W.mroIn X.K C (.type "object") = some true) (hn : PySem.W.findIn X.K (.ref C) "__ne__" = some (some (.builtin "object.__ne__"))) (hs : PySem.W.findIn X.K (.ref C) "__eq__" = some (some (.ref f))) (hf : PySem.W.isFn X.K (.ref f) = true) (F : FnG X.prog X.w X.K X.mg X.base CX n f sp) (qu : Qu X.A) (hr : Room (n + 1) X.A) (hx : Passes CX X E) (h7 : ∀ t ∈ seven, PySem.W.subIn X.K (.ref C) (.type t) = some false) : OpR X (compareOp .NotEq) (rOwnL X.K C sp E Bool.not) := by
  intro pins s σ H x y v u Q I rx ry h
  obtain ⟨a, dx, vs, rfl, ha, pl, q⟩ := h
  cases (show v = Value.ref a from rx)
  obtain ⟨sl, od, _, J, _⟩ := slt_inst I ha
  obtain ⟨T, id', ty, _, hsub, _, _⟩ := plv_dec (A := X.A) (E := X.xe) I pl ry ha h7
  have hr2 : Room n X.A.in1 := Room.in1 hr
  have go : wpAny (model X.prog X.w) X.A.in1 (call (.ref f) [.ref a, u]) (EP X pins σ _) X.xe s := wpAny_call (run_G (us := [.ref a, u]) (vs := [.ref a, y]) F qu.in1 hr2 I.env0.in1 hx I (.cons rfl (.cons ry .nil)) q)
  show wpAny (model X.prog X.w) X.A (richCompare .NotEq (.ref a) u) _ _ _
  refine rich_left (hr.mono (Nat.le_succ n)).units0 J ty hsub ?_
  unfold tryCompare
  refine wpAny_bind (bound_bltn I.kIn J (by exact hn) (fun self => rfl) (wpAny_call (codeAny_call_builtin (by decide +kernel) PySem.F.cmpEntry_ne
    (PySem.W.check_slot (i := "object.__ne__") (owner := "object") (n := "__ne__") (by decide +kernel) (by decide +kernel) (J.type.andThen (PySem.W.looks_mroIn I.kIn hm)) (PySem.F.cmpArgs_ne (.ref a) u) ?_))))
  unfold Builtin.«object.__ne__»
  refine wpAny_bind (m := slotArgs "__ne__" 1 _) (wpAny_pure (wpAny_bind (wpAny_cRoomFor hr2.units0 (wpAny_bind (m := callSpecialIfBound? (.ref a) (Str.ofString "__eq__") _) (PySem.W.ifBound_K I.kIn J hs hf (wpAny_mono go (fun r s2 z => ?_) fun _ _ z => z))))))
  obtain ⟨z2, H2, I2, rz, c, ez, qz⟩ := z
  subst ez
  cases (show r = Value.bool c from rz)
  exact wpAny_bind (wpAny_truthy_bool (wpAny_pure (wpAny_pure ⟨_, rfl, .bl (!c), H2, I2, rfl, qz⟩)))
theorem op_eqR (hs : PySem.W.findIn X.K (.ref C) "__eq__" = some (some (.ref f))) (hf : PySem.W.isFn X.K (.ref f) = true) (F : FnG X.prog X.w X.K X.mg X.base CX n f sp) (qu : Qu X.A) (hr : Room n X.A) (hx : Passes CX X E) (h7 : ∀ t ∈ seven, PySem.W.subIn X.K (.ref C) (.type t) = some false) : OpR X (compareOp .Eq) (rOwnR X.K C sp E id) := by
  intro pins s σ H x y v u Q I rx ry h
  obtain ⟨a, dx, vs, rfl, ha, pl, q⟩ := h
  cases (show u = Value.ref a from ry)
  obtain ⟨sl, od, _, J, _⟩ := slt_inst I ha
  obtain ⟨T, id', ty, hT, _, slt, dec⟩ := plv_dec (A := X.A) (E := X.xe) I pl rx ha h7
  have go : wpAny (model X.prog X.w) X.A (call (.ref f) [.ref a, v]) (EP X pins σ _) X.xe s := wpAny_call (run_G (us := [.ref a, v]) (vs := [.ref a, x]) F qu hr I.env0 hx I (.cons rfl (.cons rx .nil)) q)
  show wpAny (model X.prog X.w) X.A (richCompare .Eq v (.ref a)) _ _ _
  refine rich_right hr.units0 J ty I.kIn (h7 T hT) slt dec ?_
  unfold tryCompare
  refine wpAny_bind (PySem.W.ifBound_K I.kIn J hs hf (wpAny_mono go (fun r s2 z => ?_) fun _ _ z => z))
  obtain ⟨z2, H2, I2, rz, c, ez, qz⟩ := z
  subst ez
  cases (show r = Value.bool c from rz)
  exact wpAny_pure ⟨_, rfl, .bl c, H2, I2, rfl, qz⟩
end
end M

set_option Elab.async false
set_option linter.all false
set_option maxRecDepth 100000
set_option maxHeartbeats 4000000
/-! G27: a dict of the module by its object; defs that a local dict holds, called. -/
namespace M
open PySem L2 PyProof.Rows SlX
/-! ### the module's dict -/
def entsK (w : World) : List (Str × Int) → List (Tok × Tok) → List DictEntry
  | (x, i) :: r, (t, u) :: ts => { hash := PyData.keyHash w.params x, key := .str x t, val := .int i u } :: entsK w r ts
  | _, _ => []
structure DgK (w : World) (K : PySem.W.Frag) (mg : Str → Option Value) (x : Str) (kvs : List (Str × Int)) : Prop where
  ex : ∃ (a : Addr) (ts : List (Tok × Tok)) (ep : Nat), mg x = some (.ref a) ∧ K.lookup a = some { cls := .type "dict", data := .dict (entsK w kvs ts).toArray ep } ∧ (a == sysModules) = false ∧ ts.length = kvs.length ∧ (kvs.map (·.1)).Nodup
/-! ### defs held by a local dict -/
end M

set_option Elab.async false
set_option linter.all false
set_option maxRecDepth 100000
set_option maxHeartbeats 4000000
/-! G28: `x = {'a': f, ..}`, `return x[k[0]](..)`: a def that a local dict holds. -/
namespace M
open PySem L2 PyProof.Rows SlX
section
variable {X : Cx} {E : XK} {x : Str} {i k : Nat} {ke e : Expr} {es : List Expr} {p3 p4 p5 : Pos} {tk : TE} {t : TA} {CX : CXT}
end
section
variable {Z : Zc} {K : Calls} {ex : XK} {R0 : Pr} {σ : Sg} {q : Fm} {H : Hp}
end
section
variable {W : Wo} {X : Cx} {ex : XK} {n k : Nat} {x : Str} {i iv : Nat} {ke e : Expr} {es : List Expr} {p1 p2 p3 p4 p5 p6 pd : Pos} {keys : List (Option Expr)} {vals : List Expr} {gs : Gs}
end
end M

set_option Elab.async false
set_option linter.all false
set_option maxRecDepth 100000
set_option maxHeartbeats 4000000
/-! G29: the same with four defs, some of which may never be called. -/
namespace M
open PySem L2 PyProof.Rows SlX
section
variable {W : Wo} {X : Cx} {ex : XK} {n k : Nat} {x : Str} {i iv : Nat} {ke e : Expr} {es : List Expr} {p1 p2 p3 p4 p5 p6 pd : Pos} {gs : Gs}
  {n1 n2 n3 n4 g1 g2 g3 g4 : Str} {o1 o2 o3 o4 : Option Nat} {j1 j2 j3 j4 : Nat} {q1 q2 q3 q4 r1 r2 r3 r4 : Pos}
end
end M

set_option Elab.async false
set_option linter.all false
set_option maxRecDepth 100000
set_option maxHeartbeats 4000000
/-! G30: x in a list, x an instance whose class has its own ==. -/
namespace M
section
open PySem PySem.SeqAt GQ
open AutoSeq1 (wpAny_loadPart')
open MeetsSeq MeetsSeq2 MeetsSeq3 SeqRoads2
variable {prog : Program} {w : World} {A : Around} {R : Result → Shared → Prop} {E : Value → Shared → Prop}
/-- at each turn the list is read anew: N items, the i-th compared with x -/
def ConI (prog : Program) (w : World) (A : Around) (R : Result → Shared → Prop) (l : Addr) (x : Value) (N : Nat) (I : Nat → Shared → Prop) : Prop :=
  ∀ i s, I i s → ∃ (items : Array Value) (n : Nat) (dd : Option Addr) (sl : Array (Option Value)), s.heap.get? l = some { cls := .type "list", dict := dd, data := .seq items n, slots := sl } ∧ items.size = N ∧
    ∀ (h1 : i < items.size), wpAny (model prog w) A.in1 (eqBool items[i] x) (fun r s' => if r = true then R (.ok (.ret (.bool true))) s' else I (i + 1) s') (fun e s' => R (.error e) s') s
theorem con_loopG (l : Addr) (x : Value) (N : Nat) (I : Nat → Shared → Prop) (hl : ConI prog w A R l x N I) (fin : ∀ s, I N s → R (.ok (.ret (.bool false))) s) (k : Nat) :
    ∀ i : Nat, N - i = k → i ≤ N → ∀ s, I i s → wpAny (model prog w) A.in1 (Builtin.«list.__contains__.loop» ⟨[.ref l, x, rawInt i], []⟩) (FinOf prog w A R) (fun e s' => R (.error e) s') s := by
  induction k with
  | zero =>
    intro i hk hi s h
    obtain ⟨items, n, dd, sl, hl1, hs1, _⟩ := hl _ _ h
    have hi' : i = N := by omega
    have hR : R (.ok (.ret (.bool false))) s := fin s (hi' ▸ h)
    obtain ⟨hp, g, d, tk, os⟩ := s
    wp_walk using wpAny_loadPart' hl1
    have hi1 : items[((i : Nat) : Int).toNat]? = none := by simp; omega
    rw [hi1]
    wp_walk
    exact hR
  | succ k ih =>
    intro i hk hi s h
    obtain ⟨items, n, dd, sl, hl1, hs1, turn⟩ := hl _ _ h
    have hlt : i < items.size := by omega
    have ht := turn hlt
    obtain ⟨hp, g, d, tk, os⟩ := s
    wp_walk using wpAny_loadPart' hl1
    have hi1 : items[((i : Nat) : Int).toNat]? = some items[i] := by simp [hlt]
    have hc : ((i : Int) + 1) = ((i + 1 : Nat) : Int) := by omega
    rw [hi1]
    refine wpAny_bind (wpAny_mono ht (fun r s2 h2 => ?_) fun _ _ x => x)
    cases r with
    | true =>
      have h2 : R (.ok (.ret (.bool true))) s2 := h2
      obtain ⟨hp2, g2, d2, tk2, os2⟩ := s2
      wp_walk
      exact h2
    | false =>
      have h2 : I (i + 1) s2 := h2
      have hrec := ih (i + 1) (by omega) (by omega) s2 h2
      obtain ⟨hp2, g2, d2, tk2, os2⟩ := s2
      wp_walk
      rw [hc]
      exact ⟨plainId_quiet plain_contains_loop _, codeAny_builtin entry_contains_loop (by
        rw [Around.under_plainId plain_contains_loop _]
        exact hrec)⟩
theorem list_conG (l : Addr) (x : Value) (N : Nat) (I : Nat → Shared → Prop) (hl : ConI prog w A R l x N I) (fin : ∀ s, I N s → R (.ok (.ret (.bool false))) s) {s : Shared} (h : I 0 s) :
    wpAny (model prog w) A.in1 (Builtin.«list.__contains__» ⟨[.ref l, x], []⟩) (FinOf prog w A R) (fun e s' => R (.error e) s') s := by
  obtain ⟨items, n, dd, sl, hl1, hs1, _⟩ := hl _ _ h
  have hrec := con_loopG (A := A) (R := R) l x N I hl fin _ 0 rfl (Nat.zero_le _) s h
  obtain ⟨hp, g, d, tk, os⟩ := s
  wp_walk using wpAny_loadPart' hl1
  exact ⟨plainId_quiet plain_contains_loop _, codeAny_builtin entry_contains_loop (by
    rw [Around.under_plainId plain_contains_loop _]
    exact hrec)⟩
theorem in_listG {l : Addr} {x : Value} {N : Nat} {Q : Value → Shared → Prop} {neg : Bool} (I : Nat → Shared → Prop)
    (hl : ConI prog w A (wants (fun v s' => ∃ b, v = .bool b ∧ Q (.bool (b != neg)) s') E) l x N I) (fin : ∀ s, I N s → Q (.bool (false != neg)) s) {s : Shared} (h : I 0 s) : wpAny (model prog w) A (compareOp (if neg then .NotIn else .In) x (.ref l)) Q E s := by
  obtain ⟨items, n, dd, sl, hl1, _, _⟩ := hl _ _ h
  have ty : s.TypeIs (.ref l) "list" := ⟨_, hl1, rfl⟩
  have body := call_here (A := A) (E := E) (Q := fun v s' => ∃ b, v = .bool b ∧ Q (.bool (b != neg)) s') F.slot_list_contains ty F.entry_list_contains (F.args_list_contains_2 _ _) (list_conG (R := wants (fun v s' => ∃ b, v = .bool b ∧ Q (.bool (b != neg)) s') E) l x N I hl (fun s' q => ⟨_, rfl, fin s' q⟩) h)
  cases neg with
  | false =>
    show wpAny _ A (do return .bool (← contains (.ref l) x)) Q E s
    refine wpAny_bind (wpAny_contains_slot ty F.slot_list_contains (wpAny_mono body (fun v s' hv => ?_) fun _ _ e => e))
    obtain ⟨b, rfl, hq⟩ := hv
    exact wpAny_truthy_bool (wpAny_pure (by simpa using hq))
  | true =>
    show wpAny _ A (do return .bool (!(← contains (.ref l) x))) Q E s
    refine wpAny_bind (wpAny_contains_slot ty F.slot_list_contains (wpAny_mono body (fun v s' hv => ?_) fun _ _ e => e))
    obtain ⟨b, rfl, hq⟩ := hv
    exact wpAny_truthy_bool (wpAny_pure (by simpa using hq))
end
end M

set_option Elab.async false
set_option linter.all false
set_option maxRecDepth 100000
set_option maxHeartbeats 4000000
/-! G31: the reading of `x in l`, x an instance whose class has its own ==. -/
namespace M
open PySem L2 PyProof.Rows SlX
structure KpT (H H' : Hp) : Prop where
  kp : ∀ b o, H b = some o → NT o → H' b = some o
  tr : ∀ b, H b ≠ none → H' b ≠ none
theorem KpT.refl (H : Hp) : KpT H H := ⟨fun _ _ h _ => h, fun _ h => h⟩
theorem KpT.trans {H H1 H2 : Hp} (a : KpT H H1) (b : KpT H1 H2) : KpT H H2 := ⟨fun c o h n => b.kp c o (a.kp c o h n) n, fun c h => b.tr c (a.tr c h)⟩
theorem KpT.lat {R : Pr} {H H' : Hp} (k : KpT H H') : Lat R H R H' := ⟨fun b o h _ n => k.kp b o h n, fun _ h => .inl h, k.tr⟩
theorem spF_two {Z : Zc} {K : Calls} {f : Nat} {E : XK} {R : Pr} {H : Hp} {v u : V} {d e : D} {b : Bool} {Q : VK} (g : Grd Z H) (tr : ∀ b, R b → H b ≠ none) (rv : Rep Z H R v d) (ru : Rep Z H R u e) (hb : boolR (noSlot (K.fn f [.sh false d, .sh false e])) = some b) (q : ∀ H', KpT H H' → Grd Z H' → Q (.bl b) H') : spF Z K f [v, u] H Q E := by
  have no : ∀ c, ¬ Ow ([v, u].map some) [.sh false d, .sh false e] c := fun c ⟨i, b', d', h1, _⟩ => by
    match i, h1 with
    | 0, h1 => cases h1
    | 1, h1 => cases h1
    | n + 2, h1 => simp at h1
  have up : ∀ {w : V} {x : D}, Rep Z H R w x → Rep Z H (Rt R ([v, u].map some) [.sh false d, .sh false e]) w x := fun h => h.lat (Lat.sub fun c z => Or.elim z id fun z => (no c z).elim)
  refine ⟨R, [.sh false d, .sh false e], ⟨rfl, g, tr, fun i b' x h => ?_, fun i b' x h => ?_, fun i j b' b'' x x' a h => ?_⟩, ?_⟩
  · match i, h with
    | 0, h => cases h; exact ⟨v, rfl, up rv⟩
    | 1, h => cases h; exact ⟨u, rfl, up ru⟩
    | n + 2, h => simp at h
  · match i, h with
    | 0, h => cases h
    | 1, h => cases h
    | n + 2, h => simp at h
  · match i, h with
    | 0, h => cases h
    | 1, h => cases h
    | n + 2, h => simp at h
  · show An _ _ _ _ _ _ _ _ (noSlot (K.fn f [.sh false d, .sh false e]))
    cases hk : noSlot (K.fn f [.sh false d, .sh false e]) with
    | bad => rw [hk] at hb; cases hb
    | exc c ds q' => rw [hk] at hb; cases hb
    | ok r q' =>
      rw [hk] at hb
      cases r with
      | new x => cases hb
      | slot i => cases hb
      | val x =>
        cases x with
        | bl c =>
          cases hb
          intro w H' l bk p
          obtain ⟨f', rp⟩ := p
          cases rp
          exact q H' ⟨fun b o hb nt => l.kp b o hb (no b) nt, l.tr⟩ f'.tb
        | _ => cases hb
theorem inLoop_true {call : D → Option Bool} {b : Bool} : ∀ {ds : List D}, inLoop call true ds = some b → b = true
  | [], h => by cases h
  | d :: ds, h => by
    unfold inLoop at h
    cases hc : call d with
    | none => rw [hc] at h; cases h
    | some c =>
      rw [hc] at h
      cases c with
      | true => cases h; rfl
      | false => exact inLoop_true (ds := ds) h
section
variable {prog : Program} {w : World} {A : Around} {E : Value → Shared → Prop} {s : Shared}
theorem eqBool_any {u : Value} {xa : Addr} {Q : Bool → Shared → Prop} (hne : u ≠ .ref xa) (h : wpAny (model prog w) A (richCompare .Eq u (.ref xa)) (fun v s' => ∃ r, v = .bool r ∧ Q r s') E s) : wpAny (model prog w) A (eqBool u (.ref xa)) Q E s := by
  unfold eqBool
  refine wpAny_holding ?_
  refine wpAny_ite_split (fun hab => absurd (eq_of_beq hab) hne) (fun _ => ?_)
  cases u <;> exact wpAny_bind (wpAny_mono h (fun v s' hv => by
    obtain ⟨r, rfl, q⟩ := hv
    exact wpAny_truthy_bool q) fun _ _ x => x)
end
/-- x in l (not in): x an instance -/
def rIn (Z : Zc) (K : Calls) (c f : Nat) (neg : Bool) : R2 := fun x y H Q => ∃ (R : Pr) (xa p : Addr) (xs : List V) (fs : List D) (ds : List D) (b : Bool), x = .ref xa ∧ y = .ref p ∧ SqL Z.K H p xs ∧ RepL Z H R xs ds ∧ Rep Z H R x (.ins c fs) ∧ Grd Z H ∧ (∀ b, R b → H b ≠ none) ∧
  inLoop (eqCall K c f (.ins c fs)) false ds = some b ∧ ∀ H', KpT H H' → Grd Z H' → Q (.bl (b != neg)) H'
theorem sqL_kp {K : PySem.W.Frag} {H H' : Hp} {a : Addr} {xs : List V} (k : KpT H H') (h : SqL K H a xs) : SqL K H' a xs := by
  rcases h with h | h
  · rcases h with h | ⟨o, h⟩
    · exact .inl (.inl (k.kp _ _ h fun _ z => nomatch z))
    · exact .inl (.inr ⟨o, k.kp _ _ h fun _ z => nomatch z⟩)
  · exact .inr h
theorem plv_rep {Z : Zc} {H : Hp} {R : Pr} {v : V} {d : D} (h : Rep Z H R v d) (n1 : ∀ c fs, d ≠ .ins c fs) (n2 : ∀ c, d ≠ .cls c) (n3 : ∀ c fs, d ≠ .exn c fs) : PlV Z.K v H := by
  cases h with
  | non => exact .inl rfl
  | bl b => exact .inr (.inl ⟨b, rfl⟩)
  | int i => exact .inr (.inr (.inl ⟨i, rfl⟩))
  | str x => exact .inr (.inr (.inr (.inl ⟨x, rfl⟩)))
  | tup a b => exact .inr (.inr (.inr (.inr (.inl ⟨_, _, rfl, a.sq⟩))))
  | lst a b => exact .inr (.inr (.inr (.inr (.inr (.inl ⟨_, _, rfl, a.sq⟩)))))
  | dct h1 _ => exact .inr (.inr (.inr (.inr (.inr (.inr ⟨_, _, rfl, h1⟩)))))
  | ins _ _ _ _ _ _ => exact absurd rfl (n1 _ _)
  | cls c => exact absurd rfl (n2 _)
  | exn _ _ _ _ _ _ _ => exact absurd rfl (n3 _ _)
  | exn0 _ _ _ _ => exact absurd rfl (n3 _ _)
section
variable {X : Cx} {CX : CXT} {Z : Zc} {K : Calls} {E : XK} {c f k : Nat} {fa : Addr} {neg : Bool}
theorem op_in (hZ : X.K = Z.K) (hs : PySem.W.findIn X.K (.ref (Z.C c)) "__eq__" = some (some (.ref fa))) (hf : PySem.W.isFn X.K (.ref fa) = true) (F : FnG X.prog X.w X.K X.mg X.base CX k fa (spF Z K f)) (qu : Qu X.A) (hr : Room (k + 1) X.A) (hx : Passes CX X E) (h7 : ∀ t ∈ seven, PySem.W.subIn X.K (.ref (Z.C c)) (.type t) = some false) :
    OpR X (compareOp (if neg then .NotIn else .In)) (rIn Z K c f neg) := by
  intro pins s σ H x y v u Q I rx ry h
  obtain ⟨R, xa, p, xs, fs, ds, b, rfl, rfl, sq, rl, rp, g, tr, lp, q⟩ := h
  cases (show v = Value.ref xa from rx)
  cases (show u = Value.ref p from ry)
  have hr2 : Room k X.A.in1 := Room.in1 hr
  refine in_listG (N := ds.length) (fun i s' => ∃ H', Inv X pins σ H' s' ∧ KpT H H' ∧ Grd Z H' ∧ ∃ seen, inLoop (eqCall K c f (.ins c fs)) seen (ds.drop i) = some b) ?_ ?_ ⟨H, I, KpT.refl H, g, false, by rw [List.drop_zero]; exact lp⟩
  · rintro i s' ⟨H', I', kp, g', seen, lp'⟩
    have sq' := sqL_kp kp sq
    rw [← hZ] at sq'
    obtain ⟨its, rv, ⟨⟨cls, dd, data, sl⟩, n, ho, hc, hdn, hd⟩, _⟩ := I'.list sq'
    simp only at hc hdn hd
    subst hc hdn hd
    have hlen : its.length = ds.length := by rw [← rv.length, rl.length]
    refine ⟨its.toArray, n, none, sl, ho, by simpa using hlen, fun h1 => ?_⟩
    have hi : i < ds.length := by rw [← hlen]; simpa using h1
    have rp' : Rep Z H' R (.ref xa) (.ins c fs) := rp.lat kp.lat
    have tr' : ∀ b, R b → H' b ≠ none := fun b z => kp.tr b (tr b z)
    obtain ⟨vk, hv, rk0⟩ := rl.get (i := i) (d := ds[i]) (List.getElem?_eq_getElem hi)
    have rk : Rep Z H' R vk ds[i] := rk0.lat kp.lat
    obtain ⟨uk, hu, ruk⟩ := rv.get hv
    have hitem : its.toArray[i] = uk := by
      have : its[i]? = some uk := hu
      have h2 : i < its.length := by simpa using h1
      rw [List.getElem?_eq_getElem h2] at this
      simpa using Option.some.inj this
    rw [hitem]
    have hdrop : ds.drop i = ds[i] :: ds.drop (i + 1) := List.drop_eq_getElem_cons hi
    rw [hdrop] at lp'
    unfold inLoop at lp'
    obtain ⟨_, ax, dx, vs, e1, hsx, _⟩ := slt_of rp'
    cases e1
    obtain ⟨slx, odx, _, Jx, _⟩ := slt_inst I' hsx
    have done : ∀ s2 H2, Inv X pins σ H2 s2 → KpT H H2 → Grd Z H2 → b = true → wants (fun v s' => ∃ b, v = .bool b ∧ EP X pins σ Q (.bool (b != neg)) s') X.xe (.ok (.ret (.bool true))) s2 := fun s2 H2 I2 k2 g2 hb => by
      subst hb
      exact ⟨true, rfl, .bl (true != neg), H2, I2, rfl, q H2 k2 g2⟩
    -- what the def tells
    have told : ∀ (v1 v2 : V) (u1 u2 : Value) (d1 d2 : D) (bk : Bool), RelV v1 u1 → RelV v2 u2 → Rep Z H' R v1 d1 → Rep Z H' R v2 d2 → boolR (noSlot (K.fn f [.sh false d1, .sh false d2])) = some bk →
        (match (some bk : Option Bool) with
          | some true => some true
          | some false => inLoop (eqCall K c f (.ins c fs)) (seen || isIns ds[i]) (ds.drop (i + 1))
          | none => none) = some b →
        wpAny (model X.prog X.w) X.A.in1 (call (.ref fa) [u1, u2]) (fun v s2 => ∃ r, v = .bool r ∧ if r = true then wants (fun v s' => ∃ b, v = .bool b ∧ EP X pins σ Q (.bool (b != neg)) s') X.xe (.ok (.ret (.bool true))) s2 else ∃ H2, Inv X pins σ H2 s2 ∧ KpT H H2 ∧ Grd Z H2 ∧ ∃ seen, inLoop (eqCall K c f (.ins c fs)) seen (ds.drop (i + 1)) = some b) X.xe s' := fun v1 v2 u1 u2 d1 d2 bk r1 r2 p1 p2 hb hl => by
      have sp := spF_two (Q := fun z H2 => z = .bl bk ∧ KpT H' H2 ∧ Grd Z H2) (E := E) g' tr' p1 p2 hb (fun H2 k2 g2 => ⟨rfl, k2, g2⟩)
      refine wpAny_mono (wpAny_call (run_G (us := [u1, u2]) (vs := [v1, v2]) F qu.in1 hr2 I'.env0.in1 hx I' (.cons r1 (.cons r2 .nil)) sp)) (fun r s2 z => ?_) fun _ _ y => y
      obtain ⟨z2, H2, I2, rz, ez, k2, g2⟩ := z
      subst ez
      cases (show r = Value.bool bk from rz)
      refine ⟨bk, rfl, ?_⟩
      cases bk with
      | true => cases hl; exact done s2 H2 I2 (kp.trans k2) g2 rfl
      | false => exact ⟨H2, I2, kp.trans k2, g2, _, hl⟩
    have plain : (∀ c' fs', ds[i] ≠ .ins c' fs') → (∀ c', ds[i] ≠ .cls c') → (∀ c' fs', ds[i] ≠ .exn c' fs') → wpAny (model X.prog X.w) X.A.in1 (eqBool uk (.ref xa)) (fun r s2 => if r = true then wants (fun v s' => ∃ b, v = .bool b ∧ EP X pins σ Q (.bool (b != neg)) s') X.xe (.ok (.ret (.bool true))) s2 else ∃ H2, Inv X pins σ H2 s2 ∧ KpT H H2 ∧ Grd Z H2 ∧ ∃ seen, inLoop (eqCall K c f (.ins c fs)) seen (ds.drop (i + 1)) = some b) X.xe s' := fun n1 n2 n3 => by
      have ec : eqCall K c f (.ins c fs) ds[i] = boolR (noSlot (K.fn f [.sh false (.ins c fs), .sh false ds[i]])) := by
        cases hd : ds[i] with
        | ins c' fs' => exact absurd hd (n1 _ _)
        | cls c' => exact absurd hd (n2 _)
        | exn c' fs' => exact absurd hd (n3 _ _)
        | _ => rfl
      rw [ec] at lp'
      cases hbk : boolR (noSlot (K.fn f [.sh false (.ins c fs), .sh false ds[i]])) with
      | none => rw [hbk] at lp'; cases lp'
      | some bk =>
        rw [hbk] at lp'
        obtain ⟨T, id', ty, hT, _, slt, dec⟩ := plv_dec (A := X.A.in1) (E := X.xe) I' (by rw [hZ]; exact plv_rep rk n1 n2 n3) ruk hsx h7
        have hne : uk ≠ .ref xa := fun e => by
          subst e
          obtain ⟨o, g1, g2⟩ := ty
          rw [Jx.at_] at g1
          cases g1
          cases g2
        refine eqBool_any hne (rich_right hr2.units0 Jx ty I'.kIn (h7 T hT) slt dec ?_)
        unfold tryCompare
        refine wpAny_bind (PySem.W.ifBound_K I'.kIn Jx hs hf (wpAny_mono (told (.ref xa) vk (.ref xa) uk _ _ bk rfl ruk rp' rk hbk lp') (fun r s2 z => ?_) fun _ _ y => y))
        obtain ⟨r', rfl, z⟩ := z
        exact wpAny_pure ⟨_, rfl, r', rfl, z⟩
    cases hd : ds[i] with
    | cls c' => rw [hd] at lp'; cases lp'
    | exn c' fs' => rw [hd] at lp'; cases lp'
    | ins c' fs' =>
      have ec : eqCall K c f (.ins c fs) (.ins c' fs') = (if c' = c then boolR (noSlot (K.fn f [.sh false (.ins c' fs'), .sh false (.ins c fs)])) else none) := rfl
      rw [hd, ec] at lp'
      by_cases hcc : c' = c
      · subst hcc
        rw [if_pos rfl] at lp'
        rw [hd] at rk
        obtain ⟨_, al, dl, vl, e2, hsl, _⟩ := slt_of rk
        subst e2
        cases (show uk = Value.ref al from ruk)
        obtain ⟨sll, odl, _, Jl, _⟩ := slt_inst I' hsl
        cases hbk : boolR (noSlot (K.fn f [.sh false (.ins c' fs'), .sh false (.ins c' fs)])) with
        | none => rw [hbk] at lp'; cases lp'
        | some bk =>
          rw [hbk] at lp'
          by_cases hsame : al = xa
          · subst hsame
            have hb : b = true := by
              cases bk with
              | true => cases lp'; rfl
              | false =>
                have z : inLoop (eqCall K c' f (.ins c' fs)) (seen || true) (ds.drop (i + 1)) = some b := lp'
                rw [Bool.or_true] at z
                exact inLoop_true z
            refine PySem.SeqAt.EqAt.same (A := X.A.in1) (s := s') (.ref al) X.prog X.w _ _ ?_
            rw [if_pos rfl]
            exact done s' H' I' kp g' hb
          · refine GQ.eqBool_refG hsame ?_
            refine eq_callG hr2.units0 I'.kIn Jl Jx hs hf ?_
            refine wpAny_mono (told (.ref al) (.ref xa) (.ref al) (.ref xa) _ _ bk rfl rfl rk rp' hbk (by rw [hd]; exact lp')) (fun r s2 z => ?_) fun _ _ y => y
            obtain ⟨r', e, z⟩ := z
            exact ⟨r', e, r', e, z⟩
      · rw [if_neg hcc] at lp'; cases lp'
    | _ => exact plain (by rw [hd]; exact fun _ _ z => nomatch z) (by rw [hd]; exact fun _ z => nomatch z) (by rw [hd]; exact fun _ _ z => nomatch z)
  · rintro s' ⟨H', I', kp, g', seen, lp'⟩
    rw [List.drop_length] at lp'
    unfold inLoop at lp'
    cases seen with
    | true => cases lp'
    | false =>
      cases lp'
      exact ⟨.bl (false != neg), H', I', rfl, q H' kp g'⟩
end
end M

set_option Elab.async false
set_option linter.all false
set_option maxRecDepth 100000
set_option maxHeartbeats 4000000
/-! G32: the trees of == and != of an instance with any value, of `x in l`. -/
namespace M
open PySem L2 PyProof.Rows SlX
/-- is it data, no instance (nor class, exception) at its head -/
def isPlF : List D → Option (Bool × D)
  | [.ins _ _] => none
  | [.cls _] => none
  | [.exn _ _] => none
  | [_] => some (false, .bl true)
  | _ => none
/-- the instance in slot j, the value in slot i -/
def eqE (p : P) (c f j i : Nat) : M.E := .ife (.val (.prm (.ext isPlF) (.cons (.var i) .nil))) (.prm p (.cons (.call f (.v (.prm (.asIns c) (.cons (.var j) .nil)) (.v (.var i) .nil))) .nil)) (.con .non)
structure Rq (W : Wo) (c : Nat) : Prop where
  h7 : ∀ t ∈ seven, PySem.W.subIn W.Z.K (.ref (W.Z.C c)) (.type t) = some false
section
variable {Z : Zc} {K : Calls} {ex : XK} {σ : Sg} {H : Hp}
theorem pr_asInsG {c : Nat} {x : V} {Q : VK} (h : PrimPost Z (.asIns c) [x] H Q) : (∃ a dx xs, x = .ref a ∧ Slt H a (Z.C c) dx xs) ∧ Q x H := by
  obtain ⟨R, ds, ht, hr, nw, d, e, k⟩ := h
  obtain ⟨d1, rfl, r1⟩ := repPs1 hr
  cases d1 <;> first | (cases e; done) | skip
  rename_i c' fs
  have e : (if c' = c then some (false, D.ins c fs) else none) = some (nw, d) := e
  by_cases hc : c' = c
  · rw [if_pos hc] at e
    subst hc
    cases e
    have r2 := r1.ins
    obtain ⟨_, a, dx, xs, e2, hs, _⟩ := slt_of r2
    exact ⟨⟨a, dx, _, e2, hs⟩, k _ H (Same.refl H) r2⟩
  · rw [if_neg hc] at e; cases e
theorem isPl_ok {x : V} {Q : VK} (h : PrimPost Z (.ext isPlF) [x] H Q) : PlV Z.K x H ∧ Q (.bl true) H := by
  obtain ⟨R, ds, ht, hr, nw, d, e, k⟩ := h
  obtain ⟨d1, rfl, r1⟩ := repPs1 hr
  have hp : (∀ c fs, d1 ≠ .ins c fs) ∧ (∀ c, d1 ≠ .cls c) ∧ (∀ c fs, d1 ≠ .exn c fs) ∧ nw = false ∧ d = .bl true := by
    cases d1 with
    | ins c fs => cases e
    | cls c => cases e
    | exn c fs => cases e
    | _ => cases e; exact ⟨(fun _ _ z => nomatch z), (fun _ z => nomatch z), (fun _ _ z => nomatch z), rfl, rfl⟩
  obtain ⟨n1, n2, n3, rfl, rfl⟩ := hp
  refine ⟨?_, k _ H (Same.refl H) (.bl true)⟩
  rcases r1 with r1 | ⟨ds, a, xs, rfl, rfl, h1, h2⟩
  · exact plv_rep r1 n1 n2 n3
  · exact .inr (.inr (.inr (.inr (.inr (.inl ⟨a, xs, rfl, SqL.of h1⟩)))))
theorem eqE_ok {p : P} {g : Bool → Bool} {c f j i : Nat} {pk : Bool} {Q : VK} (hp : ∀ x H (Q : VK), PrimPost Z p [x] H Q → ∃ c, x = .bl c ∧ Q (.bl (g c)) H) (h : tE Z K ex (eqE p c f j i) pk σ H Q) :
    ∃ x y, σ[j]? = some (some x) ∧ σ[i]? = some (some y) ∧ PlV Z.K y H ∧ (∃ a dx vs, x = .ref a ∧ Slt H a (Z.C c) dx vs) ∧ spF Z K f [x, y] H (fun z H' => ∃ c, z = .bl c ∧ Q (.bl (g c)) H') ex := by
  have z1 := tT_val (tE_ife h)
  obtain ⟨y, hy, z2⟩ := tE_var (tEs1 (tE_prm z1))
  obtain ⟨py, k0, tr, z3⟩ := isPl_ok z2
  have hk : k0 = true := tr
  subst hk
  rw [if_pos rfl] at z3
  have z4 := tGs_v (tE_call (tEs1 (tE_prm z3)))
  obtain ⟨x, hx, z5⟩ := tE_var (tEs1 (tE_prm z4))
  obtain ⟨hs, z6⟩ := pr_asInsG z5
  obtain ⟨y', hy', z7⟩ := tE_var (tGs_v z6)
  rw [hy] at hy'
  cases hy'
  have z8 := tGs_nil z7
  exact ⟨x, y, hx, hy, py, hs, TR.mono z8 fun z H' q => hp _ _ _ q⟩
theorem tE_inI {c f j : Nat} {neg : Bool} {e : M.E} {pk : Bool} {Q : VK} (h : tE Z K ex (.inI c f neg j e) pk σ H Q) : ∃ x, σ[j]? = some (some x) ∧ tE Z K ex e true σ H fun y H1 => rIn Z K c f neg x y H1 Q := by
  obtain ⟨R0, q, f0, h⟩ := h
  have h : An Z ex R0 σ q H (PoV Z R0 σ H) Q (match q[j]? with
    | some (.sh _ (.ins c' fs)) => if c' = c then bindR (ev K e true q) fun r q1 => match r.at_ q1 with
        | some (.lst ds) => match inLoop (eqCall K c f (.ins c' fs)) false ds with
          | some b => .ok (.val (.bl (b != neg))) q1
          | none => .bad
        | _ => .bad
      else .bad
    | _ => .bad) := by
    unfold ev at h; exact h
  cases hq : q[j]? with
  | none => rw [hq] at h; exact h.elim
  | some t =>
    rw [hq] at h
    cases t with
    | no => exact h.elim
    | pin => exact h.elim
    | ow b d => exact h.elim
    | sh b d =>
      cases d with
      | ins c' fs =>
        dsimp only at h
        by_cases hc : c' = c
        · subst hc
          rw [if_pos rfl] at h
          obtain ⟨x, hx, rx⟩ := f0.sh j b _ hq
          refine ⟨x, hx, R0, q, f0, h.bind fun q1 w H1 a ea l bk p z => ?_⟩
          obtain ⟨f1, p1⟩ := p.down f0
          cases hat : a.at_ q1 with
          | none => rw [hat] at z; exact z.elim
          | some dl =>
            rw [hat] at z
            have hat' : a.down.at_ q1 = some dl := by rw [← hat]; cases a <;> rfl
            cases dl with
            | lst ds =>
              dsimp only at z
              have got : ∃ pa xs, w = .ref pa ∧ SqL Z.K H1 pa xs ∧ RepL Z H1 (Rt R0 σ q1) xs ds := by
                rcases RepR.at_ f1 p1 hat' with ⟨ds', a', xs, e1, rfl, h1, h2, _⟩ | h1
                · cases e1; exact ⟨a', xs, rfl, h1, h2⟩
                · cases h1 with
                  | lst h1 h2 => exact ⟨_, _, rfl, h1.sq, h2⟩
              obtain ⟨pa, xs, rfl, h1, h2⟩ := got
              have rx' : Rep Z H1 (Rt R0 σ q1) x (.ins c' fs) := rx.lat (lat_rt l)
              obtain ⟨_, xa, dx, vs, ex', _, _⟩ := slt_of rx'
              subst ex'
              cases hl : inLoop (eqCall K c' f (.ins c' fs)) false ds with
              | none => rw [hl] at z; exact z.elim
              | some b0 =>
                rw [hl] at z
                refine ⟨Rt R0 σ q1, xa, pa, xs, fs, ds, b0, rfl, rfl, h1, h2, rx', f1.tb, fun b z => f1.rtT z, hl, fun H' kp g => ?_⟩
                exact z (.bl (b0 != neg)) H' (l.trans kp.lat) bk ⟨f1.onN kp.kp kp.tr g (fun _ z => .inl z) (fun b z => kp.tr b (f1.trk b z)), .bl _⟩
            | _ => exact z.elim
        · rw [if_neg hc] at h; exact h.elim
      | _ => exact h.elim
end
section
variable {W : Wo} {n k : Nat} {X : Cx} {ex : XK} {e : Expr} {A : M.E} {pos p1 p2 : Pos} {x y : Str}
theorem mt_eqL [Calm W] {c f : Nat} (j i : Nat) (g : Gd W n X ex) (S : Dd W k c "__eq__" f) (R : Rq W c) (hk : k ≤ n := by omega) (hj : X.N[j]? = some x := by rfl) (hi : X.N[i]? = some y := by rfl)
    (vj : Vis X.env.scope x := by first | exact Or.inl rfl | exact Or.inr (Or.inl rfl) | exact Or.inr (Or.inr rfl)) (vi : Vis X.env.scope y := by first | exact Or.inl rfl | exact Or.inr (Or.inl rfl) | exact Or.inr (Or.inr rfl))
    (dj : (x == ("__debug__" : Str)) = false := by decide) (di : (y == ("__debug__" : Str)) = false := by decide) (cj : (x == ("__classdict__" : Str)) = false := by decide) (ci : (y == ("__classdict__" : Str)) = false := by decide) (h1 : behindInMarks .Eq (.Name y p2) = false := by rfl) :
    MT W X ex (.Compare (.Name x p1) [.Eq] [.Name y p2] pos) (.val (eqE .asBl c f j i)) := by
  obtain ⟨a, e1, e2, F⟩ := S.ex
  refine (pt_cmpR (op_eqL (by rw [g.hK]; exact e1) (by rw [g.hK]; exact e2) (g.fn F) g.qu (g.room.mono hk) g.ps (by rw [g.hK]; exact R.h7)) (pe_var hj vj dj cj) (pe_var hi vi di ci) h1).imp fun s H Q h => ?_
  obtain ⟨x, y, hx, hy, py, ⟨b, dx, vs, rfl, hs⟩, sp⟩ := eqE_ok (g := id) (fun x H Q z => pr_asBl z) (tT_val h)
  refine ⟨.ref b, hx, y, hy, b, dx, vs, rfl, hs, by rw [g.hK]; exact py, TR.mono sp fun z H' ⟨c', e, kk, tr, q⟩ => by
    have hkk : kk = c' := tr
    subst hkk
    exact ⟨kk, e, kk, rfl, q⟩⟩
theorem mt_neL [Calm W] {c f : Nat} (j i : Nat) (g : Gd W n X ex) (S : Dd W k c "__eq__" f) (R : Rq W c) (om : PySem.W.mroIn W.Z.K (W.Z.C c) (.type "object") = some true) (ne : PySem.W.findIn W.Z.K (.ref (W.Z.C c)) "__ne__" = some (some (.builtin "object.__ne__"))) (hk : k + 1 ≤ n := by omega) (hj : X.N[j]? = some x := by rfl) (hi : X.N[i]? = some y := by rfl)
    (vj : Vis X.env.scope x := by first | exact Or.inl rfl | exact Or.inr (Or.inl rfl) | exact Or.inr (Or.inr rfl)) (vi : Vis X.env.scope y := by first | exact Or.inl rfl | exact Or.inr (Or.inl rfl) | exact Or.inr (Or.inr rfl))
    (dj : (x == ("__debug__" : Str)) = false := by decide) (di : (y == ("__debug__" : Str)) = false := by decide) (cj : (x == ("__classdict__" : Str)) = false := by decide) (ci : (y == ("__classdict__" : Str)) = false := by decide) (h1 : behindInMarks .NotEq (.Name y p2) = false := by rfl) :
    MT W X ex (.Compare (.Name x p1) [.NotEq] [.Name y p2] pos) (.val (eqE .notBl c f j i)) := by
  obtain ⟨a, e1, e2, F⟩ := S.ex
  refine (pt_cmpR (op_neL (by rw [g.hK]; exact om) (by rw [g.hK]; exact ne) (by rw [g.hK]; exact e1) (by rw [g.hK]; exact e2) (g.fn F) g.qu (g.room.mono hk) g.ps (by rw [g.hK]; exact R.h7)) (pe_var hj vj dj cj) (pe_var hi vi di ci) h1).imp fun s H Q h => ?_
  obtain ⟨x, y, hx, hy, py, ⟨b, dx, vs, rfl, hs⟩, sp⟩ := eqE_ok (g := Bool.not) (fun x H Q z => pr_notBl z) (tT_val h)
  refine ⟨.ref b, hx, y, hy, b, dx, vs, rfl, hs, by rw [g.hK]; exact py, TR.mono sp fun z H' ⟨c', e, kk, tr, q⟩ => by
    have hkk : kk = !c' := tr
    subst hkk
    exact ⟨c', e, !c', rfl, q⟩⟩
/-- the value first: x == y, y the instance (slot i) -/
theorem mt_eqR [Calm W] {c f : Nat} (j i : Nat) (g : Gd W n X ex) (S : Dd W k c "__eq__" f) (R : Rq W c) (hk : k ≤ n := by omega) (hj : X.N[j]? = some x := by rfl) (hi : X.N[i]? = some y := by rfl)
    (vj : Vis X.env.scope x := by first | exact Or.inl rfl | exact Or.inr (Or.inl rfl) | exact Or.inr (Or.inr rfl)) (vi : Vis X.env.scope y := by first | exact Or.inl rfl | exact Or.inr (Or.inl rfl) | exact Or.inr (Or.inr rfl))
    (dj : (x == ("__debug__" : Str)) = false := by decide) (di : (y == ("__debug__" : Str)) = false := by decide) (cj : (x == ("__classdict__" : Str)) = false := by decide) (ci : (y == ("__classdict__" : Str)) = false := by decide) (h1 : behindInMarks .Eq (.Name y p2) = false := by rfl) :
    MT W X ex (.Compare (.Name x p1) [.Eq] [.Name y p2] pos) (.val (eqE .asBl c f i j)) := by
  obtain ⟨a, e1, e2, F⟩ := S.ex
  refine (pt_cmpR (op_eqR (by rw [g.hK]; exact e1) (by rw [g.hK]; exact e2) (g.fn F) g.qu (g.room.mono hk) g.ps (by rw [g.hK]; exact R.h7)) (pe_var hj vj dj cj) (pe_var hi vi di ci) h1).imp fun s H Q h => ?_
  obtain ⟨x, y, hx, hy, py, ⟨b, dx, vs, rfl, hs⟩, sp⟩ := eqE_ok (g := id) (fun x H Q z => pr_asBl z) (tT_val h)
  refine ⟨y, hy, .ref b, hx, b, dx, vs, rfl, hs, by rw [g.hK]; exact py, TR.mono sp fun z H' ⟨c', e, kk, tr, q⟩ => by
    have hkk : kk = c' := tr
    subst hkk
    exact ⟨kk, e, kk, rfl, q⟩⟩
theorem mt_inI [Calm W] {c f : Nat} {neg : Bool} (j : Nat) (g : Gd W n X ex) (S : Dd W k c "__eq__" f) (R : Rq W c) (ha : ME W X ex e A) (hk : k + 1 ≤ n := by omega) (hj : X.N[j]? = some x := by rfl)
    (vj : Vis X.env.scope x := by first | exact Or.inl rfl | exact Or.inr (Or.inl rfl) | exact Or.inr (Or.inr rfl)) (dj : (x == ("__debug__" : Str)) = false := by decide) (cj : (x == ("__classdict__" : Str)) = false := by decide) (h1 : behindInMarks (if neg then .NotIn else .In) e = false := by rfl) :
    MT W X ex (.Compare (.Name x p1) [if neg then .NotIn else .In] [e] pos) (.val (.inI c f neg j A)) := by
  obtain ⟨a, e1, e2, F⟩ := S.ex
  refine (pt_cmpR (op_in (Z := W.Z) (K := W.K) (neg := neg) (E := ex) g.hK (by rw [g.hK]; exact e1) (by rw [g.hK]; exact e2) (g.fn F) g.qu (g.room.mono hk) g.ps (by rw [g.hK]; exact R.h7)) (pe_var hj vj dj cj) (ha true) h1).imp fun s H Q h => ?_
  obtain ⟨x, hx, z⟩ := tE_inI (tT_val h)
  refine ⟨x, hx, TR.mono z fun y H1 r => ?_⟩
  obtain ⟨R, xa, p, xs, fs, ds, b, ex1, ey, h1, h2, h3, h4, h5, h6, h7⟩ := r
  refine ⟨R, xa, p, xs, fs, ds, b, ex1, ey, h1, h2, h3, h4, h5, h6, fun H' kp gg => ?_⟩
  obtain ⟨kk, tr, q⟩ := h7 H' kp gg
  have hkk : kk = (b != neg) := tr
  subst hkk
  exact ⟨_, rfl, q⟩
end
end M

set_option Elab.async false
set_option linter.all false
set_option maxRecDepth 100000
set_option maxHeartbeats 4000000
/-! G33: `x in l` in the plain functions. -/
namespace M
open PySem
def boolM : Mo D → Option Bool
  | .ok (.bl b) => some b
  | _ => none
def eqCallM (c : Nat) (eqf : D → D → Mo D) (x d : D) : Option Bool := match d with
  | .ins c' fs => if c' = c then boolM (eqf (.ins c' fs) x) else none
  | .cls _ => none
  | .exn _ _ => none
  | d => boolM (eqf x d)
def inIM (c : Nat) (neg : Bool) (eqf : D → D → Mo D) (x : D) : D → Mo D
  | .lst ds => match inLoop (eqCallM c eqf x) false ds with
    | some b => .ok (.bl (b != neg))
    | none => .bad
  | _ => .bad
theorem boolM_call {K : Calls} {f : Nat} {a d : D} {m : Mo D} {b : Bool} (h : FP K f [a, d] m) (e : boolM m = some b) : boolR (noSlot (K.fn f [.sh false a, .sh false d])) = some b := by
  cases m with
  | bad => cases e
  | exc c ds => cases e
  | ok v =>
    cases v with
    | bl c =>
      cases e
      obtain ⟨r, q', h1, h2, _⟩ := h
      have h1 : K.fn f [.sh false a, .sh false d] = .ok r q' := h1
      have h2 : r = .val (.bl b) := h2
      rw [h1, h2]; rfl
    | _ => cases e
theorem eqCall_of {K : Calls} {c f : Nat} {eqf : D → D → Mo D} (hf : ∀ a b, FP K f [a, b] (eqf a b)) {x d : D} {b : Bool} (h : eqCallM c eqf x d = some b) : eqCall K c f x d = some b := by
  cases d with
  | cls _ => cases h
  | exn _ _ => cases h
  | ins c' fs =>
    have h : (if c' = c then boolM (eqf (.ins c' fs) x) else none) = some b := h
    show (if c' = c then boolR (noSlot (K.fn f [.sh false (.ins c' fs), .sh false x])) else none) = some b
    by_cases hc : c' = c
    · rw [if_pos hc] at h ⊢; exact boolM_call (hf _ _) h
    · rw [if_neg hc] at h; cases h
  | non => exact boolM_call (hf _ _) h
  | bl _ => exact boolM_call (hf _ _) h
  | int _ => exact boolM_call (hf _ _) h
  | str _ => exact boolM_call (hf _ _) h
  | tup _ => exact boolM_call (hf _ _) h
  | lst _ => exact boolM_call (hf _ _) h
  | dct _ => exact boolM_call (hf _ _) h
theorem inLoop_of {p q : D → Option Bool} (h : ∀ d b, p d = some b → q d = some b) : ∀ {ds : List D} {s : Bool} {b : Bool}, inLoop p s ds = some b → inLoop q s ds = some b
  | [], s, b, e => e
  | d :: ds, s, b, e => by
    unfold inLoop at e ⊢
    cases hp : p d with
    | none => rw [hp] at e; cases e
    | some c =>
      rw [hp] at e
      rw [h d c hp]
      cases c with
      | true => exact e
      | false => exact inLoop_of h (ds := ds) e
section
variable {K : Calls} {q : Fm} {e : E} {me : Mo D} {c f j : Nat} {neg b0 : Bool} {eqf : D → D → Mo D} {x : D}
theorem b_inI (he : EA K e q me) (hf : ∀ a b, FP K f [a, b] (eqf a b)) (hj : q[j]? = some (.sh b0 x) := by rfl) : EB K (.inI c f neg j e) q (isI c x >>= fun _ => me >>= fun l => inIM c neg eqf x l) := fun pk => by
  have z : ev K (.inI c f neg j e) pk q = (match q[j]? with
    | some (.sh _ (.ins c' fs)) => if c' = c then bindR (ev K e true q) fun r q1 => match r.at_ q1 with
        | some (.lst ds) => match inLoop (eqCall K c f (.ins c' fs)) false ds with
          | some b => .ok (.val (.bl (b != neg))) q1
          | none => .bad
        | _ => .bad
      else .bad
    | _ => .bad) := by first | (rw [ev]; rfl) | rw [ev]
  rw [z, hj]
  cases x with
  | ins c' fs =>
    by_cases hc : c' = c
    · subst hc
      have hi : isI c' (.ins c' fs) = .ok () := if_pos rfl
      rw [hi, ok_bind]
      dsimp only
      rw [if_pos rfl]
      have he : Rl (ev K e true q) me fun a r q' => q' = q ∧ r.at_ q' = some a := he
      cases me with
      | bad => exact True.intro
      | exc c ds =>
        obtain ⟨q1, e1⟩ := he
        rw [e1]; exact ⟨q1, rfl⟩
      | ok l =>
        obtain ⟨r, q1, e1, e2, e3⟩ := he
        subst e2
        rw [e1, ok_bind]
        cases l with
        | lst ds =>
          cases hl : inLoop (eqCallM c' eqf (.ins c' fs)) false ds with
          | none =>
            have e4 : inIM c' neg eqf (.ins c' fs) (.lst ds) = .bad := by unfold inIM; dsimp only; rw [hl]
            rw [e4]; exact True.intro
          | some b =>
            have h2 := inLoop_of (fun d b h => eqCall_of (K := K) (f := f) hf h) hl
            have e4 : inIM c' neg eqf (.ins c' fs) (.lst ds) = .ok (.bl (b != neg)) := by unfold inIM; dsimp only; rw [hl]
            rw [e4]
            refine ⟨.val (.bl (b != neg)), q1, ?_, rfl, rfl⟩
            show (match r.at_ q1 with
              | some (.lst ds) => match inLoop (eqCall K c' f (.ins c' fs)) false ds with
                | some b => Res.ok (RV.val (.bl (b != neg))) q1
                | none => .bad
              | _ => .bad) = _
            rw [e3]
            dsimp only
            rw [h2]
        | _ => exact True.intro
    · have hi : isI c (.ins c' fs) = .bad := by unfold isI; simp [hc]
      rw [hi]; exact True.intro
  | _ => exact True.intro
end
end M


set_option Elab.async false
set_option linter.all false
set_option maxRecDepth 100000
set_option maxHeartbeats 8000000
namespace M
open PySem L2 PyProof.Rows SlX
/-! ### the text by places, our trees (printed by gen.py) -/
def top (i : Nat) : Stmt := PySem.Challenge.pw_alltriangular_k09_lots_compared.main.body.getD i (.Pass ⟨0, 0, 0, 0⟩)
abbrev s__law_cast : Stmt := top 22
abbrev s__law_any_of : Stmt := top 23
abbrev s__law_number : Stmt := top 24
abbrev s__law_grids : Stmt := top 25
abbrev s_is_integer : Stmt := top 10
abbrev s_are_integers : Stmt := top 11
abbrev s_is_table : Stmt := top 14
abbrev s_wrong_table : Stmt := top 15
abbrev s_Lot_init : Stmt := inClass (top 16) 1
abbrev s_written_integer : Stmt := top 12
abbrev s_text_row : Stmt := top 18
abbrev s_text_lot : Stmt := top 19
abbrev s_Lot_read : Stmt := inClass (top 16) 2
abbrev s_Lot_size : Stmt := inClass (top 16) 4
abbrev s_lot_lines : Stmt := top 17
abbrev s_Lot_str : Stmt := inClass (top 16) 9
abbrev s_Lot_text : Stmt := inClass (top 16) 5
abbrev s__law_lines : Stmt := top 26
abbrev s__law_sheet : Stmt := top 27
abbrev s__law_built : Stmt := top 28
abbrev s_Lot_tables : Stmt := inClass (top 16) 3
abbrev s_Lot_len : Stmt := inClass (top 16) 7
abbrev s__law_thing : Stmt := top 29
abbrev s__law_near : Stmt := top 30
abbrev s_Lot_eq : Stmt := inClass (top 16) 8
abbrev s__law_right : Stmt := top 31
abbrev s__law_begun : Stmt := top 21
abbrev s_law : Stmt := top 32
def t__law_cast : Ss := (.cons (.ift (.val (.prm .gt (.cons (.prm .idx (.cons (.var 0) (.cons (.con (.int 0)) .nil))) (.cons (.con (.int 0)) .nil)))) (.cons (.asgS (.tp (.cons (.sub 0 (.con (.int 0))) (.cons (.nm 3) .nil))) (.prm .divmod (.cons (.prm .idx (.cons (.var 0) (.cons (.con (.int 0)) .nil))) (.cons (.var 1) .nil)))) (.cons (.retS (.var 3)) .nil)) .nil) (.cons (.asgS (.sub 0 (.con (.int 2))) (.prm .add (.cons (.prm .idx (.cons (.var 0) (.cons (.con (.int 2)) .nil))) (.cons (.con (.int 1)) .nil)))) (.cons (.asgS (.nm 2) (.prm .mod (.cons (.prm .int (.cons (.prm .add (.cons (.prm .add (.cons (.prm .mul (.cons (.prm .idx (.cons (.var 0) (.cons (.con (.int 1)) .nil))) (.cons (.prm .add (.cons (.con (.int 36809)) (.cons (.prm .mul (.cons (.con (.int 2)) (.cons (.prm .idx (.cons (.var 0) (.cons (.con (.int 2)) .nil))) .nil))) .nil))) .nil))) (.cons (.prm .mul (.cons (.con (.int 5303)) (.cons (.prm .idx (.cons (.var 0) (.cons (.con (.int 2)) .nil))) .nil))) .nil))) (.cons (.con (.int 7)) .nil))) .nil)) (.cons (.con (.int 2147483629)) .nil)))) (.cons (.asgS (.sub 0 (.con (.int 1))) (.prm .mod (.cons (.prm .int (.cons (.prm .add (.cons (.prm .add (.cons (.prm .mul (.cons (.var 2) (.cons (.con (.int 45413)) .nil))) (.cons (.prm .mul (.cons (.con (.int 3)) (.cons (.prm .idx (.cons (.var 0) (.cons (.con (.int 2)) .nil))) .nil))) .nil))) (.cons (.con (.int 1)) .nil))) .nil)) (.cons (.con (.int 2147483587)) .nil)))) (.cons (.retS (.prm .mod (.cons (.prm .int (.cons (.prm .fdiv (.cons (.prm .idx (.cons (.var 0) (.cons (.con (.int 1)) .nil))) (.cons (.con (.int 256)) .nil))) .nil)) (.cons (.var 1) .nil)))) .nil)))))
def d__law_cast : FDef := ⟨2, 4, t__law_cast⟩
def t__law_any_of : Ss := (.cons (.retS (.prm .idx (.cons (.var 1) (.cons (.call 1000 (.b 0 (.v (.prm .len (.cons (.var 1) .nil)) .nil))) .nil)))) .nil)
def d__law_any_of : FDef := ⟨2, 2, t__law_any_of⟩
def t__law_number : Ss := (.cons (.asgS (.nm 1) (.call 1000 (.b 0 (.v (.con (.int 8)) .nil)))) (.cons (.ift (.val (.prm .lt (.cons (.var 1) (.cons (.con (.int 5)) .nil)))) (.cons (.retS (.prm .sub (.cons (.call 1000 (.b 0 (.v (.con (.int 7)) .nil))) (.cons (.con (.int 3)) .nil)))) .nil) .nil) (.cons (.ift (.val (.prm .eq (.cons (.var 1) (.cons (.con (.int 5)) .nil)))) (.cons (.retS (.call 1001 (.b 0 (.v (.lst (.one (.prm .pow (.cons (.con (.int 10)) (.cons (.con (.int 6)) .nil))) (.one (.prm .neg (.cons (.prm .pow (.cons (.con (.int 10)) (.cons (.con (.int 6)) .nil))) .nil)) (.one (.con (.int 999999)) (.one (.con (.int 10)) .nil))))) .nil)))) .nil) .nil) (.cons (.retS (.ife (.val (.prm .eq (.cons (.var 1) (.cons (.con (.int 6)) .nil)))) (.prm .sub (.cons (.call 1000 (.b 0 (.v (.con (.int 41)) .nil))) (.cons (.con (.int 20)) .nil))) (.prm .sub (.cons (.call 1000 (.b 0 (.v (.prm .add (.cons (.prm .mul (.cons (.con (.int 2)) (.cons (.prm .pow (.cons (.con (.int 10)) (.cons (.con (.int 6)) .nil))) .nil))) (.cons (.con (.int 1)) .nil))) .nil))) (.cons (.prm .pow (.cons (.con (.int 10)) (.cons (.con (.int 6)) .nil))) .nil))))) .nil))))
def d__law_number : FDef := ⟨1, 2, t__law_number⟩
def t__law_grids : Ss := (.cons (.asgS (.nm 1) (.prm .add (.cons (.con (.int 1)) (.cons (.call 1000 (.b 0 (.v (.con (.int 4)) .nil))) .nil)))) (.cons (.asg (.nm 2) (.lst .nil)) (.cons (.for (.nm 3) (.rng1 (.prm .add (.cons (.con (.int 1)) (.cons (.call 1000 (.b 0 (.v (.con (.int 3)) .nil))) .nil)))) (.cons (.expr (.app 2 (.prm .tuple (.cons (.lc [4] (.nm 4) (.rng1 (.var 1)) .yes (.prm .tuple (.cons (.lc [5] (.nm 5) (.rng1 (.var 1)) .yes (.call 1002 (.b 0 .nil))) .nil))) .nil)))) (.cons (.kil [3]) .nil))) (.cons (.retS (.prm .tuple (.cons (.var 2) .nil))) .nil))))
def d__law_grids : FDef := ⟨1, 6, t__law_grids⟩
def t_is_integer : Ss := (.cons (.retS (.andV (.prm (.isi "int") (.cons (.var 0) .nil)) (.notV (.prm (.isi "bool") (.cons (.var 0) .nil))))) .nil)
def d_is_integer : FDef := ⟨1, 1, t_is_integer⟩
def t_are_integers : Ss := (.cons (.retS (.andV (.prm (.isi "tuple") (.cons (.var 0) .nil)) (.andV (.prm .eq (.cons (.prm .len (.cons (.var 0) .nil)) (.cons (.var 1) .nil))) (.prm .all (.cons (.lc [2] (.nm 2) (.seq (.var 0)) .yes (.call 0 (.v (.var 2) .nil))) .nil))))) .nil)
def d_are_integers : FDef := ⟨2, 3, t_are_integers⟩
def t_is_table : Ss := (.cons (.ift (.any (.not (.val (.prm (.isi "tuple") (.cons (.var 0) .nil)))) (.not (.val (.chain .le .le (.con (.int 1)) (.prm .len (.cons (.var 0) .nil)) (.glo "MOST_SIZE" (.int 4)))))) (.cons (.retS (.con (.bl false))) .nil) .nil) (.cons (.ift (.not (.val (.prm .all (.cons (.lc [1] (.nm 1) (.seq (.var 0)) .yes (.call 1 (.v (.var 1) (.v (.prm .len (.cons (.var 0) .nil)) .nil)))) .nil)))) (.cons (.retS (.con (.bl false))) .nil) .nil) (.cons (.retS (.prm .all (.cons (.lc2 [1, 2] [2] (.nm 1) (.seq (.var 0)) .yes (.nm 2) (.seq (.var 1)) .yes (.prm .le (.cons (.prm .abs (.cons (.var 2) .nil)) (.cons (.glo "MOST_NUMBER" (.int 1000000)) .nil)))) .nil))) .nil)))
def d_is_table : FDef := ⟨1, 3, t_is_table⟩
def t_wrong_table : Ss := (.cons (.ift (.any (.not (.val (.prm (.isi "tuple") (.cons (.var 0) .nil)))) (.val (.prm .eq (.cons (.prm .len (.cons (.var 0) .nil)) (.cons (.con (.int 0)) .nil))))) (.cons (.retS (.prm .neg (.cons (.con (.int 1)) .nil))) .nil) .nil) (.cons (.for (.tp (.cons (.nm 1) (.cons (.nm 2) .nil))) (.enm (.var 0)) (.cons (.ift (.any (.val (.prm .eq (.cons (.var 1) (.cons (.glo "MOST_TABLES" (.int 3)) .nil)))) (.any (.not (.val (.call 2 (.v (.var 2) .nil)))) (.val (.prm .ne (.cons (.prm .len (.cons (.var 2) .nil)) (.cons (.prm .len (.cons (.prm .idx (.cons (.var 0) (.cons (.con (.int 0)) .nil))) .nil)) .nil)))))) (.cons (.retS (.var 1)) .nil) .nil) (.cons (.kil [1, 2]) .nil))) (.cons (.retS (.con .non)) .nil)))
def d_wrong_table : FDef := ⟨1, 3, t_wrong_table⟩
def t_Lot_init : Ss := (.cons (.asgS (.nm 2) (.call 4 (.v (.var 1) .nil))) (.cons (.ift (.val (.prm .notN (.cons (.var 2) .nil))) (.cons .nev .nil) .nil) .nil))
def e_Lot_init : M.E := (.var 1)
def d_Lot_init : CDef := ⟨2, 3, t_Lot_init, e_Lot_init⟩
def t_written_integer : Ss := (.cons (.asgS (.nm 1) (.ife (.val (.prm .eq (.cons (.prm (.slo false true) (.cons (.var 0) (.cons (.con (.int 1)) .nil))) (.cons (.con (.str "-")) .nil)))) (.prm (.slo true false) (.cons (.var 0) (.cons (.con (.int 1)) .nil))) (.var 0))) (.cons (.ift (.any (.val (.prm .eq (.cons (.var 1) (.cons (.con (.str "")) .nil)))) (.any (.val (.prm .gt (.cons (.prm .len (.cons (.var 1) .nil)) (.cons (.con (.int 4000)) .nil)))) (.not (.val (.prm .all (.cons (.lc [2] (.nm 2) (.seq (.var 1)) .yes (.prm .isIn (.cons (.var 2) (.cons (.glo "DIGITS" (.str "0123456789")) .nil)))) .nil)))))) (.cons (.retS (.con .non)) .nil) .nil) (.cons (.retS (.ife (.val (.prm .eq (.cons (.prm .strI (.cons (.prm .int (.cons (.var 0) .nil)) .nil)) (.cons (.var 0) .nil)))) (.prm .int (.cons (.var 0) .nil)) (.con .non))) .nil)))
def d_written_integer : FDef := ⟨1, 3, t_written_integer⟩
def t_text_row : Ss := (.cons (.retS (.prm .tuple (.cons (.lc [1] (.nm 1) (.seq (.mth .split (.var 0) (.con (.str " ")))) .yes (.call 3 (.v (.var 1) .nil))) .nil))) .nil)
def d_text_row : FDef := ⟨1, 2, t_text_row⟩
def t_text_lot : Ss := (.cons (.ift (.not (.val (.prm (.isi "str") (.cons (.var 0) .nil)))) (.cons (.retS (.con .non)) .nil) .nil) (.cons (.asgS (.nm 1) (.mth .split (.var 0) (.con (.str "\n")))) (.cons (.asgS (.nm 2) (.ife (.val (.prm .eq (.cons (.prm (.slo false true) (.cons (.prm .idx (.cons (.var 1) (.cons (.con (.int 0)) .nil))) (.cons (.con (.int 4)) .nil))) (.cons (.con (.str "lot ")) .nil)))) (.call 3 (.v (.prm (.slo true false) (.cons (.prm .idx (.cons (.var 1) (.cons (.con (.int 0)) .nil))) (.cons (.con (.int 4)) .nil))) .nil)) (.con .non))) (.cons (.ift (.any (.val (.prm .isN (.cons (.var 2) .nil))) (.any (.not (.val (.chain .le .le (.con (.int 1)) (.var 2) (.glo "MOST_SIZE" (.int 4))))) (.val (.prm .ne (.cons (.prm .mod (.cons (.prm .len (.cons (.var 1) .nil)) (.cons (.prm .add (.cons (.var 2) (.cons (.con (.int 1)) .nil))) .nil))) (.cons (.con (.int 1)) .nil)))))) (.cons (.retS (.con .non)) .nil) .nil) (.cons (.asg (.nm 3) (.lst .nil)) (.cons (.kil [0]) (.cons (.for (.nm 4) (.rng3 (.con (.int 1)) (.prm .len (.cons (.var 1) .nil)) (.prm .add (.cons (.var 2) (.cons (.con (.int 1)) .nil)))) (.cons (.ift (.val (.prm .ne (.cons (.prm .idx (.cons (.var 1) (.cons (.var 4) .nil))) (.cons (.con (.str "table")) .nil)))) (.cons (.retS (.con .non)) .nil) .nil) (.cons (.expr (.app 3 (.prm .tuple (.cons (.lc [5] (.nm 5) (.seq (.prm (.slo true true) (.cons (.var 1) (.cons (.prm .add (.cons (.var 4) (.cons (.con (.int 1)) .nil))) (.cons (.prm .add (.cons (.prm .add (.cons (.var 4) (.cons (.con (.int 1)) .nil))) (.cons (.var 2) .nil))) .nil))))) .yes (.call 6 (.v (.var 5) .nil))) .nil)))) (.cons (.kil [4]) .nil)))) (.cons (.ift (.any (.val (.prm .notN (.cons (.call 4 (.v (.prm .tuple (.cons (.var 3) .nil)) .nil)) .nil))) (.val (.prm .ne (.cons (.prm .len (.cons (.prm .idx (.cons (.var 3) (.cons (.con (.int 0)) .nil))) .nil)) (.cons (.var 2) .nil))))) (.cons (.retS (.con .non)) .nil) .nil) (.cons (.retS (.make 0 (.v (.prm .tuple (.cons (.var 3) .nil)) .nil))) .nil)))))))))
def d_text_lot : FDef := ⟨1, 6, t_text_lot⟩
def t_Lot_read : Ss := (.cons (.asgS (.nm 2) (.call 7 (.v (.var 1) .nil))) (.cons (.ift (.val (.prm .isN (.cons (.var 2) .nil))) (.cons .nev .nil) .nil) (.cons (.retS (.var 2)) .nil)))
def d_Lot_read : FDef := ⟨2, 3, t_Lot_read⟩
def t_Lot_size : Ss := (.cons (.retS (.prm .len (.cons (.prm .idx (.cons (.fld 0 0 (.var 0)) (.cons (.con (.int 0)) .nil))) .nil))) .nil)
def d_Lot_size : FDef := ⟨1, 1, t_Lot_size⟩
def t_lot_lines : Ss := (.cons (.asg (.nm 1) (.lst (.one (.fst "lot " (.prop 0 201 (.var 0)) Str.empty) .nil))) (.cons (.for (.nm 2) (.seq (.fld 0 0 (.var 0))) (.cons (.expr (.ext 1 (.lst (.one (.con (.str "table")) (.star (.lc [3] (.nm 3) (.seq (.var 2)) .yes (.mth .join (.con (.str " ")) (.lc [4] (.nm 4) (.seq (.var 3)) .yes (.prm .strI (.cons (.var 4) .nil))))) .nil))))) (.cons (.kil [2]) .nil))) (.cons (.shr [1]) (.cons (.retS (.var 1)) .nil))))
def d_lot_lines : FDef := ⟨1, 5, t_lot_lines⟩
def t_Lot_str : Ss := (.cons (.retS (.mth .join (.con (.str "\n")) (.call 5 (.v (.var 0) .nil)))) .nil)
def d_Lot_str : FDef := ⟨1, 1, t_Lot_str⟩
def t_Lot_text : Ss := (.cons (.retS (.prm .asStr (.cons (.prop 0 224 (.var 0)) .nil))) .nil)
def d_Lot_text : FDef := ⟨1, 1, t_Lot_text⟩
def t__law_lines : Ss := (.cons (.asgS (.nm 1) (.lst (.one (.prm .add (.cons (.con (.str "lot ")) (.cons (.prm .strI (.cons (.prm .len (.cons (.prm .idx (.cons (.var 0) (.cons (.con (.int 0)) .nil))) .nil)) .nil)) .nil))) .nil))) (.cons (.for (.nm 2) (.seq (.var 0)) (.cons (.asgS (.nm 1) (.prm .add (.cons (.prm .add (.cons (.var 1) (.cons (.lst (.one (.con (.str "table")) .nil)) .nil))) (.cons (.lc [3] (.nm 3) (.seq (.var 2)) .yes (.mth .join (.con (.str " ")) (.lc [4] (.nm 4) (.seq (.var 3)) .yes (.prm .strI (.cons (.var 4) .nil))))) .nil)))) (.cons (.kil [2]) .nil))) (.cons (.retS (.var 1)) .nil)))
def d__law_lines : FDef := ⟨1, 5, t__law_lines⟩
def t__law_sheet : Ss := (.cons (.retS (.mth .join (.con (.str "\n")) (.call 1016 (.v (.var 0) .nil)))) .nil)
def d__law_sheet : FDef := ⟨1, 1, t__law_sheet⟩
def t__law_built : Ss := (.cons (.asgS (.nm 2) (.call 1000 (.b 0 (.v (.con (.int 3)) .nil)))) (.cons (.ift (.val (.prm .eq (.cons (.var 2) (.cons (.con (.int 0)) .nil)))) (.cons (.retS (.make 0 (.v (.var 1) .nil))) .nil) .nil) (.cons (.retS (.ife (.val (.prm .eq (.cons (.var 2) (.cons (.con (.int 1)) .nil)))) (.makeP 0 [0] (.v (.var 1) .nil)) (.call 221 (.v (.con (.cls 0)) (.v (.call 1017 (.v (.var 1) .nil)) .nil))))) .nil)))
def d__law_built : FDef := ⟨2, 3, t__law_built⟩
def t_Lot_tables : Ss := (.cons (.retS (.fld 0 0 (.var 0))) .nil)
def d_Lot_tables : FDef := ⟨1, 1, t_Lot_tables⟩
def t_Lot_len : Ss := (.cons (.retS (.prm .len (.cons (.fld 0 0 (.var 0)) .nil))) .nil)
def d_Lot_len : FDef := ⟨1, 1, t_Lot_len⟩
def t__law_thing : Ss := (.cons (.asgS (.nm 1) (.lst (.one (.con .non) (.one (.con (.bl true)) (.one (.con (.bl false)) (.one (.con (.int 0)) (.one (.con (.int 1)) (.one (.prm .neg (.cons (.con (.int 1)) .nil)) (.one (.con (.int 2)) (.one (.prm .add (.cons (.prm .pow (.cons (.con (.int 10)) (.cons (.con (.int 6)) .nil))) (.cons (.con (.int 1)) .nil))) (.one (.prm .neg (.cons (.prm .pow (.cons (.con (.int 10)) (.cons (.con (.int 39)) .nil))) .nil)) (.one (.con (.str "")) (.one (.con (.str "a")) (.one (.con (.str "lot 1")) (.one (.tup .nil) (.one (.tup (.one (.con (.int 0)) .nil)) (.one (.tup (.one (.con (.int 1)) (.one (.con (.int 0)) .nil))) (.one (.tup (.one (.tup (.one (.con (.int 5)) .nil)) .nil)) (.one (.con (.str "A")) .nil))))))))))))))))))) (.cons (.asgS (.nm 1) (.prm .add (.cons (.var 1) (.cons (.lst (.one (.lst .nil) (.one (.lst (.one (.con (.int 1)) .nil)) (.one (.con (.dct [])) (.one (.con (.dct [("a", 1)])) (.one (.tup (.one (.tup (.one (.con (.int 1)) (.one (.con (.int 2)) .nil))) .nil)) (.one (.tup (.one (.tup (.one (.con (.int 1)) (.one (.con (.int 0)) .nil))) (.one (.tup (.one (.con (.int 0)) (.one (.con (.int 1)) .nil))) .nil))) (.one (.tup (.one (.tup (.one (.tup (.one (.con (.int 5)) .nil)) .nil)) .nil)) (.one (.tup (.one (.con (.str "all")) .nil)) (.one (.tup (.one (.con .non) .nil)) (.one (.con (.str "abcdefghi")) .nil))))))))))) .nil)))) (.cons (.retS (.call 1001 (.b 0 (.v (.var 1) .nil)))) .nil)))
def d__law_thing : FDef := ⟨1, 2, t__law_thing⟩
def t__law_near : Ss := (.cons (.par2 3 4 (.call 1000 (.b 0 (.v (.con (.int 5)) .nil))) (.call 1000 (.b 0 (.v (.prm .len (.cons (.var 1) .nil)) .nil)))) (.cons (.asgS (.nm 2) (.prm .len (.cons (.prm .idx (.cons (.var 1) (.cons (.con (.int 0)) .nil))) .nil))) (.cons (.ift (.all (.val (.prm .eq (.cons (.var 3) (.cons (.con (.int 0)) .nil)))) (.val (.prm .gt (.cons (.prm .len (.cons (.var 1) .nil)) (.cons (.con (.int 1)) .nil))))) (.cons (.retS (.prm .add (.cons (.prm (.slo false true) (.cons (.var 1) (.cons (.var 4) .nil))) (.cons (.prm (.slo true false) (.cons (.var 1) (.cons (.prm .add (.cons (.var 4) (.cons (.con (.int 1)) .nil))) .nil))) .nil)))) .nil) .nil) (.cons (.ift (.val (.prm .eq (.cons (.var 3) (.cons (.con (.int 1)) .nil)))) (.cons (.retS (.prm .revL (.cons (.var 1) .nil))) .nil) .nil) (.cons (.ift (.val (.prm .eq (.cons (.var 3) (.cons (.con (.int 2)) .nil)))) (.cons (.asgS (.nm 5) (.prm .tuple (.cons (.lc [7] (.nm 7) (.rng1 (.var 2)) .yes (.prm .tuple (.cons (.lc [8] (.nm 8) (.rng1 (.var 2)) .yes (.prm .idx (.cons (.prm .idx (.cons (.prm .idx (.cons (.var 1) (.cons (.var 4) .nil))) (.cons (.var 8) .nil))) (.cons (.var 7) .nil)))) .nil))) .nil))) (.cons (.retS (.prm .add (.cons (.prm .add (.cons (.prm (.slo false true) (.cons (.var 1) (.cons (.var 4) .nil))) (.cons (.tup (.one (.var 5) .nil)) .nil))) (.cons (.prm (.slo true false) (.cons (.var 1) (.cons (.prm .add (.cons (.var 4) (.cons (.con (.int 1)) .nil))) .nil))) .nil)))) .nil)) .nil) (.cons (.ift (.all (.val (.prm .eq (.cons (.var 3) (.cons (.con (.int 3)) .nil)))) (.val (.prm .lt (.cons (.prm .idx (.cons (.prm .idx (.cons (.prm .idx (.cons (.var 1) (.cons (.var 4) .nil))) (.cons (.con (.int 0)) .nil))) (.cons (.con (.int 0)) .nil))) (.cons (.prm .pow (.cons (.con (.int 10)) (.cons (.con (.int 6)) .nil))) .nil))))) (.cons (.asgS (.nm 6) (.prm .add (.cons (.tup (.one (.prm .add (.cons (.prm .idx (.cons (.prm .idx (.cons (.prm .idx (.cons (.var 1) (.cons (.var 4) .nil))) (.cons (.con (.int 0)) .nil))) (.cons (.con (.int 0)) .nil))) (.cons (.con (.int 1)) .nil))) .nil)) (.cons (.prm (.slo true false) (.cons (.prm .idx (.cons (.prm .idx (.cons (.var 1) (.cons (.var 4) .nil))) (.cons (.con (.int 0)) .nil))) (.cons (.con (.int 1)) .nil))) .nil)))) (.cons (.retS (.prm .add (.cons (.prm .add (.cons (.prm (.slo false true) (.cons (.var 1) (.cons (.var 4) .nil))) (.cons (.tup (.one (.prm .add (.cons (.tup (.one (.var 6) .nil)) (.cons (.prm (.slo true false) (.cons (.prm .idx (.cons (.var 1) (.cons (.var 4) .nil))) (.cons (.con (.int 1)) .nil))) .nil))) .nil)) .nil))) (.cons (.prm (.slo true false) (.cons (.var 1) (.cons (.prm .add (.cons (.var 4) (.cons (.con (.int 1)) .nil))) .nil))) .nil)))) .nil)) .nil) (.cons (.retS (.var 1)) .nil)))))))
def d__law_near : FDef := ⟨2, 9, t__law_near⟩
def t_Lot_eq : Ss := (.cons (.retS (.andV (.prm (.isiC 0) (.cons (.var 1) .nil)) (.prm .eq (.cons (.fld 0 0 (.var 0)) (.cons (.fld 0 0 (.var 1)) .nil))))) .nil)
def d_Lot_eq : FDef := ⟨2, 2, t_Lot_eq⟩
def t__law_right : Ss := (.cons (.asgS (.nm 1) (.call 1003 (.b 0 .nil))) (.cons (.asg (.nm 2) (.lst (.one (.make 0 (.v (.var 1) .nil)) (.one (.call 221 (.v (.con (.cls 0)) (.v (.call 1017 (.v (.var 1) .nil)) .nil))) .nil)))) (.cons (.for (.nm 3) (.rng1 (.con (.int 7))) (.cons (.expr (.app 2 (.call 1018 (.b 0 (.v (.call 1022 (.b 0 (.v (.var 1) .nil))) .nil))))) (.cons (.kil [3]) .nil))) (.cons (.shr [2]) (.cons (.for (.nm 4) (.seq (.var 2)) (.cons (.for (.nm 5) (.seq (.var 2)) (.cons (.asgS (.nm 7) (.prm .eq (.cons (.prop 0 202 (.var 4)) (.cons (.prop 0 202 (.var 5)) .nil)))) (.cons (.ift (.val (.prm .ne (.cons (.prm .repr (.cons (.lst (.one (.prm .asBl (.cons (.callI 0 233 (.v (.var 4) (.v (.var 5) .nil))) .nil)) (.one (.prm .notBl (.cons (.callI 0 233 (.v (.var 4) (.v (.var 5) .nil))) .nil)) .nil))) .nil)) (.cons (.prm .repr (.cons (.lst (.one (.var 7) (.one (.notV (.var 7)) .nil))) .nil)) .nil)))) (.cons (.retS (.con (.bl false))) .nil) .nil) (.cons (.kil [5, 7]) .nil)))) (.cons (.for (.nm 6) (.seq (.lst (.one (.con .non) (.one (.prop 0 202 (.var 4)) (.one (.prop 0 200 (.var 4)) (.one (.prm .asLen (.cons (.prop 0 230 (.var 4)) .nil)) (.one (.lst (.one (.prop 0 202 (.var 4)) .nil)) (.one (.call 1021 (.b 0 .nil)) (.one (.tup (.one (.var 4) .nil)) (.one (.lst (.one (.var 4) .nil)) .nil)))))))))) (.cons (.ift (.any (.val (.ife (.val (.prm (.ext isPlF) (.cons (.var 6) .nil))) (.prm .asBl (.cons (.call 233 (.v (.prm (.asIns 0) (.cons (.var 4) .nil)) (.v (.var 6) .nil))) .nil)) (.con .non))) (.any (.not (.val (.ife (.val (.prm (.ext isPlF) (.cons (.var 6) .nil))) (.prm .notBl (.cons (.call 233 (.v (.prm (.asIns 0) (.cons (.var 4) .nil)) (.v (.var 6) .nil))) .nil)) (.con .non)))) (.val (.ife (.val (.prm (.ext isPlF) (.cons (.var 6) .nil))) (.prm .asBl (.cons (.call 233 (.v (.prm (.asIns 0) (.cons (.var 4) .nil)) (.v (.var 6) .nil))) .nil)) (.con .non))))) (.cons (.retS (.con (.bl false))) .nil) .nil) (.cons (.kil [6]) .nil))) (.cons (.ift (.any (.val (.inI 0 233 true 4 (.var 2))) (.val (.inI 0 233 false 4 (.lst (.one (.prop 0 202 (.var 4)) (.one (.prop 0 200 (.var 4)) .nil)))))) (.cons (.retS (.con (.bl false))) .nil) .nil) (.cons (.kil [4]) .nil))))) (.cons (.retS (.prm .eq (.cons (.prop 0 202 (.prm .idx (.cons (.var 2) (.cons (.con (.int 0)) .nil)))) (.cons (.call 1017 (.v (.var 1) .nil)) .nil)))) .nil))))))
def d__law_right : FDef := ⟨1, 8, t__law_right⟩
def t__law_begun : Ss := (.cons (.asgS (.nm 2) (.ife (.val (.prm .lt (.cons (.var 1) (.cons (.prm .len (.cons (.var 0) .nil)) .nil)))) (.prm .idx (.cons (.var 0) (.cons (.var 1) .nil))) (.con (.int 0)))) (.cons (.asgS (.nm 3) (.prm .add (.cons (.con (.int 60013)) (.cons (.prm .mul (.cons (.con (.int 7727)) (.cons (.var 1) .nil))) .nil)))) (.cons (.for (.nm 4) (.seq (.prm (.slo false true) (.cons (.var 0) (.cons (.con (.int 6)) .nil)))) (.cons (.asgS (.nm 3) (.prm .mod (.cons (.prm .int (.cons (.prm .add (.cons (.prm .add (.cons (.prm .mul (.cons (.var 3) (.cons (.con (.int 30269)) .nil))) (.cons (.prm .mul (.cons (.var 4) (.cons (.con (.int 7)) .nil))) .nil))) (.cons (.con (.int 13)) .nil))) .nil)) (.cons (.con (.int 2147483629)) .nil)))) (.cons (.kil [4]) .nil))) (.cons (.ret (.lst (.one (.ife (.any (.val (.prm .lt (.cons (.var 2) (.cons (.con (.int 0)) .nil)))) (.val (.prm .ge (.cons (.var 2) (.cons (.prm .pow (.cons (.con (.int 10)) (.cons (.con (.int 18)) .nil))) .nil))))) (.prm .abs (.cons (.var 2) .nil)) (.con (.int 0))) (.one (.prm .mod (.cons (.prm .int (.cons (.prm .add (.cons (.prm .add (.cons (.prm .mul (.cons (.var 3) (.cons (.con (.int 53)) .nil))) (.cons (.prm .mul (.cons (.var 2) (.cons (.var 2) .nil))) .nil))) (.cons (.prm .mul (.cons (.con (.int 17)) (.cons (.var 1) .nil))) .nil))) .nil)) (.cons (.con (.int 2147483629)) .nil))) (.one (.con (.int 0)) .nil))))) .nil))))
def d__law_begun : FDef := ⟨2, 5, t__law_begun⟩
def t_law : Ss := (.cons (.retS (.prm .all (.cons (.lc [1] (.nm 1) (.rng1 (.prm .max2 (.cons (.con (.int 2)) (.cons (.prm .min2 (.cons (.prm .len (.cons (.var 0) .nil)) (.cons (.con (.int 5)) .nil))) .nil)))) .yes (.callO 1024 (.call 1025 (.v (.var 0) (.v (.var 1) .nil))))) .nil))) .nil)
def d_law : FDef := ⟨1, 2, t_law⟩
def tab : Tab := ⟨[(1000, d__law_cast), (1001, d__law_any_of), (1002, d__law_number), (1003, d__law_grids), (0, d_is_integer), (1, d_are_integers), (2, d_is_table), (4, d_wrong_table), (3, d_written_integer), (6, d_text_row), (7, d_text_lot), (221, d_Lot_read), (201, d_Lot_size), (5, d_lot_lines), (224, d_Lot_str), (202, d_Lot_text), (1016, d__law_lines), (1017, d__law_sheet), (1018, d__law_built), (200, d_Lot_tables), (230, d_Lot_len), (1021, d__law_thing), (1022, d__law_near), (233, d_Lot_eq), (1024, d__law_right), (1025, d__law_begun), (1026, d_law)], [(0, d_Lot_init)], []⟩
/-! ### what of the text the bodies ask -/
structure Tx (W : Wo) (k : Nat) : Prop where
  f__law_cast : Fd W k "_law_cast" 1000
  f__law_any_of : Fd W k "_law_any_of" 1001
  f__law_number : Fd W k "_law_number" 1002
  f__law_grids : Fd W k "_law_grids" 1003
  f_is_integer : Fd W k "is_integer" 0
  f_are_integers : Fd W k "are_integers" 1
  f_is_table : Fd W k "is_table" 2
  f_wrong_table : Fd W k "wrong_table" 4
  f_written_integer : Fd W k "written_integer" 3
  f_text_row : Fd W k "text_row" 6
  f_text_lot : Fd W k "text_lot" 7
  cd_Lot_read : Cd W k "Lot" "read" 0 221
  p_Lot_size : Pd W k 0 "size" 201
  f_lot_lines : Fd W k "lot_lines" 5
  dd_Lot_str : Dd W k 0 "__str__" 224
  p_Lot_text : Pd W k 0 "text" 202
  f__law_lines : Fd W k "_law_lines" 1016
  f__law_sheet : Fd W k "_law_sheet" 1017
  f__law_built : Fd W k "_law_built" 1018
  p_Lot_tables : Pd W k 0 "tables" 200
  dd_Lot_len : Dd W k 0 "__len__" 230
  f__law_thing : Fd W k "_law_thing" 1021
  f__law_near : Fd W k "_law_near" 1022
  dd_Lot_eq : Dd W k 0 "__eq__" 233
  f__law_right : Fd W k "_law_right" 1024
  f__law_begun : Fd W k "_law_begun" 1025
  f_law : Fd W k "law" 1026
  mk_Lot_tables : Mk0 W k "Lot" 0 ["tables"] [0]
  m_Lot : Md W k "Lot" 0
  l_Lot : 0 < W.Z.nc
  g_Lot : W.mg "Lot" = some (.ref (W.Z.C 0))
  s_Lot_own_tables : Sd W 0 "own_tables" 0
  ne_Lot : PySem.W.findIn W.Z.K (.ref (W.Z.C 0)) "__ne__" = some (some (.builtin "object.__ne__"))
  om_Lot : PySem.W.mroIn W.Z.K (W.Z.C 0) (.type "object") = some true
  co : Co W.Z W.Z.nc
  rq_Lot : Rq W 0
  n_abs : W.mg "abs" = none
  n_all : W.mg "all" = none
  n_bool : W.mg "bool" = none
  n_divmod : W.mg "divmod" = none
  n_enumerate : W.mg "enumerate" = none
  n_int : W.mg "int" = none
  n_isinstance : W.mg "isinstance" = none
  n_len : W.mg "len" = none
  n_max : W.mg "max" = none
  n_min : W.mg "min" = none
  n_range : W.mg "range" = none
  n_repr : W.mg "repr" = none
  n_str : W.mg "str" = none
  n_tuple : W.mg "tuple" = none
  x_DIGITS : ∃ t, W.mg "DIGITS" = some (.str "0123456789" t)
  x_MOST_NUMBER : ∃ t, W.mg "MOST_NUMBER" = some (.int 1000000 t)
  x_MOST_SIZE : ∃ t, W.mg "MOST_SIZE" = some (.int 4 t)
  x_MOST_TABLES : ∃ t, W.mg "MOST_TABLES" = some (.int 3 t)
noncomputable def Tx.t_DIGITS {W : Wo} {k : Nat} (T : Tx W k) : Tok := T.x_DIGITS.choose
theorem Tx.c_DIGITS {W : Wo} {k : Nat} (T : Tx W k) : W.mg "DIGITS" = some (.str "0123456789" T.t_DIGITS) := T.x_DIGITS.choose_spec
noncomputable def Tx.t_MOST_NUMBER {W : Wo} {k : Nat} (T : Tx W k) : Tok := T.x_MOST_NUMBER.choose
theorem Tx.c_MOST_NUMBER {W : Wo} {k : Nat} (T : Tx W k) : W.mg "MOST_NUMBER" = some (.int 1000000 T.t_MOST_NUMBER) := T.x_MOST_NUMBER.choose_spec
noncomputable def Tx.t_MOST_SIZE {W : Wo} {k : Nat} (T : Tx W k) : Tok := T.x_MOST_SIZE.choose
theorem Tx.c_MOST_SIZE {W : Wo} {k : Nat} (T : Tx W k) : W.mg "MOST_SIZE" = some (.int 4 T.t_MOST_SIZE) := T.x_MOST_SIZE.choose_spec
noncomputable def Tx.t_MOST_TABLES {W : Wo} {k : Nat} (T : Tx W k) : Tok := T.x_MOST_TABLES.choose
theorem Tx.c_MOST_TABLES {W : Wo} {k : Nat} (T : Tx W k) : W.mg "MOST_TABLES" = some (.int 3 T.t_MOST_TABLES) := T.x_MOST_TABLES.choose_spec
theorem sc__law_cast : FnScope ["_law_pail", "_law_many", "_law_state", "_law_figure"] ["_law_pail", "_law_many"] (defScope s__law_cast) := ⟨rfl, rfl, rfl, by decide +kernel, rfl, by decide +kernel, by decide +kernel⟩
theorem b__law_cast {W : Wo} [Calm W] {k : Nat} {f : Addr} (T : Tx W k) (cdv : Value) (A : Around) (outer : List Env) (s : Shared) (H : Hp) (E : XK) (g : Gd W (k + 3) (cxF W ["_law_pail", "_law_many", "_law_state", "_law_figure"] "_law_cast" (defScope s__law_cast) f cdv A outer s H E) E) : MSs W (cxF W ["_law_pail", "_law_many", "_law_state", "_law_figure"] "_law_cast" (defScope s__law_cast) f cdv A outer s H E) E (defBody s__law_cast) d__law_cast.body :=
  (mss_cons (ms_ift (mt_cmp cm_gt (me_idx (me_var 0) me_int g) me_int) (mss_cons (ms_asgS (me_divmod g T.n_divmod (me_idx (me_var 0) me_int g) (me_var 1)) (ml_tp g (mls_cons (ml_sub g 0 me_int) (mls_cons (ml_nm g 3) mls_nil)))) (mss_cons (ms_retS (me_var 3)) mss_nil)) mss_nil) (mss_cons (ms_asgS (me_add (me_idx (me_var 0) me_int g) me_int g) (ml_sub g 0 me_int)) (mss_cons (ms_asgS (me_mod (me_toInt g T.n_int (me_add (me_add (me_mul (me_idx (me_var 0) me_int g) (me_add me_int (me_mul me_int (me_idx (me_var 0) me_int g) g) g) g) (me_mul me_int (me_idx (me_var 0) me_int g) g) g) me_int g)) me_int) (ml_nm g 2)) (mss_cons (ms_asgS (me_mod (me_toInt g T.n_int (me_add (me_add (me_mul (me_var 2) me_int g) (me_mul me_int (me_idx (me_var 0) me_int g) g) g) me_int g)) me_int) (ml_sub g 0 me_int)) (mss_cons (ms_retS (me_mod (me_toInt g T.n_int (me_fdiv (me_idx (me_var 0) me_int g) me_int)) (me_var 1))) mss_nil)))))
theorem sc__law_any_of : FnScope ["_law_pail", "_law_some"] ["_law_pail", "_law_some"] (defScope s__law_any_of) := ⟨rfl, rfl, rfl, by decide +kernel, rfl, by decide +kernel, by decide +kernel⟩
theorem b__law_any_of {W : Wo} [Calm W] {k : Nat} {f : Addr} (T : Tx W k) (cdv : Value) (A : Around) (outer : List Env) (s : Shared) (H : Hp) (E : XK) (g : Gd W (k + 3) (cxF W ["_law_pail", "_law_some"] "_law_any_of" (defScope s__law_any_of) f cdv A outer s H E) E) : MSs W (cxF W ["_law_pail", "_law_some"] "_law_any_of" (defScope s__law_any_of) f cdv A outer s H E) E (defBody s__law_any_of) d__law_any_of.body :=
  (mss_cons (ms_retS (me_idx (me_var 1) (me_call g T.f__law_cast (mg_b 0 (mg_v (me_len g T.n_len (me_var 1)) mg_nil))) g)) mss_nil)
theorem sc__law_number : FnScope ["_law_pail", "_law_way"] ["_law_pail"] (defScope s__law_number) := ⟨rfl, rfl, rfl, by decide +kernel, rfl, by decide +kernel, by decide +kernel⟩
theorem b__law_number {W : Wo} [Calm W] {k : Nat} {f : Addr} (T : Tx W k) (cdv : Value) (A : Around) (outer : List Env) (s : Shared) (H : Hp) (E : XK) (g : Gd W (k + 3) (cxF W ["_law_pail", "_law_way"] "_law_number" (defScope s__law_number) f cdv A outer s H E) E) : MSs W (cxF W ["_law_pail", "_law_way"] "_law_number" (defScope s__law_number) f cdv A outer s H E) E (defBody s__law_number) d__law_number.body :=
  (mss_cons (ms_asgS (me_call g T.f__law_cast (mg_b 0 (mg_v me_int mg_nil))) (ml_nm g 1)) (mss_cons (ms_ift (mt_cmp cm_lt (me_var 1) me_int) (mss_cons (ms_retS (me_sub (me_call g T.f__law_cast (mg_b 0 (mg_v me_int mg_nil))) me_int)) mss_nil) mss_nil) (mss_cons (ms_ift (mt_cmp (cm_eq g) (me_var 1) me_int) (mss_cons (ms_retS (me_call g T.f__law_any_of (mg_b 0 (mg_v (me_lst (ma_one (me_pow me_int me_int) (ma_one (me_neg (me_pow me_int me_int)) (ma_one me_int (ma_one me_int ma_nil))))) mg_nil)))) mss_nil) mss_nil) (mss_cons (ms_retS (me_ife (mt_cmp (cm_eq g) (me_var 1) me_int) (me_sub (me_call g T.f__law_cast (mg_b 0 (mg_v me_int mg_nil))) me_int) (me_sub (me_call g T.f__law_cast (mg_b 0 (mg_v (me_add (me_mul me_int (me_pow me_int me_int) g) me_int g) mg_nil))) (me_pow me_int me_int)))) mss_nil))))
theorem sc__law_grids : FnScope ["_law_pail", "_law_size", "_law_found", "_law_k", "_law_i", "_law_j"] ["_law_pail"] (defScope s__law_grids) := ⟨rfl, rfl, rfl, by decide +kernel, rfl, by decide +kernel, by decide +kernel⟩
theorem b__law_grids {W : Wo} [Calm W] {k : Nat} {f : Addr} (T : Tx W k) (cdv : Value) (A : Around) (outer : List Env) (s : Shared) (H : Hp) (E : XK) (g : Gd W (k + 3) (cxF W ["_law_pail", "_law_size", "_law_found", "_law_k", "_law_i", "_law_j"] "_law_grids" (defScope s__law_grids) f cdv A outer s H E) E) : MSs W (cxF W ["_law_pail", "_law_size", "_law_found", "_law_k", "_law_i", "_law_j"] "_law_grids" (defScope s__law_grids) f cdv A outer s H E) E (defBody s__law_grids) d__law_grids.body :=
  (mss_cons (ms_asgS (me_add me_int (me_call g T.f__law_cast (mg_b 0 (mg_v me_int mg_nil))) g) (ml_nm g 1)) (mss_cons (ms_asg (me_lst ma_nil) (ml_nm g 2)) (mss_cons (ms_for g po_cx (mi_rng1 g T.n_range (me_add me_int (me_call g T.f__law_cast (mg_b 0 (mg_v me_int mg_nil))) g)) (ml_nm g 3) (mss_cons (ms_expr (me_app g 2 (me_tuple g T.n_tuple (me_lc [("_law_i", 4)] g (mi_rng1 g T.n_range (me_var 1)) (fun _ _ _ _ _ g => (ml_nm g 4)) (fun _ _ _ _ _ g => mts_nil) (fun _ _ _ _ _ g => (me_tuple g T.n_tuple (me_lc [("_law_j", 5)] g (mi_rng1 g T.n_range (me_var 1)) (fun _ _ _ _ _ g => (ml_nm g 5)) (fun _ _ _ _ _ g => mts_nil) (fun _ _ _ _ _ g => (me_call g T.f__law_number (mg_b 0 mg_nil)))))))))) (mss_kil mss_nil))) (mss_cons (ms_retS (me_tuple g T.n_tuple (me_var 2))) mss_nil))))
theorem sc_is_integer : FnScope ["value"] ["value"] (defScope s_is_integer) := ⟨rfl, rfl, rfl, by decide +kernel, rfl, by decide +kernel, by decide +kernel⟩
theorem b_is_integer {W : Wo} [Calm W] {k : Nat} {f : Addr} (T : Tx W k) (cdv : Value) (A : Around) (outer : List Env) (s : Shared) (H : Hp) (E : XK) (g : Gd W (k + 3) (cxF W ["value"] "is_integer" (defScope s_is_integer) f cdv A outer s H E) E) : MSs W (cxF W ["value"] "is_integer" (defScope s_is_integer) f cdv A outer s H E) E (defBody s_is_integer) d_is_integer.body :=
  (mss_cons (ms_retS (me_and (me_isInt g T.co T.n_isinstance T.n_int (me_var 0)) (me_one (me_not g (me_isBool g T.co T.n_isinstance T.n_bool (me_var 0)))))) mss_nil)
theorem sc_are_integers : FnScope ["value", "many", "part"] ["value", "many"] (defScope s_are_integers) := ⟨rfl, rfl, rfl, by decide +kernel, rfl, by decide +kernel, by decide +kernel⟩
theorem b_are_integers {W : Wo} [Calm W] {k : Nat} {f : Addr} (T : Tx W k) (cdv : Value) (A : Around) (outer : List Env) (s : Shared) (H : Hp) (E : XK) (g : Gd W (k + 3) (cxF W ["value", "many", "part"] "are_integers" (defScope s_are_integers) f cdv A outer s H E) E) : MSs W (cxF W ["value", "many", "part"] "are_integers" (defScope s_are_integers) f cdv A outer s H E) E (defBody s_are_integers) d_are_integers.body :=
  (mss_cons (ms_retS (me_and (me_isTuple g T.co T.n_isinstance T.n_tuple (me_var 0)) (me_and (me_cmp (cm_eq g) (me_len g T.n_len (me_var 0)) (me_var 1)) (me_one (me_all g T.n_all (me_lc [("part", 2)] g (mi_seq g (me_var 0)) (fun _ _ _ _ _ g => (ml_nm g 2)) (fun _ _ _ _ _ g => mts_nil) (fun _ _ _ _ _ g => (me_call g T.f_is_integer (mg_v (me_var 2) mg_nil))))))))) mss_nil)
theorem sc_is_table : FnScope ["value", "row", "part"] ["value"] (defScope s_is_table) := ⟨rfl, rfl, rfl, by decide +kernel, rfl, by decide +kernel, by decide +kernel⟩
theorem b_is_table {W : Wo} [Calm W] {k : Nat} {f : Addr} (T : Tx W k) (cdv : Value) (A : Around) (outer : List Env) (s : Shared) (H : Hp) (E : XK) (g : Gd W (k + 3) (cxF W ["value", "row", "part"] "is_table" (defScope s_is_table) f cdv A outer s H E) E) : MSs W (cxF W ["value", "row", "part"] "is_table" (defScope s_is_table) f cdv A outer s H E) E (defBody s_is_table) d_is_table.body :=
  (mss_cons (ms_ift (mt_w (mw_or (mt_not (mt_val g (me_isTuple g T.co T.n_isinstance T.n_tuple (me_var 0)))) (mw_or1 (mt_not (mt_chain ci_le ci_le me_int (me_len g T.n_len (me_var 0)) (me_gInt g T.c_MOST_SIZE)))))) (mss_cons (ms_retS me_bl) mss_nil) mss_nil) (mss_cons (ms_ift (mt_not (mt_val g (me_all g T.n_all (me_lc [("row", 1)] g (mi_seq g (me_var 0)) (fun _ _ _ _ _ g => (ml_nm g 1)) (fun _ _ _ _ _ g => mts_nil) (fun _ _ _ _ _ g => (me_call g T.f_are_integers (mg_v (me_var 1) (mg_v (me_len g T.n_len (me_var 0)) mg_nil)))))))) (mss_cons (ms_retS me_bl) mss_nil) mss_nil) (mss_cons (ms_retS (me_all g T.n_all (me_lc2 [("row", 1), ("part", 2)] [2] g (mi_seq g (me_var 0)) (fun _ _ _ _ _ g => (ml_nm g 1)) (fun _ _ _ _ _ g => mts_nil) (fun _ _ _ _ _ g => (mi_seq g (me_var 1))) (fun _ _ _ _ _ g => (ml_nm g 2)) (fun _ _ _ _ _ g => mts_nil) (fun _ _ _ _ _ g => (me_cmp cm_le (me_abs g T.n_abs (me_var 2)) (me_gInt g T.c_MOST_NUMBER)))))) mss_nil)))
theorem sc_wrong_table : FnScope ["value", "at", "table"] ["value"] (defScope s_wrong_table) := ⟨rfl, rfl, rfl, by decide +kernel, rfl, by decide +kernel, by decide +kernel⟩
theorem b_wrong_table {W : Wo} [Calm W] {k : Nat} {f : Addr} (T : Tx W k) (cdv : Value) (A : Around) (outer : List Env) (s : Shared) (H : Hp) (E : XK) (g : Gd W (k + 3) (cxF W ["value", "at", "table"] "wrong_table" (defScope s_wrong_table) f cdv A outer s H E) E) : MSs W (cxF W ["value", "at", "table"] "wrong_table" (defScope s_wrong_table) f cdv A outer s H E) E (defBody s_wrong_table) d_wrong_table.body :=
  (mss_cons (ms_ift (mt_w (mw_or (mt_not (mt_val g (me_isTuple g T.co T.n_isinstance T.n_tuple (me_var 0)))) (mw_or1 (mt_cmp (cm_eq g) (me_len g T.n_len (me_var 0)) me_int)))) (mss_cons (ms_retS (me_neg me_int)) mss_nil) mss_nil) (mss_cons (ms_for g po_cx (mi_enm g T.n_enumerate (me_var 0)) (ml_tp g (mls_cons (ml_nm g 1) (mls_cons (ml_nm g 2) mls_nil))) (mss_cons (ms_ift (mt_w (mw_or (mt_cmp (cm_eq g) (me_var 1) (me_gInt g T.c_MOST_TABLES)) (mw_or (mt_not (mt_val g (me_call g T.f_is_table (mg_v (me_var 2) mg_nil)))) (mw_or1 (mt_cmp (cm_ne g) (me_len g T.n_len (me_var 2)) (me_len g T.n_len (me_idx (me_var 0) me_int g))))))) (mss_cons (ms_retS (me_var 1)) mss_nil) mss_nil) (mss_kil mss_nil))) (mss_cons (ms_retS me_non) mss_nil)))
theorem sc_Lot_init : FnScope ["self", "tables", "at"] ["self", "tables"] (defScope s_Lot_init) := ⟨rfl, rfl, rfl, by decide +kernel, rfl, by decide +kernel, by decide +kernel⟩
theorem b_Lot_init {W : Wo} [Calm W] {k : Nat} {f : Addr} (T : Tx W k) (cdv : Value) (A : Around) (outer : List Env) (s : Shared) (H : Hp) (E : XK) (g : Gd W (k + 3) (cxF W ["self", "tables", "at"] "Lot.__init__" (defScope s_Lot_init) f cdv A outer s H E) E) : MC W (cxF W ["self", "tables", "at"] "Lot.__init__" (defScope s_Lot_init) f cdv A outer s H E) E (W.Z.C 0) (defBody s_Lot_init) d_Lot_init.pre d_Lot_init.fs :=
  (mc_cons (ms_asgS (me_call g T.f_wrong_table (mg_v (me_var 1) mg_nil)) (ml_nm g 2)) (mc_cons (ms_ift (mt_notN (me_var 2)) (mss_cons ms_nev mss_nil) mss_nil) (mc_nil g T.s_Lot_own_tables (me_var 1))))
theorem sc_written_integer : FnScope ["word", "digits", "sign"] ["word"] (defScope s_written_integer) := ⟨rfl, rfl, rfl, by decide +kernel, rfl, by decide +kernel, by decide +kernel⟩
theorem b_written_integer {W : Wo} [Calm W] {k : Nat} {f : Addr} (T : Tx W k) (cdv : Value) (A : Around) (outer : List Env) (s : Shared) (H : Hp) (E : XK) (g : Gd W (k + 3) (cxF W ["word", "digits", "sign"] "written_integer" (defScope s_written_integer) f cdv A outer s H E) E) : MSs W (cxF W ["word", "digits", "sign"] "written_integer" (defScope s_written_integer) f cdv A outer s H E) E (defBody s_written_integer) d_written_integer.body :=
  (mss_cons (ms_asgS (me_ife (mt_cmp (cm_eq g) (me_slo01 (me_var 0) me_int g) me_str) (me_slo10 (me_var 0) me_int g) (me_var 0)) (ml_nm g 1)) (mss_cons (ms_ift (mt_w (mw_or (mt_cmp (cm_eq g) (me_var 1) me_str) (mw_or (mt_cmp cm_gt (me_len g T.n_len (me_var 1)) me_int) (mw_or1 (mt_not (mt_val g (me_all g T.n_all (me_lc [("sign", 2)] g (mi_seq g (me_var 1)) (fun _ _ _ _ _ g => (ml_nm g 2)) (fun _ _ _ _ _ g => mts_nil) (fun _ _ _ _ _ g => (me_cmp (cm_in g) (me_var 2) (me_gStr g T.c_DIGITS))))))))))) (mss_cons (ms_retS me_non) mss_nil) mss_nil) (mss_cons (ms_retS (me_ife (mt_cmp (cm_eq g) (me_strI g T.n_str (me_toInt g T.n_int (me_var 0))) (me_var 0)) (me_toInt g T.n_int (me_var 0)) me_non)) mss_nil)))
theorem sc_text_row : FnScope ["line", "word"] ["line"] (defScope s_text_row) := ⟨rfl, rfl, rfl, by decide +kernel, rfl, by decide +kernel, by decide +kernel⟩
theorem b_text_row {W : Wo} [Calm W] {k : Nat} {f : Addr} (T : Tx W k) (cdv : Value) (A : Around) (outer : List Env) (s : Shared) (H : Hp) (E : XK) (g : Gd W (k + 3) (cxF W ["line", "word"] "text_row" (defScope s_text_row) f cdv A outer s H E) E) : MSs W (cxF W ["line", "word"] "text_row" (defScope s_text_row) f cdv A outer s H E) E (defBody s_text_row) d_text_row.body :=
  (mss_cons (ms_retS (me_tuple g T.n_tuple (me_lc [("word", 1)] g (mi_seq g (me_split g (me_var 0) me_str)) (fun _ _ _ _ _ g => (ml_nm g 1)) (fun _ _ _ _ _ g => mts_nil) (fun _ _ _ _ _ g => (me_call g T.f_written_integer (mg_v (me_var 1) mg_nil)))))) mss_nil)
theorem sc_text_lot : FnScope ["value", "lines", "size", "tables", "begin", "line"] ["value"] (defScope s_text_lot) := ⟨rfl, rfl, rfl, by decide +kernel, rfl, by decide +kernel, by decide +kernel⟩
theorem b_text_lot {W : Wo} [Calm W] {k : Nat} {f : Addr} (T : Tx W k) (cdv : Value) (A : Around) (outer : List Env) (s : Shared) (H : Hp) (E : XK) (g : Gd W (k + 3) (cxF W ["value", "lines", "size", "tables", "begin", "line"] "text_lot" (defScope s_text_lot) f cdv A outer s H E) E) : MSs W (cxF W ["value", "lines", "size", "tables", "begin", "line"] "text_lot" (defScope s_text_lot) f cdv A outer s H E) E (defBody s_text_lot) d_text_lot.body :=
  (mss_cons (ms_ift (mt_not (mt_val g (me_isStr g T.co T.n_isinstance T.n_str (me_var 0)))) (mss_cons (ms_retS me_non) mss_nil) mss_nil) (mss_cons (ms_asgS (me_split g (me_var 0) me_str) (ml_nm g 1)) (mss_cons (ms_asgS (me_ife (mt_cmp (cm_eq g) (me_slo01 (me_idx (me_var 1) me_int g) me_int g) me_str) (me_call g T.f_written_integer (mg_v (me_slo10 (me_idx (me_var 1) me_int g) me_int g) mg_nil)) me_non) (ml_nm g 2)) (mss_cons (ms_ift (mt_w (mw_or (mt_isN (me_var 2)) (mw_or (mt_not (mt_chain ci_le ci_le me_int (me_var 2) (me_gInt g T.c_MOST_SIZE))) (mw_or1 (mt_cmp (cm_ne g) (me_mod (me_len g T.n_len (me_var 1)) (me_add (me_var 2) me_int g)) me_int))))) (mss_cons (ms_retS me_non) mss_nil) mss_nil) (mss_cons (ms_asg (me_lst ma_nil) (ml_nm g 3)) (mss_kil (mss_cons (ms_for g po_cx (mi_rng3 g T.n_range me_int (me_len g T.n_len (me_var 1)) (me_add (me_var 2) me_int g)) (ml_nm g 4) (mss_cons (ms_ift (mt_cmp (cm_ne g) (me_idx (me_var 1) (me_var 4) g) me_str) (mss_cons (ms_retS me_non) mss_nil) mss_nil) (mss_cons (ms_expr (me_app g 3 (me_tuple g T.n_tuple (me_lc [("line", 5)] g (mi_seq g (me_slo11 (me_var 1) (me_add (me_var 4) me_int g) (me_add (me_add (me_var 4) me_int g) (me_var 2) g) g)) (fun _ _ _ _ _ g => (ml_nm g 5)) (fun _ _ _ _ _ g => mts_nil) (fun _ _ _ _ _ g => (me_call g T.f_text_row (mg_v (me_var 5) mg_nil))))))) (mss_kil mss_nil)))) (mss_cons (ms_ift (mt_w (mw_or (mt_notN (me_call g T.f_wrong_table (mg_v (me_tuple g T.n_tuple (me_var 3)) mg_nil))) (mw_or1 (mt_cmp (cm_ne g) (me_len g T.n_len (me_idx (me_var 3) me_int g)) (me_var 2))))) (mss_cons (ms_retS me_non) mss_nil) mss_nil) (mss_cons (ms_retS (me_make g T.m_Lot (mg_v (me_tuple g T.n_tuple (me_var 3)) mg_nil))) mss_nil)))))))))
theorem sc_Lot_read : FnScope ["cls", "text", "lot"] ["cls", "text"] (defScope s_Lot_read) := ⟨rfl, rfl, rfl, by decide +kernel, rfl, by decide +kernel, by decide +kernel⟩
theorem b_Lot_read {W : Wo} [Calm W] {k : Nat} {f : Addr} (T : Tx W k) (cdv : Value) (A : Around) (outer : List Env) (s : Shared) (H : Hp) (E : XK) (g : Gd W (k + 3) (cxF W ["cls", "text", "lot"] "Lot.read" (defScope s_Lot_read) f cdv A outer s H E) E) : MSs W (cxF W ["cls", "text", "lot"] "Lot.read" (defScope s_Lot_read) f cdv A outer s H E) E (defBody s_Lot_read) d_Lot_read.body :=
  (mss_cons (ms_asgS (me_call g T.f_text_lot (mg_v (me_var 1) mg_nil)) (ml_nm g 2)) (mss_cons (ms_ift (mt_isN (me_var 2)) (mss_cons ms_nev mss_nil) mss_nil) (mss_cons (ms_retS (me_var 2)) mss_nil)))
theorem sc_Lot_size : FnScope ["self"] ["self"] (defScope s_Lot_size) := ⟨rfl, rfl, rfl, by decide +kernel, rfl, by decide +kernel, by decide +kernel⟩
theorem b_Lot_size {W : Wo} [Calm W] {k : Nat} {f : Addr} (T : Tx W k) (cdv : Value) (A : Around) (outer : List Env) (s : Shared) (H : Hp) (E : XK) (g : Gd W (k + 3) (cxF W ["self"] "Lot.size" (defScope s_Lot_size) f cdv A outer s H E) E) : MSs W (cxF W ["self"] "Lot.size" (defScope s_Lot_size) f cdv A outer s H E) E (defBody s_Lot_size) d_Lot_size.body :=
  (mss_cons (ms_retS (me_len g T.n_len (me_idx (me_fld g T.s_Lot_own_tables (me_var 0)) me_int g))) mss_nil)
theorem sc_lot_lines : FnScope ["lot", "lines", "table", "row", "part"] ["lot"] (defScope s_lot_lines) := ⟨rfl, rfl, rfl, by decide +kernel, rfl, by decide +kernel, by decide +kernel⟩
theorem b_lot_lines {W : Wo} [Calm W] {k : Nat} {f : Addr} (T : Tx W k) (cdv : Value) (A : Around) (outer : List Env) (s : Shared) (H : Hp) (E : XK) (g : Gd W (k + 3) (cxF W ["lot", "lines", "table", "row", "part"] "lot_lines" (defScope s_lot_lines) f cdv A outer s H E) E) : MSs W (cxF W ["lot", "lines", "table", "row", "part"] "lot_lines" (defScope s_lot_lines) f cdv A outer s H E) E (defBody s_lot_lines) d_lot_lines.body :=
  (mss_cons (ms_asg (me_lst (ma_one (me_fst2 (me_prop g T.p_Lot_size (me_var 0))) ma_nil)) (ml_nm g 1)) (mss_cons (ms_for g po_cx (mi_seq g (me_fld g T.s_Lot_own_tables (me_var 0))) (ml_nm g 2) (mss_cons (ms_expr (me_ext g 1 (me_lst (ma_one me_str (ma_star g (me_lc [("row", 3)] g (mi_seq g (me_var 2)) (fun _ _ _ _ _ g => (ml_nm g 3)) (fun _ _ _ _ _ g => mts_nil) (fun _ _ _ _ _ g => (me_join g me_str (me_lc [("part", 4)] g (mi_seq g (me_var 3)) (fun _ _ _ _ _ g => (ml_nm g 4)) (fun _ _ _ _ _ g => mts_nil) (fun _ _ _ _ _ g => (me_strI g T.n_str (me_var 4))))))) ma_nil))))) (mss_kil mss_nil))) (mss_shr (mss_cons (ms_retS (me_var 1)) mss_nil))))
theorem sc_Lot_str : FnScope ["self"] ["self"] (defScope s_Lot_str) := ⟨rfl, rfl, rfl, by decide +kernel, rfl, by decide +kernel, by decide +kernel⟩
theorem b_Lot_str {W : Wo} [Calm W] {k : Nat} {f : Addr} (T : Tx W k) (cdv : Value) (A : Around) (outer : List Env) (s : Shared) (H : Hp) (E : XK) (g : Gd W (k + 3) (cxF W ["self"] "Lot.__str__" (defScope s_Lot_str) f cdv A outer s H E) E) : MSs W (cxF W ["self"] "Lot.__str__" (defScope s_Lot_str) f cdv A outer s H E) E (defBody s_Lot_str) d_Lot_str.body :=
  (mss_cons (ms_retS (me_join g me_str (me_call g T.f_lot_lines (mg_v (me_var 0) mg_nil)))) mss_nil)
theorem sc_Lot_text : FnScope ["self"] ["self"] (defScope s_Lot_text) := ⟨rfl, rfl, rfl, by decide +kernel, rfl, by decide +kernel, by decide +kernel⟩
theorem b_Lot_text {W : Wo} [Calm W] {k : Nat} {f : Addr} (T : Tx W k) (cdv : Value) (A : Around) (outer : List Env) (s : Shared) (H : Hp) (E : XK) (g : Gd W (k + 3) (cxF W ["self"] "Lot.text" (defScope s_Lot_text) f cdv A outer s H E) E) : MSs W (cxF W ["self"] "Lot.text" (defScope s_Lot_text) f cdv A outer s H E) E (defBody s_Lot_text) d_Lot_text.body :=
  (mss_cons (ms_retS (me_strOwn g T.dd_Lot_str T.n_str (me_var 0))) mss_nil)
theorem sc__law_lines : FnScope ["_law_grids_here", "_law_lines_here", "_law_grid", "_law_line", "_law_each"] ["_law_grids_here"] (defScope s__law_lines) := ⟨rfl, rfl, rfl, by decide +kernel, rfl, by decide +kernel, by decide +kernel⟩
theorem b__law_lines {W : Wo} [Calm W] {k : Nat} {f : Addr} (T : Tx W k) (cdv : Value) (A : Around) (outer : List Env) (s : Shared) (H : Hp) (E : XK) (g : Gd W (k + 3) (cxF W ["_law_grids_here", "_law_lines_here", "_law_grid", "_law_line", "_law_each"] "_law_lines" (defScope s__law_lines) f cdv A outer s H E) E) : MSs W (cxF W ["_law_grids_here", "_law_lines_here", "_law_grid", "_law_line", "_law_each"] "_law_lines" (defScope s__law_lines) f cdv A outer s H E) E (defBody s__law_lines) d__law_lines.body :=
  (mss_cons (ms_asgS (me_lst (ma_one (me_add me_str (me_strI g T.n_str (me_len g T.n_len (me_idx (me_var 0) me_int g))) g) ma_nil)) (ml_nm g 1)) (mss_cons (ms_for g po_cx (mi_seq g (me_var 0)) (ml_nm g 2) (mss_cons (ms_asgS (me_add (me_add (me_var 1) (me_lst (ma_one me_str ma_nil)) g) (me_lc [("_law_line", 3)] g (mi_seq g (me_var 2)) (fun _ _ _ _ _ g => (ml_nm g 3)) (fun _ _ _ _ _ g => mts_nil) (fun _ _ _ _ _ g => (me_join g me_str (me_lc [("_law_each", 4)] g (mi_seq g (me_var 3)) (fun _ _ _ _ _ g => (ml_nm g 4)) (fun _ _ _ _ _ g => mts_nil) (fun _ _ _ _ _ g => (me_strI g T.n_str (me_var 4))))))) g) (ml_nm g 1)) (mss_kil mss_nil))) (mss_cons (ms_retS (me_var 1)) mss_nil)))
theorem sc__law_sheet : FnScope ["_law_grids_here"] ["_law_grids_here"] (defScope s__law_sheet) := ⟨rfl, rfl, rfl, by decide +kernel, rfl, by decide +kernel, by decide +kernel⟩
theorem b__law_sheet {W : Wo} [Calm W] {k : Nat} {f : Addr} (T : Tx W k) (cdv : Value) (A : Around) (outer : List Env) (s : Shared) (H : Hp) (E : XK) (g : Gd W (k + 3) (cxF W ["_law_grids_here"] "_law_sheet" (defScope s__law_sheet) f cdv A outer s H E) E) : MSs W (cxF W ["_law_grids_here"] "_law_sheet" (defScope s__law_sheet) f cdv A outer s H E) E (defBody s__law_sheet) d__law_sheet.body :=
  (mss_cons (ms_retS (me_join g me_str (me_call g T.f__law_lines (mg_v (me_var 0) mg_nil)))) mss_nil)
theorem sc__law_built : FnScope ["_law_pail", "_law_grids_here", "_law_way"] ["_law_pail", "_law_grids_here"] (defScope s__law_built) := ⟨rfl, rfl, rfl, by decide +kernel, rfl, by decide +kernel, by decide +kernel⟩
theorem b__law_built {W : Wo} [Calm W] {k : Nat} {f : Addr} (T : Tx W k) (cdv : Value) (A : Around) (outer : List Env) (s : Shared) (H : Hp) (E : XK) (g : Gd W (k + 3) (cxF W ["_law_pail", "_law_grids_here", "_law_way"] "_law_built" (defScope s__law_built) f cdv A outer s H E) E) : MSs W (cxF W ["_law_pail", "_law_grids_here", "_law_way"] "_law_built" (defScope s__law_built) f cdv A outer s H E) E (defBody s__law_built) d__law_built.body :=
  (mss_cons (ms_asgS (me_call g T.f__law_cast (mg_b 0 (mg_v me_int mg_nil))) (ml_nm g 2)) (mss_cons (ms_ift (mt_cmp (cm_eq g) (me_var 2) me_int) (mss_cons (ms_retS (me_make g T.m_Lot (mg_v (me_var 1) mg_nil))) mss_nil) mss_nil) (mss_cons (ms_retS (me_ife (mt_cmp (cm_eq g) (me_var 2) me_int) (me_makeP0 g T.mk_Lot_tables (mks_cons (me_var 1) mks_nil)) (me_cls g T.cd_Lot_read (mg_v (me_call g T.f__law_sheet (mg_v (me_var 1) mg_nil)) mg_nil)))) mss_nil)))
theorem sc_Lot_tables : FnScope ["self"] ["self"] (defScope s_Lot_tables) := ⟨rfl, rfl, rfl, by decide +kernel, rfl, by decide +kernel, by decide +kernel⟩
theorem b_Lot_tables {W : Wo} [Calm W] {k : Nat} {f : Addr} (T : Tx W k) (cdv : Value) (A : Around) (outer : List Env) (s : Shared) (H : Hp) (E : XK) (g : Gd W (k + 3) (cxF W ["self"] "Lot.tables" (defScope s_Lot_tables) f cdv A outer s H E) E) : MSs W (cxF W ["self"] "Lot.tables" (defScope s_Lot_tables) f cdv A outer s H E) E (defBody s_Lot_tables) d_Lot_tables.body :=
  (mss_cons (ms_retS (me_fld g T.s_Lot_own_tables (me_var 0))) mss_nil)
theorem sc_Lot_len : FnScope ["self"] ["self"] (defScope s_Lot_len) := ⟨rfl, rfl, rfl, by decide +kernel, rfl, by decide +kernel, by decide +kernel⟩
theorem b_Lot_len {W : Wo} [Calm W] {k : Nat} {f : Addr} (T : Tx W k) (cdv : Value) (A : Around) (outer : List Env) (s : Shared) (H : Hp) (E : XK) (g : Gd W (k + 3) (cxF W ["self"] "Lot.__len__" (defScope s_Lot_len) f cdv A outer s H E) E) : MSs W (cxF W ["self"] "Lot.__len__" (defScope s_Lot_len) f cdv A outer s H E) E (defBody s_Lot_len) d_Lot_len.body :=
  (mss_cons (ms_retS (me_len g T.n_len (me_fld g T.s_Lot_own_tables (me_var 0)))) mss_nil)
theorem sc__law_thing : FnScope ["_law_pail", "_law_menu"] ["_law_pail"] (defScope s__law_thing) := ⟨rfl, rfl, rfl, by decide +kernel, rfl, by decide +kernel, by decide +kernel⟩
theorem b__law_thing {W : Wo} [Calm W] {k : Nat} {f : Addr} (T : Tx W k) (cdv : Value) (A : Around) (outer : List Env) (s : Shared) (H : Hp) (E : XK) (g : Gd W (k + 3) (cxF W ["_law_pail", "_law_menu"] "_law_thing" (defScope s__law_thing) f cdv A outer s H E) E) : MSs W (cxF W ["_law_pail", "_law_menu"] "_law_thing" (defScope s__law_thing) f cdv A outer s H E) E (defBody s__law_thing) d__law_thing.body :=
  (mss_cons (ms_asgS (me_lst (ma_one me_non (ma_one me_bl (ma_one me_bl (ma_one me_int (ma_one me_int (ma_one (me_neg me_int) (ma_one me_int (ma_one (me_add (me_pow me_int me_int) me_int g) (ma_one (me_neg (me_pow me_int me_int)) (ma_one me_str (ma_one me_str (ma_one me_str (ma_one (me_tup ma_nil) (ma_one (me_tup (ma_one me_int ma_nil)) (ma_one (me_tup (ma_one me_int (ma_one me_int ma_nil))) (ma_one (me_tup (ma_one (me_tup (ma_one me_int ma_nil)) ma_nil)) (ma_one me_str ma_nil)))))))))))))))))) (ml_nm g 1)) (mss_cons (ms_asgS (me_add (me_var 1) (me_lst (ma_one (me_lst ma_nil) (ma_one (me_lst (ma_one me_int ma_nil)) (ma_one me_dct0 (ma_one me_dct1 (ma_one (me_tup (ma_one (me_tup (ma_one me_int (ma_one me_int ma_nil))) ma_nil)) (ma_one (me_tup (ma_one (me_tup (ma_one me_int (ma_one me_int ma_nil))) (ma_one (me_tup (ma_one me_int (ma_one me_int ma_nil))) ma_nil))) (ma_one (me_tup (ma_one (me_tup (ma_one (me_tup (ma_one me_int ma_nil)) ma_nil)) ma_nil)) (ma_one (me_tup (ma_one me_str ma_nil)) (ma_one (me_tup (ma_one me_non ma_nil)) (ma_one me_str ma_nil))))))))))) g) (ml_nm g 1)) (mss_cons (ms_retS (me_call g T.f__law_any_of (mg_b 0 (mg_v (me_var 1) mg_nil)))) mss_nil)))
theorem sc__law_near : FnScope ["_law_pail", "_law_grids_here", "_law_size", "_law_way", "_law_at", "_law_over", "_law_first", "_law_i", "_law_j"] ["_law_pail", "_law_grids_here"] (defScope s__law_near) := ⟨rfl, rfl, rfl, by decide +kernel, rfl, by decide +kernel, by decide +kernel⟩
theorem b__law_near {W : Wo} [Calm W] {k : Nat} {f : Addr} (T : Tx W k) (cdv : Value) (A : Around) (outer : List Env) (s : Shared) (H : Hp) (E : XK) (g : Gd W (k + 3) (cxF W ["_law_pail", "_law_grids_here", "_law_size", "_law_way", "_law_at", "_law_over", "_law_first", "_law_i", "_law_j"] "_law_near" (defScope s__law_near) f cdv A outer s H E) E) : MSs W (cxF W ["_law_pail", "_law_grids_here", "_law_size", "_law_way", "_law_at", "_law_over", "_law_first", "_law_i", "_law_j"] "_law_near" (defScope s__law_near) f cdv A outer s H E) E (defBody s__law_near) d__law_near.body :=
  (mss_cons (ms_tpar2 g (me_call g T.f__law_cast (mg_b 0 (mg_v me_int mg_nil))) (me_call g T.f__law_cast (mg_b 0 (mg_v (me_len g T.n_len (me_var 1)) mg_nil)))) (mss_cons (ms_asgS (me_len g T.n_len (me_idx (me_var 1) me_int g)) (ml_nm g 2)) (mss_cons (ms_ift (mt_w (mw_and (mt_cmp (cm_eq g) (me_var 3) me_int) (mw_and1 (mt_cmp cm_gt (me_len g T.n_len (me_var 1)) me_int)))) (mss_cons (ms_retS (me_add (me_slo01 (me_var 1) (me_var 4) g) (me_slo10 (me_var 1) (me_add (me_var 4) me_int g) g) g)) mss_nil) mss_nil) (mss_cons (ms_ift (mt_cmp (cm_eq g) (me_var 3) me_int) (mss_cons (ms_retS (me_rev (me_var 1) g)) mss_nil) mss_nil) (mss_cons (ms_ift (mt_cmp (cm_eq g) (me_var 3) me_int) (mss_cons (ms_asgS (me_tuple g T.n_tuple (me_lc [("_law_i", 7)] g (mi_rng1 g T.n_range (me_var 2)) (fun _ _ _ _ _ g => (ml_nm g 7)) (fun _ _ _ _ _ g => mts_nil) (fun _ _ _ _ _ g => (me_tuple g T.n_tuple (me_lc [("_law_j", 8)] g (mi_rng1 g T.n_range (me_var 2)) (fun _ _ _ _ _ g => (ml_nm g 8)) (fun _ _ _ _ _ g => mts_nil) (fun _ _ _ _ _ g => (me_idx (me_idx (me_idx (me_var 1) (me_var 4) g) (me_var 8) g) (me_var 7) g))))))) (ml_nm g 5)) (mss_cons (ms_retS (me_add (me_add (me_slo01 (me_var 1) (me_var 4) g) (me_tup (ma_one (me_var 5) ma_nil)) g) (me_slo10 (me_var 1) (me_add (me_var 4) me_int g) g) g)) mss_nil)) mss_nil) (mss_cons (ms_ift (mt_w (mw_and (mt_cmp (cm_eq g) (me_var 3) me_int) (mw_and1 (mt_cmp cm_lt (me_idx (me_idx (me_idx (me_var 1) (me_var 4) g) me_int g) me_int g) (me_pow me_int me_int))))) (mss_cons (ms_asgS (me_add (me_tup (ma_one (me_add (me_idx (me_idx (me_idx (me_var 1) (me_var 4) g) me_int g) me_int g) me_int g) ma_nil)) (me_slo10 (me_idx (me_idx (me_var 1) (me_var 4) g) me_int g) me_int g) g) (ml_nm g 6)) (mss_cons (ms_retS (me_add (me_add (me_slo01 (me_var 1) (me_var 4) g) (me_tup (ma_one (me_add (me_tup (ma_one (me_var 6) ma_nil)) (me_slo10 (me_idx (me_var 1) (me_var 4) g) me_int g) g) ma_nil)) g) (me_slo10 (me_var 1) (me_add (me_var 4) me_int g) g) g)) mss_nil)) mss_nil) (mss_cons (ms_retS (me_var 1)) mss_nil)))))))
theorem sc_Lot_eq : FnScope ["self", "other"] ["self", "other"] (defScope s_Lot_eq) := ⟨rfl, rfl, rfl, by decide +kernel, rfl, by decide +kernel, by decide +kernel⟩
theorem b_Lot_eq {W : Wo} [Calm W] {k : Nat} {f : Addr} (T : Tx W k) (cdv : Value) (A : Around) (outer : List Env) (s : Shared) (H : Hp) (E : XK) (g : Gd W (k + 3) (cxF W ["self", "other"] "Lot.__eq__" (defScope s_Lot_eq) f cdv A outer s H E) E) : MSs W (cxF W ["self", "other"] "Lot.__eq__" (defScope s_Lot_eq) f cdv A outer s H E) E (defBody s_Lot_eq) d_Lot_eq.body :=
  (mss_cons (ms_retS (me_and (me_isiC g T.co T.l_Lot T.n_isinstance T.g_Lot (me_var 1)) (me_one (me_cmp (cm_eq g) (me_fld g T.s_Lot_own_tables (me_var 0)) (me_fld g T.s_Lot_own_tables (me_var 1)))))) mss_nil)
theorem sc__law_right : FnScope ["_law_pail", "_law_grids_here", "_law_made", "_law_turn", "_law_near_here", "_law_far", "_law_value", "_law_same"] ["_law_pail"] (defScope s__law_right) := ⟨rfl, rfl, rfl, by decide +kernel, rfl, by decide +kernel, by decide +kernel⟩
theorem b__law_right {W : Wo} [Calm W] {k : Nat} {f : Addr} (T : Tx W k) (cdv : Value) (A : Around) (outer : List Env) (s : Shared) (H : Hp) (E : XK) (g : Gd W (k + 3) (cxF W ["_law_pail", "_law_grids_here", "_law_made", "_law_turn", "_law_near_here", "_law_far", "_law_value", "_law_same"] "_law_right" (defScope s__law_right) f cdv A outer s H E) E) : MSs W (cxF W ["_law_pail", "_law_grids_here", "_law_made", "_law_turn", "_law_near_here", "_law_far", "_law_value", "_law_same"] "_law_right" (defScope s__law_right) f cdv A outer s H E) E (defBody s__law_right) d__law_right.body :=
  (mss_cons (ms_asgS (me_call g T.f__law_grids (mg_b 0 mg_nil)) (ml_nm g 1)) (mss_cons (ms_asg (me_lst (ma_one (me_make g T.m_Lot (mg_v (me_var 1) mg_nil)) (ma_one (me_cls g T.cd_Lot_read (mg_v (me_call g T.f__law_sheet (mg_v (me_var 1) mg_nil)) mg_nil)) ma_nil))) (ml_nm g 2)) (mss_cons (ms_for g po_cx (mi_rng1 g T.n_range me_int) (ml_nm g 3) (mss_cons (ms_expr (me_app g 2 (me_call g T.f__law_built (mg_b 0 (mg_v (me_call g T.f__law_near (mg_b 0 (mg_v (me_var 1) mg_nil))) mg_nil))))) (mss_kil mss_nil))) (mss_shr (mss_cons (ms_for g po_cx (mi_seq g (me_var 2)) (ml_nm g 4) (mss_cons (ms_for g po_cx (mi_seq g (me_var 2)) (ml_nm g 5) (mss_cons (ms_asgS (me_cmp (cm_eq g) (me_prop g T.p_Lot_text (me_var 4)) (me_prop g T.p_Lot_text (me_var 5))) (ml_nm g 7)) (mss_cons (ms_ift (mt_cmp (cm_ne g) (me_repr g T.n_repr (me_lst (ma_one (me_eqOwn g T.dd_Lot_eq (me_var 4) (me_var 5)) (ma_one (me_neOwn g T.dd_Lot_eq T.om_Lot T.ne_Lot (me_var 4) (me_var 5)) ma_nil)))) (me_repr g T.n_repr (me_lst (ma_one (me_var 7) (ma_one (me_not g (me_var 7)) ma_nil))))) (mss_cons (ms_retS me_bl) mss_nil) mss_nil) (mss_kil mss_nil)))) (mss_cons (ms_for g po_cx (mi_seq g (me_lst (ma_one me_non (ma_one (me_prop g T.p_Lot_text (me_var 4)) (ma_one (me_prop g T.p_Lot_tables (me_var 4)) (ma_one (me_lenOwn g T.dd_Lot_len T.n_len (me_var 4)) (ma_one (me_lst (ma_one (me_prop g T.p_Lot_text (me_var 4)) ma_nil)) (ma_one (me_call g T.f__law_thing (mg_b 0 mg_nil)) (ma_one (me_tup (ma_one (me_var 4) ma_nil)) (ma_one (me_lst (ma_one (me_var 4) ma_nil)) ma_nil)))))))))) (ml_nm g 6) (mss_cons (ms_ift (mt_w (mw_or (mt_eqL 4 6 g T.dd_Lot_eq T.rq_Lot) (mw_or (mt_not (mt_neL 4 6 g T.dd_Lot_eq T.rq_Lot T.om_Lot T.ne_Lot)) (mw_or1 (mt_eqR 6 4 g T.dd_Lot_eq T.rq_Lot))))) (mss_cons (ms_retS me_bl) mss_nil) mss_nil) (mss_kil mss_nil))) (mss_cons (ms_ift (mt_w (mw_or (mt_inI (neg := true) 4 g T.dd_Lot_eq T.rq_Lot (me_var 2)) (mw_or1 (mt_inI (neg := false) 4 g T.dd_Lot_eq T.rq_Lot (me_lst (ma_one (me_prop g T.p_Lot_text (me_var 4)) (ma_one (me_prop g T.p_Lot_tables (me_var 4)) ma_nil))))))) (mss_cons (ms_retS me_bl) mss_nil) mss_nil) (mss_kil mss_nil))))) (mss_cons (ms_retS (me_cmp (cm_eq g) (me_prop g T.p_Lot_text (me_idx (me_var 2) me_int g)) (me_call g T.f__law_sheet (mg_v (me_var 1) mg_nil)))) mss_nil))))))
theorem sc__law_begun : FnScope ["_law_script", "_law_turn", "_law_own", "_law_state", "_law_cell"] ["_law_script", "_law_turn"] (defScope s__law_begun) := ⟨rfl, rfl, rfl, by decide +kernel, rfl, by decide +kernel, by decide +kernel⟩
theorem b__law_begun {W : Wo} [Calm W] {k : Nat} {f : Addr} (T : Tx W k) (cdv : Value) (A : Around) (outer : List Env) (s : Shared) (H : Hp) (E : XK) (g : Gd W (k + 3) (cxF W ["_law_script", "_law_turn", "_law_own", "_law_state", "_law_cell"] "_law_begun" (defScope s__law_begun) f cdv A outer s H E) E) : MSs W (cxF W ["_law_script", "_law_turn", "_law_own", "_law_state", "_law_cell"] "_law_begun" (defScope s__law_begun) f cdv A outer s H E) E (defBody s__law_begun) d__law_begun.body :=
  (mss_cons (ms_asgS (me_ife (mt_cmp cm_lt (me_var 1) (me_len g T.n_len (me_var 0))) (me_idx (me_var 0) (me_var 1) g) me_int) (ml_nm g 2)) (mss_cons (ms_asgS (me_add me_int (me_mul me_int (me_var 1) g) g) (ml_nm g 3)) (mss_cons (ms_for g po_cx (mi_seq g (me_slo01 (me_var 0) me_int g)) (ml_nm g 4) (mss_cons (ms_asgS (me_mod (me_toInt g T.n_int (me_add (me_add (me_mul (me_var 3) me_int g) (me_mul (me_var 4) me_int g) g) me_int g)) me_int) (ml_nm g 3)) (mss_kil mss_nil))) (mss_cons (ms_ret (me_lst (ma_one (me_ife (mt_w (mw_or (mt_cmp cm_lt (me_var 2) me_int) (mw_or1 (mt_cmp cm_ge (me_var 2) (me_pow me_int me_int))))) (me_abs g T.n_abs (me_var 2)) me_int) (ma_one (me_mod (me_toInt g T.n_int (me_add (me_add (me_mul (me_var 3) me_int g) (me_mul (me_var 2) (me_var 2) g) g) (me_mul me_int (me_var 1) g) g)) me_int) (ma_one me_int ma_nil))))) mss_nil))))
theorem sc_law : FnScope ["_law_script", "_law_turn"] ["_law_script"] (defScope s_law) := ⟨rfl, rfl, rfl, by decide +kernel, rfl, by decide +kernel, by decide +kernel⟩
theorem b_law {W : Wo} [Calm W] {k : Nat} {f : Addr} (T : Tx W k) (cdv : Value) (A : Around) (outer : List Env) (s : Shared) (H : Hp) (E : XK) (g : Gd W (k + 3) (cxF W ["_law_script", "_law_turn"] "law" (defScope s_law) f cdv A outer s H E) E) : MSs W (cxF W ["_law_script", "_law_turn"] "law" (defScope s_law) f cdv A outer s H E) E (defBody s_law) d_law.body :=
  (mss_cons (ms_retS (me_all g T.n_all (me_lc [("_law_turn", 1)] g (mi_rng1 g T.n_range (me_max2 g T.n_max me_int (me_min2 g T.n_min (me_len g T.n_len (me_var 0)) me_int))) (fun _ _ _ _ _ g => (ml_nm g 1)) (fun _ _ _ _ _ g => mts_nil) (fun _ _ _ _ _ g => (me_callO g T.f__law_right (me_call g T.f__law_begun (mg_v (me_var 0) (mg_v (me_var 1) mg_nil)))))))) mss_nil)
abbrev lvl : Nat := 9
def xfs : Nat → List Str := fun i => []
abbrev Zj (K : PySem.W.Frag) (C : Nat → Addr) (T0 : List (Addr × Str)) : Zc := ⟨K, C, xfs, 1, 1, T0⟩
structure Facts (K : PySem.W.Frag) (mg : Str → Option Value) (C : Nat → Addr) (cs0 : List (Addr × Addr)) (T0 : List (Addr × Str)) (a__law_cast a__law_any_of a__law_number a__law_grids a_is_integer a_are_integers a_is_table a_wrong_table i_Lot a_written_integer a_text_row a_text_lot a_Lot_read a_Lot_size a_lot_lines a_Lot_str a_Lot_text a__law_lines a__law_sheet a__law_built a_Lot_tables a_Lot_len a__law_thing a__law_near a_Lot_eq a__law_right a__law_begun a_law : Addr) : Prop where
  d__law_cast : Df K "_law_cast" "_law_cast" s__law_cast ["_law_pail", "_law_many"] a__law_cast
  g__law_cast : mg "_law_cast" = some (.ref a__law_cast)
  k__law_cast : PySem.W.keepIn K (.ref a__law_cast) = true
  d__law_any_of : Df K "_law_any_of" "_law_any_of" s__law_any_of ["_law_pail", "_law_some"] a__law_any_of
  g__law_any_of : mg "_law_any_of" = some (.ref a__law_any_of)
  k__law_any_of : PySem.W.keepIn K (.ref a__law_any_of) = true
  d__law_number : Df K "_law_number" "_law_number" s__law_number ["_law_pail"] a__law_number
  g__law_number : mg "_law_number" = some (.ref a__law_number)
  k__law_number : PySem.W.keepIn K (.ref a__law_number) = true
  d__law_grids : Df K "_law_grids" "_law_grids" s__law_grids ["_law_pail"] a__law_grids
  g__law_grids : mg "_law_grids" = some (.ref a__law_grids)
  k__law_grids : PySem.W.keepIn K (.ref a__law_grids) = true
  d_is_integer : Df K "is_integer" "is_integer" s_is_integer ["value"] a_is_integer
  g_is_integer : mg "is_integer" = some (.ref a_is_integer)
  k_is_integer : PySem.W.keepIn K (.ref a_is_integer) = true
  d_are_integers : Df K "are_integers" "are_integers" s_are_integers ["value", "many"] a_are_integers
  g_are_integers : mg "are_integers" = some (.ref a_are_integers)
  k_are_integers : PySem.W.keepIn K (.ref a_are_integers) = true
  d_is_table : Df K "is_table" "is_table" s_is_table ["value"] a_is_table
  g_is_table : mg "is_table" = some (.ref a_is_table)
  k_is_table : PySem.W.keepIn K (.ref a_is_table) = true
  d_wrong_table : Df K "wrong_table" "wrong_table" s_wrong_table ["value"] a_wrong_table
  g_wrong_table : mg "wrong_table" = some (.ref a_wrong_table)
  k_wrong_table : PySem.W.keepIn K (.ref a_wrong_table) = true
  d_Lot_init : Df K "__init__" "Lot.__init__" s_Lot_init ["self", "tables"] i_Lot
  d_written_integer : Df K "written_integer" "written_integer" s_written_integer ["word"] a_written_integer
  g_written_integer : mg "written_integer" = some (.ref a_written_integer)
  k_written_integer : PySem.W.keepIn K (.ref a_written_integer) = true
  d_text_row : Df K "text_row" "text_row" s_text_row ["line"] a_text_row
  g_text_row : mg "text_row" = some (.ref a_text_row)
  k_text_row : PySem.W.keepIn K (.ref a_text_row) = true
  d_text_lot : Df K "text_lot" "text_lot" s_text_lot ["value"] a_text_lot
  g_text_lot : mg "text_lot" = some (.ref a_text_lot)
  k_text_lot : PySem.W.keepIn K (.ref a_text_lot) = true
  d_Lot_read : Df K "read" "Lot.read" s_Lot_read ["cls", "text"] a_Lot_read
  cm_Lot_read : ∃ mc p, ClX.CRead K (C 0) mc ∧ ClX.CMet K (C 0) mc "read" p a_Lot_read
  d_Lot_size : Df K "size" "Lot.size" s_Lot_size ["self"] a_Lot_size
  p_Lot_size : ∃ p, PySem.W.findIn K (.ref (C 0)) "size" = some (some (.ref p)) ∧ PySem.W.specialIn K (.ref p) "__get__" = some (some (.builtin "property.__get__")) ∧ PySem.W.takesIn K (.ref p) = some true ∧ ∃ rest, PySem.W.recIn K p "property" = some (.ref a_Lot_size :: rest)
  d_lot_lines : Df K "lot_lines" "lot_lines" s_lot_lines ["lot"] a_lot_lines
  g_lot_lines : mg "lot_lines" = some (.ref a_lot_lines)
  k_lot_lines : PySem.W.keepIn K (.ref a_lot_lines) = true
  d_Lot_str : Df K "__str__" "Lot.__str__" s_Lot_str ["self"] a_Lot_str
  o_Lot_str : PySem.W.findIn K (.ref (C 0)) "__str__" = some (some (.ref a_Lot_str)) ∧ PySem.W.isFn K (.ref a_Lot_str) = true
  d_Lot_text : Df K "text" "Lot.text" s_Lot_text ["self"] a_Lot_text
  p_Lot_text : ∃ p, PySem.W.findIn K (.ref (C 0)) "text" = some (some (.ref p)) ∧ PySem.W.specialIn K (.ref p) "__get__" = some (some (.builtin "property.__get__")) ∧ PySem.W.takesIn K (.ref p) = some true ∧ ∃ rest, PySem.W.recIn K p "property" = some (.ref a_Lot_text :: rest)
  d__law_lines : Df K "_law_lines" "_law_lines" s__law_lines ["_law_grids_here"] a__law_lines
  g__law_lines : mg "_law_lines" = some (.ref a__law_lines)
  k__law_lines : PySem.W.keepIn K (.ref a__law_lines) = true
  d__law_sheet : Df K "_law_sheet" "_law_sheet" s__law_sheet ["_law_grids_here"] a__law_sheet
  g__law_sheet : mg "_law_sheet" = some (.ref a__law_sheet)
  k__law_sheet : PySem.W.keepIn K (.ref a__law_sheet) = true
  d__law_built : Df K "_law_built" "_law_built" s__law_built ["_law_pail", "_law_grids_here"] a__law_built
  g__law_built : mg "_law_built" = some (.ref a__law_built)
  k__law_built : PySem.W.keepIn K (.ref a__law_built) = true
  d_Lot_tables : Df K "tables" "Lot.tables" s_Lot_tables ["self"] a_Lot_tables
  p_Lot_tables : ∃ p, PySem.W.findIn K (.ref (C 0)) "tables" = some (some (.ref p)) ∧ PySem.W.specialIn K (.ref p) "__get__" = some (some (.builtin "property.__get__")) ∧ PySem.W.takesIn K (.ref p) = some true ∧ ∃ rest, PySem.W.recIn K p "property" = some (.ref a_Lot_tables :: rest)
  d_Lot_len : Df K "__len__" "Lot.__len__" s_Lot_len ["self"] a_Lot_len
  o_Lot_len : PySem.W.findIn K (.ref (C 0)) "__len__" = some (some (.ref a_Lot_len)) ∧ PySem.W.isFn K (.ref a_Lot_len) = true
  d__law_thing : Df K "_law_thing" "_law_thing" s__law_thing ["_law_pail"] a__law_thing
  g__law_thing : mg "_law_thing" = some (.ref a__law_thing)
  k__law_thing : PySem.W.keepIn K (.ref a__law_thing) = true
  d__law_near : Df K "_law_near" "_law_near" s__law_near ["_law_pail", "_law_grids_here"] a__law_near
  g__law_near : mg "_law_near" = some (.ref a__law_near)
  k__law_near : PySem.W.keepIn K (.ref a__law_near) = true
  d_Lot_eq : Df K "__eq__" "Lot.__eq__" s_Lot_eq ["self", "other"] a_Lot_eq
  o_Lot_eq : PySem.W.findIn K (.ref (C 0)) "__eq__" = some (some (.ref a_Lot_eq)) ∧ PySem.W.isFn K (.ref a_Lot_eq) = true
  d__law_right : Df K "_law_right" "_law_right" s__law_right ["_law_pail"] a__law_right
  g__law_right : mg "_law_right" = some (.ref a__law_right)
  k__law_right : PySem.W.keepIn K (.ref a__law_right) = true
  d__law_begun : Df K "_law_begun" "_law_begun" s__law_begun ["_law_script", "_law_turn"] a__law_begun
  g__law_begun : mg "_law_begun" = some (.ref a__law_begun)
  k__law_begun : PySem.W.keepIn K (.ref a__law_begun) = true
  d_law : Df K "law" "law" s_law ["_law_script"] a_law
  g_law : mg "law" = some (.ref a_law)
  k_law : PySem.W.keepIn K (.ref a_law) = true
  dk_Lot_tables : Dk K "__init__" "Lot.__init__" s_Lot_init ["self", "tables"] i_Lot 1 ["tables"] (0 :: [0].map (· + 1))
  m_Lot : Mk K (C 0) i_Lot
  h_Lot : mg "Lot" = some (.ref (C 0))
  s_Lot_own_tables : ∃ p, Slot1 K (C 0) "own_tables" p 0
  ne_Lot : PySem.W.findIn K (.ref (C 0)) "__ne__" = some (some (.builtin "object.__ne__"))
  om_Lot : PySem.W.mroIn K (C 0) (.type "object") = some true
  co : Co (Zj K C T0) 1
  rq_Lot : ∀ t ∈ seven, PySem.W.subIn K (.ref (C 0)) (.type t) = some false
  n_abs : mg "abs" = none
  n_all : mg "all" = none
  n_bool : mg "bool" = none
  n_divmod : mg "divmod" = none
  n_enumerate : mg "enumerate" = none
  n_int : mg "int" = none
  n_isinstance : mg "isinstance" = none
  n_len : mg "len" = none
  n_max : mg "max" = none
  n_min : mg "min" = none
  n_range : mg "range" = none
  n_repr : mg "repr" = none
  n_str : mg "str" = none
  n_tuple : mg "tuple" = none
  x_DIGITS : ∃ t, mg "DIGITS" = some (.str "0123456789" t)
  x_MOST_NUMBER : ∃ t, mg "MOST_NUMBER" = some (.int 1000000 t)
  x_MOST_SIZE : ∃ t, mg "MOST_SIZE" = some (.int 4 t)
  x_MOST_TABLES : ∃ t, mg "MOST_TABLES" = some (.int 3 t)
section
variable {P : Program} {w : World} {K : PySem.W.Frag} {mg : Str → Option Value} {base : Heap} {C : Nat → Addr} {cs0 : List (Addr × Addr)} {T0 : List (Addr × Str)} {a__law_cast a__law_any_of a__law_number a__law_grids a_is_integer a_are_integers a_is_table a_wrong_table i_Lot a_written_integer a_text_row a_text_lot a_Lot_read a_Lot_size a_lot_lines a_Lot_str a_Lot_text a__law_lines a__law_sheet a__law_built a_Lot_tables a_Lot_len a__law_thing a__law_near a_Lot_eq a__law_right a__law_begun a_law : Addr}
abbrev Wj (P : Program) (w : World) (K : PySem.W.Frag) (mg : Str → Option Value) (base : Heap) (C : Nat → Addr) (T0 : List (Addr × Str)) (j : Nat) : Wo := ⟨P, w, mg, base, Zj K C T0, calls tab j, false⟩
instance {P : Program} {w : World} {K : PySem.W.Frag} {mg : Str → Option Value} {base : Heap} {C : Nat → Addr} {T0 : List (Addr × Str)} {j : Nat} : Calm (Wj P w K mg base C T0 j) := ⟨rfl⟩
theorem lev (F : Facts K mg C cs0 T0 a__law_cast a__law_any_of a__law_number a__law_grids a_is_integer a_are_integers a_is_table a_wrong_table i_Lot a_written_integer a_text_row a_text_lot a_Lot_read a_Lot_size a_lot_lines a_Lot_str a_Lot_text a__law_lines a__law_sheet a__law_built a_Lot_tables a_Lot_len a__law_thing a__law_near a_Lot_eq a__law_right a__law_begun a_law) (TB : ∀ p ∈ cs0, LamX.TabB base mg p.1 p.2) : ∀ j, Tx (Wj P w K mg base C T0 j) (4 * j)
  | 0 => { f__law_cast := ⟨a__law_cast, fnr_zero (t := tab) (W := Wj P w K mg base C T0 0), F.g__law_cast, F.k__law_cast⟩, f__law_any_of := ⟨a__law_any_of, fnr_zero (t := tab) (W := Wj P w K mg base C T0 0), F.g__law_any_of, F.k__law_any_of⟩, f__law_number := ⟨a__law_number, fnr_zero (t := tab) (W := Wj P w K mg base C T0 0), F.g__law_number, F.k__law_number⟩, f__law_grids := ⟨a__law_grids, fnr_zero (t := tab) (W := Wj P w K mg base C T0 0), F.g__law_grids, F.k__law_grids⟩, f_is_integer := ⟨a_is_integer, fnr_zero (t := tab) (W := Wj P w K mg base C T0 0), F.g_is_integer, F.k_is_integer⟩, f_are_integers := ⟨a_are_integers, fnr_zero (t := tab) (W := Wj P w K mg base C T0 0), F.g_are_integers, F.k_are_integers⟩, f_is_table := ⟨a_is_table, fnr_zero (t := tab) (W := Wj P w K mg base C T0 0), F.g_is_table, F.k_is_table⟩, f_wrong_table := ⟨a_wrong_table, fnr_zero (t := tab) (W := Wj P w K mg base C T0 0), F.g_wrong_table, F.k_wrong_table⟩, m_Lot := ⟨⟨i_Lot, F.m_Lot, fnc_zero (t := tab) (W := Wj P w K mg base C T0 0), F.h_Lot⟩, (show 0 < 1 by decide)⟩, f_written_integer := ⟨a_written_integer, fnr_zero (t := tab) (W := Wj P w K mg base C T0 0), F.g_written_integer, F.k_written_integer⟩, f_text_row := ⟨a_text_row, fnr_zero (t := tab) (W := Wj P w K mg base C T0 0), F.g_text_row, F.k_text_row⟩, f_text_lot := ⟨a_text_lot, fnr_zero (t := tab) (W := Wj P w K mg base C T0 0), F.g_text_lot, F.k_text_lot⟩, cd_Lot_read := ⟨let ⟨mc, p, h1, h2⟩ := F.cm_Lot_read; ⟨mc, p, a_Lot_read, h1, h2, fnr_zero (t := tab) (W := Wj P w K mg base C T0 0)⟩, F.h_Lot⟩, p_Lot_size := ⟨F.co.sc 0 (by decide), let ⟨p, h1, h2, h3, h4⟩ := F.p_Lot_size; ⟨p, a_Lot_size, h1, h2, h3, h4, fnr_zero (t := tab) (W := Wj P w K mg base C T0 0)⟩⟩, f_lot_lines := ⟨a_lot_lines, fnr_zero (t := tab) (W := Wj P w K mg base C T0 0), F.g_lot_lines, F.k_lot_lines⟩, dd_Lot_str := ⟨F.co.sc 0 (by decide), a_Lot_str, F.o_Lot_str.1, F.o_Lot_str.2, fnr_zero (t := tab) (W := Wj P w K mg base C T0 0)⟩, p_Lot_text := ⟨F.co.sc 0 (by decide), let ⟨p, h1, h2, h3, h4⟩ := F.p_Lot_text; ⟨p, a_Lot_text, h1, h2, h3, h4, fnr_zero (t := tab) (W := Wj P w K mg base C T0 0)⟩⟩, f__law_lines := ⟨a__law_lines, fnr_zero (t := tab) (W := Wj P w K mg base C T0 0), F.g__law_lines, F.k__law_lines⟩, f__law_sheet := ⟨a__law_sheet, fnr_zero (t := tab) (W := Wj P w K mg base C T0 0), F.g__law_sheet, F.k__law_sheet⟩, f__law_built := ⟨a__law_built, fnr_zero (t := tab) (W := Wj P w K mg base C T0 0), F.g__law_built, F.k__law_built⟩, p_Lot_tables := ⟨F.co.sc 0 (by decide), let ⟨p, h1, h2, h3, h4⟩ := F.p_Lot_tables; ⟨p, a_Lot_tables, h1, h2, h3, h4, fnr_zero (t := tab) (W := Wj P w K mg base C T0 0)⟩⟩, dd_Lot_len := ⟨F.co.sc 0 (by decide), a_Lot_len, F.o_Lot_len.1, F.o_Lot_len.2, fnr_zero (t := tab) (W := Wj P w K mg base C T0 0)⟩, f__law_thing := ⟨a__law_thing, fnr_zero (t := tab) (W := Wj P w K mg base C T0 0), F.g__law_thing, F.k__law_thing⟩, f__law_near := ⟨a__law_near, fnr_zero (t := tab) (W := Wj P w K mg base C T0 0), F.g__law_near, F.k__law_near⟩, dd_Lot_eq := ⟨F.co.sc 0 (by decide), a_Lot_eq, F.o_Lot_eq.1, F.o_Lot_eq.2, fnr_zero (t := tab) (W := Wj P w K mg base C T0 0)⟩, f__law_right := ⟨a__law_right, fnr_zero (t := tab) (W := Wj P w K mg base C T0 0), F.g__law_right, F.k__law_right⟩, f__law_begun := ⟨a__law_begun, fnr_zero (t := tab) (W := Wj P w K mg base C T0 0), F.g__law_begun, F.k__law_begun⟩, f_law := ⟨a_law, fnr_zero (t := tab) (W := Wj P w K mg base C T0 0), F.g_law, F.k_law⟩, mk_Lot_tables := ⟨⟨i_Lot, F.m_Lot, fnck_zero (t := tab) (W := Wj P w K mg base C T0 0), F.h_Lot⟩, (show 0 < 1 by decide)⟩, g_Lot := F.h_Lot, l_Lot := (show 0 < 1 by decide), s_Lot_own_tables := ⟨F.co.sc 0 (by decide), F.s_Lot_own_tables⟩, ne_Lot := F.ne_Lot, om_Lot := F.om_Lot, co := F.co, rq_Lot := ⟨F.rq_Lot⟩, n_abs := F.n_abs, n_all := F.n_all, n_bool := F.n_bool, n_divmod := F.n_divmod, n_enumerate := F.n_enumerate, n_int := F.n_int, n_isinstance := F.n_isinstance, n_len := F.n_len, n_max := F.n_max, n_min := F.n_min, n_range := F.n_range, n_repr := F.n_repr, n_str := F.n_str, n_tuple := F.n_tuple, x_DIGITS := F.x_DIGITS, x_MOST_NUMBER := F.x_MOST_NUMBER, x_MOST_SIZE := F.x_MOST_SIZE, x_MOST_TABLES := F.x_MOST_TABLES }
  | j + 1 => by
    have T : Tx (Wj P w K mg base C T0 j) (4 * j) := lev F TB j
    exact { f__law_cast := ⟨a__law_cast, fnr_next (W := Wj P w K mg base C T0 j) (d := d__law_cast) rfl rfl F.d__law_cast sc__law_cast rfl rfl (b__law_cast T), F.g__law_cast, F.k__law_cast⟩, f__law_any_of := ⟨a__law_any_of, fnr_next (W := Wj P w K mg base C T0 j) (d := d__law_any_of) rfl rfl F.d__law_any_of sc__law_any_of rfl rfl (b__law_any_of T), F.g__law_any_of, F.k__law_any_of⟩, f__law_number := ⟨a__law_number, fnr_next (W := Wj P w K mg base C T0 j) (d := d__law_number) rfl rfl F.d__law_number sc__law_number rfl rfl (b__law_number T), F.g__law_number, F.k__law_number⟩, f__law_grids := ⟨a__law_grids, fnr_next (W := Wj P w K mg base C T0 j) (d := d__law_grids) rfl rfl F.d__law_grids sc__law_grids rfl rfl (b__law_grids T), F.g__law_grids, F.k__law_grids⟩, f_is_integer := ⟨a_is_integer, fnr_next (W := Wj P w K mg base C T0 j) (d := d_is_integer) rfl rfl F.d_is_integer sc_is_integer rfl rfl (b_is_integer T), F.g_is_integer, F.k_is_integer⟩, f_are_integers := ⟨a_are_integers, fnr_next (W := Wj P w K mg base C T0 j) (d := d_are_integers) rfl rfl F.d_are_integers sc_are_integers rfl rfl (b_are_integers T), F.g_are_integers, F.k_are_integers⟩, f_is_table := ⟨a_is_table, fnr_next (W := Wj P w K mg base C T0 j) (d := d_is_table) rfl rfl F.d_is_table sc_is_table rfl rfl (b_is_table T), F.g_is_table, F.k_is_table⟩, f_wrong_table := ⟨a_wrong_table, fnr_next (W := Wj P w K mg base C T0 j) (d := d_wrong_table) rfl rfl F.d_wrong_table sc_wrong_table rfl rfl (b_wrong_table T), F.g_wrong_table, F.k_wrong_table⟩, m_Lot := ⟨⟨i_Lot, F.m_Lot, fnc_next (W := Wj P w K mg base C T0 j) (cd := d_Lot_init) rfl rfl F.d_Lot_init sc_Lot_init rfl rfl (b_Lot_init T), F.h_Lot⟩, (show 0 < 1 by decide)⟩, f_written_integer := ⟨a_written_integer, fnr_next (W := Wj P w K mg base C T0 j) (d := d_written_integer) rfl rfl F.d_written_integer sc_written_integer rfl rfl (b_written_integer T), F.g_written_integer, F.k_written_integer⟩, f_text_row := ⟨a_text_row, fnr_next (W := Wj P w K mg base C T0 j) (d := d_text_row) rfl rfl F.d_text_row sc_text_row rfl rfl (b_text_row T), F.g_text_row, F.k_text_row⟩, f_text_lot := ⟨a_text_lot, fnr_next (W := Wj P w K mg base C T0 j) (d := d_text_lot) rfl rfl F.d_text_lot sc_text_lot rfl rfl (b_text_lot T), F.g_text_lot, F.k_text_lot⟩, cd_Lot_read := ⟨let ⟨mc, p, h1, h2⟩ := F.cm_Lot_read; ⟨mc, p, a_Lot_read, h1, h2, fnr_next (W := Wj P w K mg base C T0 j) (d := d_Lot_read) rfl rfl F.d_Lot_read sc_Lot_read rfl rfl (b_Lot_read T)⟩, F.h_Lot⟩, p_Lot_size := ⟨F.co.sc 0 (by decide), let ⟨p, h1, h2, h3, h4⟩ := F.p_Lot_size; ⟨p, a_Lot_size, h1, h2, h3, h4, fnr_next (W := Wj P w K mg base C T0 j) (d := d_Lot_size) rfl rfl F.d_Lot_size sc_Lot_size rfl rfl (b_Lot_size T)⟩⟩, f_lot_lines := ⟨a_lot_lines, fnr_next (W := Wj P w K mg base C T0 j) (d := d_lot_lines) rfl rfl F.d_lot_lines sc_lot_lines rfl rfl (b_lot_lines T), F.g_lot_lines, F.k_lot_lines⟩, dd_Lot_str := ⟨F.co.sc 0 (by decide), a_Lot_str, F.o_Lot_str.1, F.o_Lot_str.2, fnr_next (W := Wj P w K mg base C T0 j) (d := d_Lot_str) rfl rfl F.d_Lot_str sc_Lot_str rfl rfl (b_Lot_str T)⟩, p_Lot_text := ⟨F.co.sc 0 (by decide), let ⟨p, h1, h2, h3, h4⟩ := F.p_Lot_text; ⟨p, a_Lot_text, h1, h2, h3, h4, fnr_next (W := Wj P w K mg base C T0 j) (d := d_Lot_text) rfl rfl F.d_Lot_text sc_Lot_text rfl rfl (b_Lot_text T)⟩⟩, f__law_lines := ⟨a__law_lines, fnr_next (W := Wj P w K mg base C T0 j) (d := d__law_lines) rfl rfl F.d__law_lines sc__law_lines rfl rfl (b__law_lines T), F.g__law_lines, F.k__law_lines⟩, f__law_sheet := ⟨a__law_sheet, fnr_next (W := Wj P w K mg base C T0 j) (d := d__law_sheet) rfl rfl F.d__law_sheet sc__law_sheet rfl rfl (b__law_sheet T), F.g__law_sheet, F.k__law_sheet⟩, f__law_built := ⟨a__law_built, fnr_next (W := Wj P w K mg base C T0 j) (d := d__law_built) rfl rfl F.d__law_built sc__law_built rfl rfl (b__law_built T), F.g__law_built, F.k__law_built⟩, p_Lot_tables := ⟨F.co.sc 0 (by decide), let ⟨p, h1, h2, h3, h4⟩ := F.p_Lot_tables; ⟨p, a_Lot_tables, h1, h2, h3, h4, fnr_next (W := Wj P w K mg base C T0 j) (d := d_Lot_tables) rfl rfl F.d_Lot_tables sc_Lot_tables rfl rfl (b_Lot_tables T)⟩⟩, dd_Lot_len := ⟨F.co.sc 0 (by decide), a_Lot_len, F.o_Lot_len.1, F.o_Lot_len.2, fnr_next (W := Wj P w K mg base C T0 j) (d := d_Lot_len) rfl rfl F.d_Lot_len sc_Lot_len rfl rfl (b_Lot_len T)⟩, f__law_thing := ⟨a__law_thing, fnr_next (W := Wj P w K mg base C T0 j) (d := d__law_thing) rfl rfl F.d__law_thing sc__law_thing rfl rfl (b__law_thing T), F.g__law_thing, F.k__law_thing⟩, f__law_near := ⟨a__law_near, fnr_next (W := Wj P w K mg base C T0 j) (d := d__law_near) rfl rfl F.d__law_near sc__law_near rfl rfl (b__law_near T), F.g__law_near, F.k__law_near⟩, dd_Lot_eq := ⟨F.co.sc 0 (by decide), a_Lot_eq, F.o_Lot_eq.1, F.o_Lot_eq.2, fnr_next (W := Wj P w K mg base C T0 j) (d := d_Lot_eq) rfl rfl F.d_Lot_eq sc_Lot_eq rfl rfl (b_Lot_eq T)⟩, f__law_right := ⟨a__law_right, fnr_next (W := Wj P w K mg base C T0 j) (d := d__law_right) rfl rfl F.d__law_right sc__law_right rfl rfl (b__law_right T), F.g__law_right, F.k__law_right⟩, f__law_begun := ⟨a__law_begun, fnr_next (W := Wj P w K mg base C T0 j) (d := d__law_begun) rfl rfl F.d__law_begun sc__law_begun rfl rfl (b__law_begun T), F.g__law_begun, F.k__law_begun⟩, f_law := ⟨a_law, fnr_next (W := Wj P w K mg base C T0 j) (d := d_law) rfl rfl F.d_law sc_law rfl rfl (b_law T), F.g_law, F.k_law⟩, mk_Lot_tables := ⟨⟨i_Lot, F.m_Lot, fnck_next (W := Wj P w K mg base C T0 j) (cd := d_Lot_init) rfl rfl F.dk_Lot_tables sc_Lot_init rfl rfl (b_Lot_init T), F.h_Lot⟩, (show 0 < 1 by decide)⟩, g_Lot := F.h_Lot, l_Lot := (show 0 < 1 by decide), s_Lot_own_tables := ⟨F.co.sc 0 (by decide), F.s_Lot_own_tables⟩, ne_Lot := F.ne_Lot, om_Lot := F.om_Lot, co := F.co, rq_Lot := ⟨F.rq_Lot⟩, n_abs := F.n_abs, n_all := F.n_all, n_bool := F.n_bool, n_divmod := F.n_divmod, n_enumerate := F.n_enumerate, n_int := F.n_int, n_isinstance := F.n_isinstance, n_len := F.n_len, n_max := F.n_max, n_min := F.n_min, n_range := F.n_range, n_repr := F.n_repr, n_str := F.n_str, n_tuple := F.n_tuple, x_DIGITS := F.x_DIGITS, x_MOST_NUMBER := F.x_MOST_NUMBER, x_MOST_SIZE := F.x_MOST_SIZE, x_MOST_TABLES := F.x_MOST_TABLES }
end
end M

set_option Elab.async false
set_option linter.all false
set_option maxRecDepth 100000
set_option maxHeartbeats 8000000
namespace M
open PySem L2 PyProof.Rows SlX
/-! ### plain functions -/
def m__law_near (x_0 x_1 : D) : Mo (D × D) :=
  (((.ok (D.int 5)) >>= fun v0 => (m__law_cast x_0 v0)) >>= fun v1 => (((.ok x_1) >>= fun v2 => (prm .len [v2])) >>= fun v3 => (m__law_cast v1.2 v3)) >>= fun v4 => ((((.ok x_1) >>= fun v5 => ((.ok (D.int 0)) >>= fun v6 => (prm .idx [v5, v6]))) >>= fun v7 => (prm .len [v7])) >>= fun v8 => (((((.ok v1.1) >>= fun v9 => ((.ok (D.int 0)) >>= fun v10 => (prm .eq [v9, v10]))) >>= fun v11 => (tru v11)) >>= fun v12 => if v12 then ((((.ok x_1) >>= fun v13 => (prm .len [v13])) >>= fun v14 => ((.ok (D.int 1)) >>= fun v15 => (prm .gt [v14, v15]))) >>= fun v16 => (tru v16)) else .ok false) >>= fun v17 => if v17 then ((((.ok x_1) >>= fun v18 => ((.ok v4.1) >>= fun v19 => (prm (.slo false true) [v18, v19]))) >>= fun v20 => (((.ok x_1) >>= fun v21 => (((.ok v4.1) >>= fun v22 => ((.ok (D.int 1)) >>= fun v23 => (prm .add [v22, v23]))) >>= fun v24 => (prm (.slo true false) [v21, v24]))) >>= fun v25 => (prm .add [v20, v25]))) >>= fun v26 => (.ok (v26, v4.2))) else ((((.ok v1.1) >>= fun v27 => ((.ok (D.int 1)) >>= fun v28 => (prm .eq [v27, v28]))) >>= fun v29 => (tru v29)) >>= fun v30 => if v30 then (((.ok x_1) >>= fun v31 => (prm .revL [v31])) >>= fun v32 => (.ok (v32, v4.2))) else ((((.ok v1.1) >>= fun v33 => ((.ok (D.int 2)) >>= fun v34 => (prm .eq [v33, v34]))) >>= fun v35 => (tru v35)) >>= fun v36 => if v36 then (((((.ok v8) >>= fun v37 => (optM (rng1F [v37]))) >>= fun v38 => (mapL (fun v39 => (.ok v39) >>= fun v40 => ((((.ok v8) >>= fun v41 => (optM (rng1F [v41]))) >>= fun v42 => (mapL (fun v43 => (.ok v43) >>= fun v44 => ((((.ok x_1) >>= fun v45 => ((.ok v4.1) >>= fun v46 => (prm .idx [v45, v46]))) >>= fun v47 => ((.ok v44) >>= fun v48 => (prm .idx [v47, v48]))) >>= fun v49 => ((.ok v40) >>= fun v50 => (prm .idx [v49, v50])))) v42 >>= fun l => .ok (D.lst l))) >>= fun v51 => (prm .tuple [v51]))) v38 >>= fun l => .ok (D.lst l))) >>= fun v52 => (prm .tuple [v52])) >>= fun v53 => (((((.ok x_1) >>= fun v54 => ((.ok v4.1) >>= fun v55 => (prm (.slo false true) [v54, v55]))) >>= fun v56 => ((((.ok v53) >>= fun v57 => (.ok []) >>= fun v58 => .ok (v57 :: v58)) >>= tupM) >>= fun v59 => (prm .add [v56, v59]))) >>= fun v60 => (((.ok x_1) >>= fun v61 => (((.ok v4.1) >>= fun v62 => ((.ok (D.int 1)) >>= fun v63 => (prm .add [v62, v63]))) >>= fun v64 => (prm (.slo true false) [v61, v64]))) >>= fun v65 => (prm .add [v60, v65]))) >>= fun v66 => (.ok (v66, v4.2)))) else (((((.ok v1.1) >>= fun v67 => ((.ok (D.int 3)) >>= fun v68 => (prm .eq [v67, v68]))) >>= fun v69 => (tru v69)) >>= fun v70 => if v70 then ((((((.ok x_1) >>= fun v71 => ((.ok v4.1) >>= fun v72 => (prm .idx [v71, v72]))) >>= fun v73 => ((.ok (D.int 0)) >>= fun v74 => (prm .idx [v73, v74]))) >>= fun v75 => ((.ok (D.int 0)) >>= fun v76 => (prm .idx [v75, v76]))) >>= fun v77 => (((.ok (D.int 10)) >>= fun v78 => ((.ok (D.int 6)) >>= fun v79 => (prm .pow [v78, v79]))) >>= fun v80 => (prm .lt [v77, v80]))) >>= fun v81 => (tru v81)) else .ok false) >>= fun v82 => if v82 then (((((((((.ok x_1) >>= fun v83 => ((.ok v4.1) >>= fun v84 => (prm .idx [v83, v84]))) >>= fun v85 => ((.ok (D.int 0)) >>= fun v86 => (prm .idx [v85, v86]))) >>= fun v87 => ((.ok (D.int 0)) >>= fun v88 => (prm .idx [v87, v88]))) >>= fun v89 => ((.ok (D.int 1)) >>= fun v90 => (prm .add [v89, v90]))) >>= fun v91 => (.ok []) >>= fun v92 => .ok (v91 :: v92)) >>= tupM) >>= fun v93 => (((((.ok x_1) >>= fun v94 => ((.ok v4.1) >>= fun v95 => (prm .idx [v94, v95]))) >>= fun v96 => ((.ok (D.int 0)) >>= fun v97 => (prm .idx [v96, v97]))) >>= fun v98 => ((.ok (D.int 1)) >>= fun v99 => (prm (.slo true false) [v98, v99]))) >>= fun v100 => (prm .add [v93, v100]))) >>= fun v101 => (((((.ok x_1) >>= fun v102 => ((.ok v4.1) >>= fun v103 => (prm (.slo false true) [v102, v103]))) >>= fun v104 => (((((((.ok v101) >>= fun v105 => (.ok []) >>= fun v106 => .ok (v105 :: v106)) >>= tupM) >>= fun v107 => ((((.ok x_1) >>= fun v108 => ((.ok v4.1) >>= fun v109 => (prm .idx [v108, v109]))) >>= fun v110 => ((.ok (D.int 1)) >>= fun v111 => (prm (.slo true false) [v110, v111]))) >>= fun v112 => (prm .add [v107, v112]))) >>= fun v113 => (.ok []) >>= fun v114 => .ok (v113 :: v114)) >>= tupM) >>= fun v115 => (prm .add [v104, v115]))) >>= fun v116 => (((.ok x_1) >>= fun v117 => (((.ok v4.1) >>= fun v118 => ((.ok (D.int 1)) >>= fun v119 => (prm .add [v118, v119]))) >>= fun v120 => (prm (.slo true false) [v117, v120]))) >>= fun v121 => (prm .add [v116, v121]))) >>= fun v122 => (.ok (v122, v4.2)))) else ((.ok x_1) >>= fun v123 => (.ok (v123, v4.2)))))))))
def m__law_right (x_0 : D) : Mo (D × D) :=
  ((m__law_grids x_0) >>= fun v0 => (((((.ok v0.1) >>= fun v1 => (m_Lot_init v1 >>= fun fs => .ok (D.ins 0 fs))) >>= fun v2 => (((.ok (D.cls 0)) >>= fun v3 => (((.ok v0.1) >>= fun v4 => (m__law_sheet v4)) >>= fun v5 => (m_Lot_read v3 v5))) >>= fun v6 => (.ok []) >>= fun v7 => .ok (v6 :: v7)) >>= fun v8 => .ok (v2 :: v8)) >>= lstM) >>= fun v9 => (((.ok (D.int 7)) >>= fun v10 => (optM (rng1F [v10]))) >>= fun v11 => foldN (fun v12 v13 => (.ok v13) >>= fun v14 => (((((.ok v0.1) >>= fun v15 => (m__law_near v12.1 v15)) >>= fun v16 => (.ok []) >>= fun v17 => .ok ((v16.1 :: v17), v16.2)) >>= fun v18 => on1 (m__law_built v18.2) v18.1) >>= fun v19 => appM v12.2 v19.1 >>= fun v20 => (.ok (v19.2, v20)))) (v0.2, v9) v11 >>= fun v21 => (((.ok v21.2) >>= fun v22 => (itemsM v22)) >>= fun v23 => foldB (ρ := D × D) (fun v24 v25 => (.ok v25) >>= fun v26 => (((.ok v21.2) >>= fun v27 => (itemsM v27)) >>= fun v28 => foldB (ρ := D × D) (fun (v29 : Unit) v30 => (.ok v30) >>= fun v31 => ((((.ok v26) >>= fun v32 => (isI 0 v32 >>= fun _ => noExc (m_Lot_text v32))) >>= fun v33 => (((.ok v31) >>= fun v34 => (isI 0 v34 >>= fun _ => noExc (m_Lot_text v34))) >>= fun v35 => (prm .eq [v33, v35]))) >>= fun v36 => (((((((((.ok v26) >>= fun v37 => ((.ok v31) >>= fun v38 => (isI 0 v37 >>= fun _ => isI 0 v38 >>= fun _ => m_Lot_eq v37 v38))) >>= fun v39 => (prm .asBl [v39])) >>= fun v40 => ((((.ok v26) >>= fun v41 => ((.ok v31) >>= fun v42 => (isI 0 v41 >>= fun _ => isI 0 v42 >>= fun _ => m_Lot_eq v41 v42))) >>= fun v43 => (prm .notBl [v43])) >>= fun v44 => (.ok []) >>= fun v45 => .ok (v44 :: v45)) >>= fun v46 => .ok (v40 :: v46)) >>= lstM) >>= fun v47 => (prm .repr [v47])) >>= fun v48 => (((((.ok v36) >>= fun v49 => (((.ok v36) >>= fun v50 => ((tru v50) >>= fun v51 => (.ok (D.bl (!v51))))) >>= fun v52 => (.ok []) >>= fun v53 => .ok (v52 :: v53)) >>= fun v54 => .ok (v49 :: v54)) >>= lstM) >>= fun v55 => (prm .repr [v55])) >>= fun v56 => (prm .ne [v48, v56]))) >>= fun v57 => (tru v57)) >>= fun v58 => if v58 then ((.ok (D.bl false)) >>= fun v59 => .ok (.ret (v59, v24))) else (.ok (.nx ()))))) () v28 >>= fun v60 => Fl.on v60 (fun _ => (((((.ok D.non) >>= fun v61 => (((.ok v26) >>= fun v62 => (isI 0 v62 >>= fun _ => noExc (m_Lot_text v62))) >>= fun v63 => (((.ok v26) >>= fun v64 => (isI 0 v64 >>= fun _ => noExc (m_Lot_tables v64))) >>= fun v65 => ((((.ok v26) >>= fun v66 => (isI 0 v66 >>= fun _ => noExc (m_Lot_len v66))) >>= fun v67 => (prm .asLen [v67])) >>= fun v68 => (((((.ok v26) >>= fun v69 => (isI 0 v69 >>= fun _ => noExc (m_Lot_text v69))) >>= fun v70 => (.ok []) >>= fun v71 => .ok (v70 :: v71)) >>= lstM) >>= fun v72 => ((m__law_thing v24) >>= fun v73 => ((((.ok v26) >>= fun v74 => (.ok []) >>= fun v75 => .ok (v74 :: v75)) >>= tupM) >>= fun v76 => ((((.ok v26) >>= fun v77 => (.ok []) >>= fun v78 => .ok (v77 :: v78)) >>= lstM) >>= fun v79 => (.ok []) >>= fun v80 => .ok (v79 :: v80)) >>= fun v81 => .ok (v76 :: v81)) >>= fun v82 => .ok ((v73.1 :: v82), v73.2)) >>= fun v83 => .ok ((v72 :: v83.1), v83.2)) >>= fun v84 => .ok ((v68 :: v84.1), v84.2)) >>= fun v85 => .ok ((v65 :: v85.1), v85.2)) >>= fun v86 => .ok ((v63 :: v86.1), v86.2)) >>= fun v87 => .ok ((v61 :: v87.1), v87.2)) >>= fun v88 => lstM v88.1 >>= fun v89 => .ok (v89, v88.2)) >>= fun v90 => itemsM v90.1 >>= fun v91 => .ok (v91, v90.2)) >>= fun v92 => foldB (ρ := D × D) (fun v93 v94 => (.ok v94) >>= fun v95 => (((((((.ok v95) >>= fun v96 => (prm (.ext isPlF) [v96])) >>= fun v97 => (tru v97)) >>= fun v98 => (if v98 then ((((.ok v26) >>= fun v99 => (prm (.asIns 0) [v99])) >>= fun v100 => ((.ok v95) >>= fun v101 => (m_Lot_eq v100 v101))) >>= fun v102 => (prm .asBl [v102])) else (.ok D.non))) >>= fun v103 => (tru v103)) >>= fun v104 => if v104 then .ok true else (((((((.ok v95) >>= fun v105 => (prm (.ext isPlF) [v105])) >>= fun v106 => (tru v106)) >>= fun v107 => (if v107 then ((((.ok v26) >>= fun v108 => (prm (.asIns 0) [v108])) >>= fun v109 => ((.ok v95) >>= fun v110 => (m_Lot_eq v109 v110))) >>= fun v111 => (prm .notBl [v111])) else (.ok D.non))) >>= fun v112 => (tru v112)) >>= fun v113 => .ok (!v113)) >>= fun v114 => if v114 then .ok true else (((((.ok v95) >>= fun v115 => (prm (.ext isPlF) [v115])) >>= fun v116 => (tru v116)) >>= fun v117 => (if v117 then ((((.ok v26) >>= fun v118 => (prm (.asIns 0) [v118])) >>= fun v119 => ((.ok v95) >>= fun v120 => (m_Lot_eq v119 v120))) >>= fun v121 => (prm .asBl [v121])) else (.ok D.non))) >>= fun v122 => (tru v122)))) >>= fun v123 => if v123 then ((.ok (D.bl false)) >>= fun v124 => .ok (.ret (v124, v93))) else (.ok (.nx v93)))) v92.2 v92.1 >>= fun v125 => Fl.on v125 (fun v126 => ((((isI 0 v26 >>= fun _ => ((.ok v21.2) >>= fun v127 => (inIM 0 true m_Lot_eq v26 v127))) >>= fun v128 => (tru v128)) >>= fun v129 => if v129 then .ok true else ((isI 0 v26 >>= fun _ => (((((.ok v26) >>= fun v130 => (isI 0 v130 >>= fun _ => noExc (m_Lot_text v130))) >>= fun v131 => (((.ok v26) >>= fun v132 => (isI 0 v132 >>= fun _ => noExc (m_Lot_tables v132))) >>= fun v133 => (.ok []) >>= fun v134 => .ok (v133 :: v134)) >>= fun v135 => .ok (v131 :: v135)) >>= lstM) >>= fun v136 => (inIM 0 false m_Lot_eq v26 v136))) >>= fun v137 => (tru v137))) >>= fun v138 => if v138 then ((.ok (D.bl false)) >>= fun v139 => .ok (.ret (v139, v126))) else (.ok (.nx v126)))) (fun v125 => .ok (Fl.ret v125)))) (fun v60 => .ok (Fl.ret v60)))) v21.1 v23 >>= fun v140 => Fl.on v140 (fun v141 => (((((.ok v21.2) >>= fun v142 => ((.ok (D.int 0)) >>= fun v143 => (prmV .idx [v142, v143]))) >>= fun v144 => (isI 0 v144 >>= fun _ => noExc (m_Lot_text v144))) >>= fun v145 => (((.ok v0.1) >>= fun v146 => (m__law_sheet v146)) >>= fun v147 => (prm .eq [v145, v147]))) >>= fun v148 => (.ok (v148, v141)))) (fun v140 => .ok ( v140))))))
def m_law (x_0 : D) : Mo D :=
  (((((.ok (D.int 2)) >>= fun v0 => ((((.ok x_0) >>= fun v1 => (prm .len [v1])) >>= fun v2 => ((.ok (D.int 5)) >>= fun v3 => (prm .min2 [v2, v3]))) >>= fun v4 => (prm .max2 [v0, v4]))) >>= fun v5 => (optM (rng1F [v5]))) >>= fun v6 => (mapL (fun v7 => (.ok v7) >>= fun v8 => (((.ok x_0) >>= fun v9 => ((.ok v8) >>= fun v10 => (m__law_begun v9 v10))) >>= fun v11 => (m__law_right v11 >>= fun y => .ok y.1))) v6 >>= fun l => .ok (D.lst l))) >>= fun v12 => (prm .all [v12]))
end M

set_option Elab.async false
set_option linter.all false
set_option maxRecDepth 100000
set_option maxHeartbeats 8000000
namespace M
open PySem L2 PyProof.Rows SlX
/-! ### what they have to do with the trees -/
theorem r__law_cast {n : Nat} (hn : 1 ≤ n) (bo : Bool) (x_0 x_1 : D) : FLb (calls tab n) 1000 bo x_0 [x_1] (m__law_cast x_0 x_1) := by
  obtain ⟨n, rfl⟩ : ∃ k, n = k + 1 := ⟨n - 1, by omega⟩
  have hn : 0 ≤ n := Nat.le_of_succ_le_succ hn
  have h : SQ (calls tab n) t__law_cast [] [.ow bo x_0, .sh false x_1, .no, .no] (m__law_cast x_0 x_1) (PF 2 (fun y => y.1) (fun (y : D × D) q' => bo = true → q' = .ow true y.2 :: List.replicate 1 .no)) := by
    unfold m__law_cast
    refine sq_if (t_val (xv_a (v_p2 (xv_a (v_p2 (ea_own (x := x_0)) (xv_a (xb_v e_con)))) (xv_a (xb_v e_con))))) ?_ ?_
    · intro c14
      refine sq_tgt (Ft := fun a27 b28 => [.ow bo b28.1, .sh false x_1, .no, .sh false b28.2]) (v_p2 (xv_a (v_p2 (ea_own (x := x_0)) (xv_a (xb_v e_con)))) (xv_a (xb_v (e_var (x := x_1))))) (fun a27 => (xl_tp2 (m := fun a32 a33 => (((noExc (.ok (D.int 0))) >>= fun a35 => (putM x_0 a35 a32)) >>= fun u30 => (.ok a33) >>= fun w31 => .ok (u30, w31))) (F := (fun z29 => [.ow bo z29.1, .sh false x_1, .no, .sh false z29.2])) (fun _ _ => xls_cons (F3 := (fun z29 => [.ow bo z29.1, .sh false x_1, .no, .sh false z29.2])) (fun u30 w31 => (u30, w31)) (xl_sub (F := (fun z29 => [.ow bo z29, .sh false x_1, .no, .no])) rfl e_con) (fun u30 => xls_one (xl_nm (F := (fun w31 => [.ow bo u30, .sh false x_1, .no, .sh false w31]))))))) ?_
      intro a27 b28
      exact sq_retS (fun a36 => (a36, b28.1)) (xb_v (e_var (x := b28.2))) (fun _ => pf_ret (hB := (fun h => by subst h; rfl)))
    intro c14
    refine sq_nil ?_
    refine sq_tgt (Ft := fun a50 b51 => [.ow bo b51, .sh false x_1, .no, .no]) (v_p2 (xv_a (v_p2 (ea_own (x := x_0)) (xv_a (xb_v e_con)))) (xv_a (xb_v e_con))) (fun a50 => (xl_sub (F := (fun z52 => [.ow bo z52, .sh false x_1, .no, .no])) rfl e_con)) ?_
    intro a50 b51
    refine sq_set (F' := fun a117 => [.ow bo b51, .sh false x_1, .sh false a117, .no]) (v_p2 (xv_a (v_p1 (xv_a (v_p2 (xv_a (v_p2 (xv_a (v_p2 (xv_a (v_p2 (ea_own (x := b51)) (xv_a (xb_v e_con)))) (xv_a (v_p2 (xv_a (xb_v e_con)) (xv_a (v_p2 (xv_a (xb_v e_con)) (xv_a (v_p2 (ea_own (x := b51)) (xv_a (xb_v e_con)))))))))) (xv_a (v_p2 (xv_a (xb_v e_con)) (xv_a (v_p2 (ea_own (x := b51)) (xv_a (xb_v e_con)))))))) (xv_a (xb_v e_con)))))) (xv_a (xb_v e_con))) ?_
    intro a117
    refine sq_tgt (Ft := fun a157 b158 => [.ow bo b158, .sh false x_1, .sh false a117, .no]) (v_p2 (xv_a (v_p1 (xv_a (v_p2 (xv_a (v_p2 (xv_a (v_p2 (xv_a (xb_v (e_var (x := a117)))) (xv_a (xb_v e_con)))) (xv_a (v_p2 (xv_a (xb_v e_con)) (xv_a (v_p2 (ea_own (x := b51)) (xv_a (xb_v e_con)))))))) (xv_a (xb_v e_con)))))) (xv_a (xb_v e_con))) (fun a157 => (xl_sub (F := (fun z159 => [.ow bo z159, .sh false x_1, .sh false a117, .no])) rfl e_con)) ?_
    intro a157 b158
    exact sq_retS (fun a182 => (a182, b158)) (v_p2 (xv_a (v_p1 (xv_a (v_p2 (xv_a (v_p2 (ea_own (x := b158)) (xv_a (xb_v e_con)))) (xv_a (xb_v e_con)))))) (xv_a (xb_v (e_var (x := x_1))))) (fun _ => pf_ret (hB := (fun h => by subst h; rfl)))
  exact fv_of (d := d__law_cast) rfl rfl h.r
theorem r__law_any_of {n : Nat} (hn : 2 ≤ n) (bo : Bool) (x_0 x_1 : D) : FLb (calls tab n) 1001 bo x_0 [x_1] (m__law_any_of x_0 x_1) := by
  obtain ⟨n, rfl⟩ : ∃ k, n = k + 1 := ⟨n - 1, by omega⟩
  have hn : 1 ≤ n := Nat.le_of_succ_le_succ hn
  have h : SQ (calls tab n) t__law_any_of [] [.ow bo x_0, .sh false x_1] (m__law_any_of x_0 x_1) (PF 2 (fun y => y.1) (fun (y : D × D) q' => bo = true → q' = .ow true y.2 :: List.replicate 1 .no)) := by
    unfold m__law_any_of
    exact sq_retP (xv_prm (V3 := (fun (z : D × D) => z.1)) (F3 := (fun (z197 : D × D) => [.ow bo z197.2, .sh false x_1])) (fun (a195 : List D × D) (d196 : D) => (d196, a195.2)) (xs_cons (V3 := (fun (z : List D × D) => z.1)) (F3 := (fun (z194 : List D × D) => [.ow bo z194.2, .sh false x_1])) (fun (a184 : D) (t193 : List D × D) => ((a184 :: t193.1), t193.2)) (xb_v (e_var (x := x_1))) (fun a184 => (xs_cons (V3 := (fun (z : List D × D) => z.1)) (F3 := (fun (z192 : List D × D) => [.ow bo z192.2, .sh false x_1])) (fun (a185 : D × D) (t191 : List D) => ((a185.1 :: t191), a185.2)) (xb_v (cL1 (x := x_0) (F := (fun z190 => [.ow bo z190, .sh false x_1])) (v_p1 (xv_a (xb_v (e_var (x := x_1))))) (fun x0 => r__law_cast (lv rfl hn) true x_0 x0))) (fun a185 => xs_nil))))) (fun _ => pf_ret (hB := (fun h => by subst h; rfl)))
  exact fv_of (d := d__law_any_of) rfl rfl h.r
theorem r__law_number {n : Nat} (hn : 3 ≤ n) (bo : Bool) (x_0 : D) : FLb (calls tab n) 1002 bo x_0 [] (m__law_number x_0) := by
  obtain ⟨n, rfl⟩ : ∃ k, n = k + 1 := ⟨n - 1, by omega⟩
  have hn : 2 ≤ n := Nat.le_of_succ_le_succ hn
  have h : SQ (calls tab n) t__law_number [] [.ow bo x_0, .no] (m__law_number x_0) (PF 1 (fun y => y.1) (fun (y : D × D) q' => bo = true → q' = .ow true y.2 :: List.replicate 0 .no)) := by
    unfold m__law_number
    refine sq_set (F' := fun a207 => [.ow bo a207.2, .sh false a207.1]) (xb_v (cL1 (x := x_0) (F := (fun z206 => [.ow bo z206, .no])) (xb_v e_con) (fun x0 => r__law_cast (lv rfl hn) true x_0 x0))) ?_
    intro a207
    refine sq_if (t_val (xv_a (v_p2 (xv_a (xb_v (e_var (x := a207.1)))) (xv_a (xb_v e_con))))) ?_ ?_
    · intro c215
      exact sq_retP (xv_prm (V3 := (fun (z : D × D) => z.1)) (F3 := (fun (z225 : D × D) => [.ow bo z225.2, .sh false a207.1])) (fun (a223 : List D × D) (d224 : D) => (d224, a223.2)) (xs_cons (V3 := (fun (z : List D × D) => z.1)) (F3 := (fun (z222 : List D × D) => [.ow bo z222.2, .sh false a207.1])) (fun (a216 : D × D) (t221 : List D) => ((a216.1 :: t221), a216.2)) (xb_v (cL1 (x := a207.2) (F := (fun z218 => [.ow bo z218, .sh false a207.1])) (xb_v e_con) (fun x0 => r__law_cast (lv rfl hn) true a207.2 x0))) (fun a216 => (xs_cons (V3 := Il) (F3 := (Fc _)) (fun a219 t220 => (a219 :: t220)) (xb_v e_con) (fun a219 => xs_nil))))) (fun _ => pf_ret (hB := (fun h => by subst h; rfl)))
    intro c215
    refine sq_nil ?_
    refine sq_if (t_val (xv_a (v_p2 (xv_a (xb_v (e_var (x := a207.1)))) (xv_a (xb_v e_con))))) ?_ ?_
    · intro c240
      exact sq_retP (xb_v (cL1 (x := a207.2) (F := (fun z273 => [.ow bo z273, .sh false a207.1])) (xn_v (e_lst (as_one (v_p2 (xv_a (xb_v e_con)) (xv_a (xb_v e_con))) (as_one (v_p1 (xv_a (v_p2 (xv_a (xb_v e_con)) (xv_a (xb_v e_con))))) (as_one (xb_v e_con) (as_one (xb_v e_con) as_nil)))))) (fun x0 => r__law_any_of (lv rfl hn) true a207.2 x0))) (fun _ => pf_ret (hB := (fun h => by subst h; rfl)))
    intro c240
    refine sq_nil ?_
    exact sq_retP (xv_ife (V := Ib) (F := Fc _) (V3 := (fun (z : D × D) => z.1)) (F3 := (fun (z339 : D × D) => [.ow bo z339.2, .sh false a207.1])) (t_val (xv_a (v_p2 (xv_a (xb_v (e_var (x := a207.1)))) (xv_a (xb_v e_con))))) (fun _ => (xv_prm (V3 := (fun (z : D × D) => z.1)) (F3 := (fun (z291 : D × D) => [.ow bo z291.2, .sh false a207.1])) (fun (a289 : List D × D) (d290 : D) => (d290, a289.2)) (xs_cons (V3 := (fun (z : List D × D) => z.1)) (F3 := (fun (z288 : List D × D) => [.ow bo z288.2, .sh false a207.1])) (fun (a282 : D × D) (t287 : List D) => ((a282.1 :: t287), a282.2)) (xb_v (cL1 (x := a207.2) (F := (fun z284 => [.ow bo z284, .sh false a207.1])) (xb_v e_con) (fun x0 => r__law_cast (lv rfl hn) true a207.2 x0))) (fun a282 => (xs_cons (V3 := Il) (F3 := (Fc _)) (fun a285 t286 => (a285 :: t286)) (xb_v e_con) (fun a285 => xs_nil)))))) (fun _ => (xv_prm (V3 := (fun (z : D × D) => z.1)) (F3 := (fun (z331 : D × D) => [.ow bo z331.2, .sh false a207.1])) (fun (a329 : List D × D) (d330 : D) => (d330, a329.2)) (xs_cons (V3 := (fun (z : List D × D) => z.1)) (F3 := (fun (z328 : List D × D) => [.ow bo z328.2, .sh false a207.1])) (fun (a298 : D × D) (t327 : List D) => ((a298.1 :: t327), a298.2)) (xb_v (cL1 (x := a207.2) (F := (fun z318 => [.ow bo z318, .sh false a207.1])) (v_p2 (xv_a (v_p2 (xv_a (xb_v e_con)) (xv_a (v_p2 (xv_a (xb_v e_con)) (xv_a (xb_v e_con)))))) (xv_a (xb_v e_con))) (fun x0 => r__law_cast (lv rfl hn) true a207.2 x0))) (fun a298 => (xs_cons (V3 := Il) (F3 := (Fc _)) (fun a319 t326 => (a319 :: t326)) (v_p2 (xv_a (xb_v e_con)) (xv_a (xb_v e_con))) (fun a319 => xs_nil))))))) (fun _ => pf_ret (hB := (fun h => by subst h; rfl)))
  exact fv_of (d := d__law_number) rfl rfl h.r
theorem r__law_grids {n : Nat} (hn : 4 ≤ n) (bo : Bool) (x_0 : D) : FLb (calls tab n) 1003 bo x_0 [] (m__law_grids x_0) := by
  obtain ⟨n, rfl⟩ : ∃ k, n = k + 1 := ⟨n - 1, by omega⟩
  have hn : 3 ≤ n := Nat.le_of_succ_le_succ hn
  have h : SQ (calls tab n) t__law_grids [] [.ow bo x_0, .no, .no, .no, .no, .no] (m__law_grids x_0) (PF 1 (fun y => y.1) (fun (y : D × D) q' => bo = true → q' = .ow true y.2 :: List.replicate 0 .no)) := by
    unfold m__law_grids
    refine sq_set (F' := fun a358 => [.ow bo a358.2, .sh false a358.1, .no, .no, .no, .no]) (xv_prm (V3 := (fun (z : D × D) => z.1)) (F3 := (fun (z351 : D × D) => [.ow bo z351.2, .no, .no, .no, .no, .no])) (fun (a349 : List D × D) (d350 : D) => (d350, a349.2)) (xs_cons (V3 := (fun (z : List D × D) => z.1)) (F3 := (fun (z348 : List D × D) => [.ow bo z348.2, .no, .no, .no, .no, .no])) (fun (a341 : D) (t347 : List D × D) => ((a341 :: t347.1), t347.2)) (xb_v e_con) (fun a341 => (xs_cons (V3 := (fun (z : List D × D) => z.1)) (F3 := (fun (z346 : List D × D) => [.ow bo z346.2, .no, .no, .no, .no, .no])) (fun (a342 : D × D) (t345 : List D) => ((a342.1 :: t345), a342.2)) (xb_v (cL1 (x := x_0) (F := (fun z344 => [.ow bo z344, .no, .no, .no, .no, .no])) (xb_v e_con) (fun x0 => r__law_cast (lv rfl hn) true x_0 x0))) (fun a342 => xs_nil))))) ?_
    intro a358
    refine sq_new (F' := fun a359 => [.ow bo a358.2, .sh false a358.1, .ow false a359, .no, .no, .no]) (e_lst as_nil) ?_
    intro a359
    refine sq_forN (F := (fun s381 => [.ow bo s381.1, .sh false a358.1, .ow false s381.2, .no, .no, .no])) (Ft := (fun s381 b384 => [.ow bo s381.1, .sh false a358.1, .ow false s381.2, .sh false b384, .no, .no])) (fun (a380 : List D × D) => (a380.2, a359)) (xi_rng1 (V3 := (fun z => z.1)) (F3 := (fun z379 => [.ow bo z379.2, .sh false a358.1, .ow false a359, .no, .no, .no])) (fun a377 l378 => (l378, a377.2)) (xv_prm (V3 := (fun (z : D × D) => z.1)) (F3 := (fun (z370 : D × D) => [.ow bo z370.2, .sh false a358.1, .ow false a359, .no, .no, .no])) (fun (a368 : List D × D) (d369 : D) => (d369, a368.2)) (xs_cons (V3 := (fun (z : List D × D) => z.1)) (F3 := (fun (z367 : List D × D) => [.ow bo z367.2, .sh false a358.1, .ow false a359, .no, .no, .no])) (fun (a360 : D) (t366 : List D × D) => ((a360 :: t366.1), t366.2)) (xb_v e_con) (fun a360 => (xs_cons (V3 := (fun (z : List D × D) => z.1)) (F3 := (fun (z365 : List D × D) => [.ow bo z365.2, .sh false a358.1, .ow false a359, .no, .no, .no])) (fun (a361 : D × D) (t364 : List D) => ((a361.1 :: t364), a361.2)) (xb_v (cL1 (x := a358.2) (F := (fun z363 => [.ow bo z363, .sh false a358.1, .ow false a359, .no, .no, .no])) (xb_v e_con) (fun x0 => r__law_cast (lv rfl hn) true a358.2 x0))) (fun a361 => xs_nil)))))) (fun s381 d382 => (xl_nm (F := fun z383 => [.ow bo s381.1, .sh false a358.1, .ow false s381.2, .sh false z383, .no, .no]))) ?_ ?_
    · intro s381 b384
      refine sq_app (x := fun a428 => s381.2) (bo := fun _ => false) (F' := fun a428 y429 => [.ow bo a428.2, .sh false a358.1, .ow false y429, .sh false b384, .no, .no]) (xv_prm (V3 := (fun (z : D × D) => z.1)) (F3 := (fun (z421 : D × D) => [.ow bo z421.2, .sh false a358.1, .ow false s381.2, .sh false b384, .no, .no])) (fun (a419 : List D × D) (d420 : D) => (d420, a419.2)) (xs_cons (V3 := (fun (z : List D × D) => z.1)) (F3 := (fun (z418 : List D × D) => [.ow bo z418.2, .sh false a358.1, .ow false s381.2, .sh false b384, .no, .no])) (fun (a385 : D × D) (t417 : List D) => ((a385.1 :: t417), a385.2)) (xn_v (xn_lcS (V3 := (fun z => z.1)) (F3 := (fun z416 => [.ow bo z416.2, .sh false a358.1, .ow false s381.2, .sh false b384, .no, .no])) (s0 := fun a414 => s381.1) (Q := (fun s389 => [.ow bo s389, .sh false a358.1, .ow false s381.2, .sh false b384, .no, .no])) (Q0 := (fun s389 => [.ow bo s389, .sh false a358.1, .ow false s381.2, .sh false b384, .no, .no])) (Fp := (fun b391 s389 => [.ow bo s389, .sh false a358.1, .ow false s381.2, .sh false b384, .sh false b391, .no])) (Fe := (fun b391 _ s389 => [.ow bo s389, .sh false a358.1, .ow false s381.2, .sh false b384, .sh false b391, .no])) (fun x415 => (D.lst x415.1, x415.2)) (i_rng1 (xb_v (e_var (x := a358.1)))) (fun d388 s389 => (xl_nm (F := fun z390 => [.ow bo s389, .sh false a358.1, .ow false s381.2, .sh false b384, .sh false z390, .no]))) (fun b391 s389 => (xv_prm (V3 := (fun (z : D × D) => z.1)) (F3 := (fun (z407 : D × D) => [.ow bo z407.2, .sh false a358.1, .ow false s381.2, .sh false b384, .sh false b391, .no])) (fun (a405 : List D × D) (d406 : D) => (d406, a405.2)) (xs_cons (V3 := (fun (z : List D × D) => z.1)) (F3 := (fun (z404 : List D × D) => [.ow bo z404.2, .sh false a358.1, .ow false s381.2, .sh false b384, .sh false b391, .no])) (fun (a392 : D × D) (t403 : List D) => ((a392.1 :: t403), a392.2)) (xn_v (xn_lcS (V3 := (fun z => z.1)) (F3 := (fun z402 => [.ow bo z402.2, .sh false a358.1, .ow false s381.2, .sh false b384, .sh false b391, .no])) (s0 := fun a400 => s389) (Q := (fun s396 => [.ow bo s396, .sh false a358.1, .ow false s381.2, .sh false b384, .sh false b391, .no])) (Q0 := (fun s396 => [.ow bo s396, .sh false a358.1, .ow false s381.2, .sh false b384, .sh false b391, .no])) (Fp := (fun b398 s396 => [.ow bo s396, .sh false a358.1, .ow false s381.2, .sh false b384, .sh false b391, .sh false b398])) (Fe := (fun b398 _ s396 => [.ow bo s396, .sh false a358.1, .ow false s381.2, .sh false b384, .sh false b391, .sh false b398])) (fun x401 => (D.lst x401.1, x401.2)) (i_rng1 (xb_v (e_var (x := a358.1)))) (fun d395 s396 => (xl_nm (F := fun z397 => [.ow bo s396, .sh false a358.1, .ow false s381.2, .sh false b384, .sh false b391, .sh false z397]))) (fun b398 s396 => (xb_v (cL0 (x := s396) (F := (fun z399 => [.ow bo z399, .sh false a358.1, .ow false s381.2, .sh false b384, .sh false b391, .sh false b398]))  (r__law_number (lv rfl hn) true s396)))))) (fun a392 => xs_nil)))))) (fun a385 => xs_nil))) (fun _ => rfl) ?_
      intro a428 y429
      refine sq_kil (q1 := [.ow bo a428.2, .sh false a358.1, .ow false y429, .no, .no, .no]) ?_ rfl
      exact sq_end (.inl rfl)
    intro s430
    exact sq_retS (fun a434 => (a434, s430.1)) (v_p1 (ea_own (x := s430.2))) (fun _ => pf_ret (hB := (fun h => by subst h; rfl)))
  exact fv_of (d := d__law_grids) rfl rfl h.r
theorem r_is_integer {n : Nat} (hn : 1 ≤ n) (x_0 : D) : FP (calls tab n) 0 [x_0] (m_is_integer x_0) := by
  obtain ⟨n, rfl⟩ : ∃ k, n = k + 1 := ⟨n - 1, by omega⟩
  have hn : 0 ≤ n := Nat.le_of_succ_le_succ hn
  have h : SQ (calls tab n) t_is_integer [] [.sh false x_0] (m_is_integer x_0) (PF 1 I1 (fun _ _ => True)) := by
    unfold m_is_integer
    exact sq_retP (xb_v (e_and (b_p1 (xv_a (xb_v (e_var (x := x_0))))) (e_not (xv_a (v_p1 (xv_a (xb_v (e_var (x := x_0))))))))) (fun _ => pf_ret (hB := trivial))
  exact fv_of (d := d_is_integer) rfl rfl h.r
theorem r_are_integers {n : Nat} (hn : 2 ≤ n) (x_0 x_1 : D) : FP (calls tab n) 1 [x_0, x_1] (m_are_integers x_0 x_1) := by
  obtain ⟨n, rfl⟩ : ∃ k, n = k + 1 := ⟨n - 1, by omega⟩
  have hn : 1 ≤ n := Nat.le_of_succ_le_succ hn
  have h : SQ (calls tab n) t_are_integers [] [.sh false x_0, .sh false x_1, .no] (m_are_integers x_0 x_1) (PF 2 I1 (fun _ _ => True)) := by
    unfold m_are_integers
    exact sq_retP (xb_v (e_and (b_p1 (xv_a (xb_v (e_var (x := x_0))))) (e_and (b_p2 (xv_a (v_p1 (xv_a (xb_v (e_var (x := x_0)))))) (xv_a (xb_v (e_var (x := x_1))))) (b_p1 (xv_a (xn_v (e_lcM (Q0 := [.sh false x_0, .sh false x_1, .no]) (i_seq (xb_v (e_var (x := x_0)))) (fun d460 => tn1_of (Fp := fun b462 => [.sh false x_0, .sh false x_1, .sh false b462]) (Fe := fun b462 _ => [.sh false x_0, .sh false x_1, .sh false b462]) (xl_nm (F := fun z461 => [.sh false x_0, .sh false x_1, .sh false z461])) (fun b462 => (xb_v (c1_b (xb_v (e_var (x := b462))) (fun x0 => r_is_integer (lv rfl hn) x0)))))))))))) (fun _ => pf_ret (hB := trivial))
  exact fv_of (d := d_are_integers) rfl rfl h.r
theorem r_is_table {n : Nat} (hn : 3 ≤ n) (x_0 : D) : FP (calls tab n) 2 [x_0] (m_is_table x_0) := by
  obtain ⟨n, rfl⟩ : ∃ k, n = k + 1 := ⟨n - 1, by omega⟩
  have hn : 2 ≤ n := Nat.le_of_succ_le_succ hn
  have h : SQ (calls tab n) t_is_table [] [.sh false x_0, .no, .no] (m_is_table x_0) (PF 1 I1 (fun _ _ => True)) := by
    unfold m_is_table
    refine sq_if (t_any (t_not (t_val (xv_a (v_p1 (xv_a (xb_v (e_var (x := x_0)))))))) (t_not (t_val (xv_a (xb_v (e_chain (xb_v e_con) (v_p1 (xv_a (xb_v (e_var (x := x_0))))) (xb_v e_glo))))))) ?_ ?_
    · intro c491
      exact sq_retP (xb_v e_con) (fun _ => pf_ret (hB := trivial))
    intro c491
    refine sq_nil ?_
    refine sq_if (t_not (t_val (xv_a (v_p1 (xv_a (xn_v (e_lcM (Q0 := [.sh false x_0, .no, .no]) (i_seq (xb_v (e_var (x := x_0)))) (fun d494 => tn1_of (Fp := fun b496 => [.sh false x_0, .sh false b496, .no]) (Fe := fun b496 _ => [.sh false x_0, .sh false b496, .no]) (xl_nm (F := fun z495 => [.sh false x_0, .sh false z495, .no])) (fun b496 => (xb_v (c2_b (xb_v (e_var (x := b496))) (v_p1 (xv_a (xb_v (e_var (x := x_0))))) (fun x0 x1 => r_are_integers (lv rfl hn) x0 x1)))))))))))) ?_ ?_
    · intro c508
      exact sq_retP (xb_v e_con) (fun _ => pf_ret (hB := trivial))
    intro c508
    refine sq_nil ?_
    exact sq_retP (v_p1 (xv_a (xn_v (e_lc2 (Q0 := [.sh false x_0, .no, .no]) (Fp := fun b513 => [.sh false x_0, .sh false b513, .no]) (Q1 := fun b513 => [.sh false x_0, .sh false b513, .no]) (i_seq (xb_v (e_var (x := x_0)))) (fun d511 => (xl_nm (F := fun z512 => [.sh false x_0, .sh false z512, .no]))) (fun b513 => (i_seq (xb_v (e_var (x := b513))))) (fun b513 d515 => tn2_of (Fp := fun b517 => [.sh false x_0, .sh false b513, .sh false b517]) (xl_nm (F := fun z516 => [.sh false x_0, .sh false b513, .sh false z516])) (fun b517 => (v_p2 (xv_a (v_p1 (xv_a (xb_v (e_var (x := b517)))))) (xv_a (xb_v e_glo))))))))) (fun _ => pf_ret (hB := trivial))
  exact fv_of (d := d_is_table) rfl rfl h.r
theorem r_wrong_table {n : Nat} (hn : 4 ≤ n) (x_0 : D) : FP (calls tab n) 4 [x_0] (m_wrong_table x_0) := by
  obtain ⟨n, rfl⟩ : ∃ k, n = k + 1 := ⟨n - 1, by omega⟩
  have hn : 3 ≤ n := Nat.le_of_succ_le_succ hn
  have h : SQ (calls tab n) t_wrong_table [] [.sh false x_0, .no, .no] (m_wrong_table x_0) (PF 1 I1 (fun _ _ => True)) := by
    unfold m_wrong_table
    refine sq_if (t_any (t_not (t_val (xv_a (v_p1 (xv_a (xb_v (e_var (x := x_0)))))))) (t_val (xv_a (v_p2 (xv_a (v_p1 (xv_a (xb_v (e_var (x := x_0)))))) (xv_a (xb_v e_con)))))) ?_ ?_
    · intro c552
      exact sq_retP (v_p1 (xv_a (xb_v e_con))) (fun _ => pf_ret (hB := trivial))
    intro c552
    refine sq_nil ?_
    refine sq_for (ρ := D) (R := (PF 1 I1 (fun _ _ => True))) (F := (fun (s560 : Unit) => [.sh false x_0, .no, .no])) (Ft := (fun (s560 : Unit) b563 => [.sh false x_0, .sh false b563.1, .sh false b563.2])) (fun a559 => ()) (fun x602 =>  x602) (i_enm (xb_v (e_var (x := x_0)))) (fun (s560 : Unit) d561 => (xl_nn (F := fun z562 => [.sh false x_0, .sh false z562.1, .sh false z562.2]))) ?_ ?_ (fun _ _ h _ => h)
    · intro s560 b563
      refine sq_if (t_any (t_val (xv_a (v_p2 (xv_a (xb_v (e_var (x := b563.1)))) (xv_a (xb_v e_glo))))) (t_any (t_not (t_val (xv_a (xb_v (c1_b (xb_v (e_var (x := b563.2))) (fun x0 => r_is_table (lv rfl hn) x0)))))) (t_val (xv_a (v_p2 (xv_a (v_p1 (xv_a (xb_v (e_var (x := b563.2)))))) (xv_a (v_p1 (xv_a (v_p2 (xv_a (xb_v (e_var (x := x_0)))) (xv_a (xb_v e_con))))))))))) ?_ ?_
      · intro c598
        exact sq_retS (fun a599 => Fl.ret a599) (xb_v (e_var (x := b563.1))) (fun _ => pbr (pf_ret (hB := trivial)))
      intro c598
      refine sq_nil ?_
      refine sq_kil (q1 := [.sh false x_0, .no, .no]) ?_ rfl
      exact sq_end (.inl rfl)
    intro _
    exact sq_retP (xb_v e_con) (fun _ => pf_ret (hB := trivial))
  exact fv_of (d := d_wrong_table) rfl rfl h.r
theorem r_Lot_init {n : Nat} (hn : 5 ≤ n) (x_1 : D) : CV (calls tab n) 0 [.sh false x_1] (m_Lot_init x_1) := by
  obtain ⟨n, rfl⟩ : ∃ k, n = k + 1 := ⟨n - 1, by omega⟩
  have hn : 4 ≤ n := Nat.le_of_succ_le_succ hn
  have h : MQ (calls tab n) e_Lot_init t_Lot_init [.pin, .sh false x_1, .no] (m_Lot_init x_1) := by
    unfold m_Lot_init
    refine mq_cons (F := (fun z603 => [.pin, .sh false x_1, .sh false z603])) ?_ ?_
    · refine sq_set (F' := fun a605 => [.pin, .sh false x_1, .sh false a605]) (xb_v (c1_b (xb_v (e_var (x := x_1))) (fun x0 => r_wrong_table (lv rfl hn) x0))) ?_
      intro a605
      exact sq_end rfl
    intro z603
    refine mq_cons (F := (fun (_ : Unit) => [.pin, .sh false x_1, .sh false z603])) ?_ ?_
    · refine sq_if (t_val (xv_a (v_p1 (xv_a (xb_v (e_var (x := z603))))))) ?_ ?_
      · intro c611
        exact sq_nev
      intro c611
      refine sq_nil ?_
      exact sq_end rfl
    intro _
    exact mq_nil (xb_v (e_var (x := x_1)))
  exact cv_of (d := d_Lot_init) rfl rfl h.r
theorem r_written_integer {n : Nat} (hn : 1 ≤ n) (x_0 : D) : FP (calls tab n) 3 [x_0] (m_written_integer x_0) := by
  obtain ⟨n, rfl⟩ : ∃ k, n = k + 1 := ⟨n - 1, by omega⟩
  have hn : 0 ≤ n := Nat.le_of_succ_le_succ hn
  have h : SQ (calls tab n) t_written_integer [] [.sh false x_0, .no, .no] (m_written_integer x_0) (PF 1 I1 (fun _ _ => True)) := by
    unfold m_written_integer
    refine sq_set (F' := fun a634 => [.sh false x_0, .sh false a634, .no]) (v_ife (t_val (xv_a (v_p2 (xv_a (v_p2 (xv_a (xb_v (e_var (x := x_0)))) (xv_a (xb_v e_con)))) (xv_a (xb_v e_con))))) (v_p2 (xv_a (xb_v (e_var (x := x_0)))) (xv_a (xb_v e_con))) (xb_v (e_var (x := x_0)))) ?_
    intro a634
    refine sq_if (t_any (t_val (xv_a (v_p2 (xv_a (xb_v (e_var (x := a634)))) (xv_a (xb_v e_con))))) (t_any (t_val (xv_a (v_p2 (xv_a (v_p1 (xv_a (xb_v (e_var (x := a634)))))) (xv_a (xb_v e_con))))) (t_not (t_val (xv_a (v_p1 (xv_a (xn_v (e_lcM (Q0 := [.sh false x_0, .sh false a634, .no]) (i_seq (xb_v (e_var (x := a634)))) (fun d655 => tn1_of (Fp := fun b657 => [.sh false x_0, .sh false a634, .sh false b657]) (Fe := fun b657 _ => [.sh false x_0, .sh false a634, .sh false b657]) (xl_nm (F := fun z656 => [.sh false x_0, .sh false a634, .sh false z656])) (fun b657 => (v_p2 (xv_a (xb_v (e_var (x := b657)))) (xv_a (xb_v e_glo)))))))))))))) ?_ ?_
    · intro c673
      exact sq_retP (xb_v e_con) (fun _ => pf_ret (hB := trivial))
    intro c673
    refine sq_nil ?_
    exact sq_retP (v_ife (t_val (xv_a (v_p2 (xv_a (v_p1 (xv_a (v_p1 (xv_a (xb_v (e_var (x := x_0)))))))) (xv_a (xb_v (e_var (x := x_0))))))) (v_p1 (xv_a (xb_v (e_var (x := x_0))))) (xb_v e_con)) (fun _ => pf_ret (hB := trivial))
  exact fv_of (d := d_written_integer) rfl rfl h.r
theorem r_text_row {n : Nat} (hn : 2 ≤ n) (x_0 : D) : FP (calls tab n) 6 [x_0] (m_text_row x_0) := by
  obtain ⟨n, rfl⟩ : ∃ k, n = k + 1 := ⟨n - 1, by omega⟩
  have hn : 1 ≤ n := Nat.le_of_succ_le_succ hn
  have h : SQ (calls tab n) t_text_row [] [.sh false x_0, .no] (m_text_row x_0) (PF 1 I1 (fun _ _ => True)) := by
    unfold m_text_row
    exact sq_retP (v_p1 (xv_a (xn_v (e_lcM (Q0 := [.sh false x_0, .no]) (i_seq (v_mth (e_var (x := x_0)) (xv_a (xb_v e_con)))) (fun d701 => tn1_of (Fp := fun b703 => [.sh false x_0, .sh false b703]) (Fe := fun b703 _ => [.sh false x_0, .sh false b703]) (xl_nm (F := fun z702 => [.sh false x_0, .sh false z702])) (fun b703 => (xb_v (c1_b (xb_v (e_var (x := b703))) (fun x0 => r_written_integer (lv rfl hn) x0))))))))) (fun _ => pf_ret (hB := trivial))
  exact fv_of (d := d_text_row) rfl rfl h.r
theorem r_text_lot {n : Nat} (hn : 6 ≤ n) (x_0 : D) : FP (calls tab n) 7 [x_0] (m_text_lot x_0) := by
  obtain ⟨n, rfl⟩ : ∃ k, n = k + 1 := ⟨n - 1, by omega⟩
  have hn : 5 ≤ n := Nat.le_of_succ_le_succ hn
  have h : SQ (calls tab n) t_text_lot [] [.sh false x_0, .no, .no, .no, .no, .no] (m_text_lot x_0) (PF 1 I1 (fun _ _ => True)) := by
    unfold m_text_lot
    refine sq_if (t_not (t_val (xv_a (v_p1 (xv_a (xb_v (e_var (x := x_0)))))))) ?_ ?_
    · intro c715
      exact sq_retP (xb_v e_con) (fun _ => pf_ret (hB := trivial))
    intro c715
    refine sq_nil ?_
    refine sq_set (F' := fun a723 => [.sh false x_0, .sh false a723, .no, .no, .no, .no]) (v_mth (e_var (x := x_0)) (xv_a (xb_v e_con))) ?_
    intro a723
    refine sq_set (F' := fun a758 => [.sh false x_0, .sh false a723, .sh false a758, .no, .no, .no]) (v_ife (t_val (xv_a (v_p2 (xv_a (v_p2 (xv_a (v_p2 (xv_a (xb_v (e_var (x := a723)))) (xv_a (xb_v e_con)))) (xv_a (xb_v e_con)))) (xv_a (xb_v e_con))))) (xb_v (c1_b (v_p2 (xv_a (v_p2 (xv_a (xb_v (e_var (x := a723)))) (xv_a (xb_v e_con)))) (xv_a (xb_v e_con))) (fun x0 => r_written_integer (lv rfl hn) x0))) (xb_v e_con)) ?_
    intro a758
    refine sq_if (t_any (t_val (xv_a (v_p1 (xv_a (xb_v (e_var (x := a758))))))) (t_any (t_not (t_val (xv_a (xb_v (e_chain (xb_v e_con) (xb_v (e_var (x := a758))) (xb_v e_glo)))))) (t_val (xv_a (v_p2 (xv_a (v_p2 (xv_a (v_p1 (xv_a (xb_v (e_var (x := a723)))))) (xv_a (v_p2 (xv_a (xb_v (e_var (x := a758)))) (xv_a (xb_v e_con)))))) (xv_a (xb_v e_con))))))) ?_ ?_
    · intro c797
      exact sq_retP (xb_v e_con) (fun _ => pf_ret (hB := trivial))
    intro c797
    refine sq_nil ?_
    refine sq_new (F' := fun a799 => [.sh false x_0, .sh false a723, .sh false a758, .ow false a799, .no, .no]) (e_lst as_nil) ?_
    intro a799
    refine sq_kil (q1 := [.no, .sh false a723, .sh false a758, .ow false a799, .no, .no]) ?_ rfl
    refine sq_for (ρ := D) (R := (PF 1 I1 (fun _ _ => True))) (F := (fun s816 => [.no, .sh false a723, .sh false a758, .ow false s816, .no, .no])) (Ft := (fun s816 b819 => [.no, .sh false a723, .sh false a758, .ow false s816, .sh false b819, .no])) (fun a815 => a799) (fun x908 =>  x908) (i_rng3 (xb_v e_con) (v_p1 (xv_a (xb_v (e_var (x := a723))))) (v_p2 (xv_a (xb_v (e_var (x := a758)))) (xv_a (xb_v e_con)))) (fun s816 d817 => (xl_nm (F := fun z818 => [.no, .sh false a723, .sh false a758, .ow false s816, .sh false z818, .no]))) ?_ ?_ (fun _ _ h _ => h)
    · intro s816 b819
      refine sq_if (t_val (xv_a (v_p2 (xv_a (v_p2 (xv_a (xb_v (e_var (x := a723)))) (xv_a (xb_v (e_var (x := b819)))))) (xv_a (xb_v e_con))))) ?_ ?_
      · intro c833
        exact sq_retS (fun a834 => Fl.ret a834) (xb_v e_con) (fun _ => pbr (pf_ret (hB := trivial)))
      intro c833
      refine sq_nil ?_
      refine sq_app (x := fun a871 => s816) (bo := fun _ => false) (F' := fun a871 y872 => [.no, .sh false a723, .sh false a758, .ow false y872, .sh false b819, .no]) (v_p1 (xv_a (xn_v (e_lcM (Q0 := [.no, .sh false a723, .sh false a758, .ow false s816, .sh false b819, .no]) (i_seq (v_p3 (xv_a (xb_v (e_var (x := a723)))) (xv_a (v_p2 (xv_a (xb_v (e_var (x := b819)))) (xv_a (xb_v e_con)))) (xv_a (v_p2 (xv_a (v_p2 (xv_a (xb_v (e_var (x := b819)))) (xv_a (xb_v e_con)))) (xv_a (xb_v (e_var (x := a758)))))))) (fun d863 => tn1_of (Fp := fun b865 => [.no, .sh false a723, .sh false a758, .ow false s816, .sh false b819, .sh false b865]) (Fe := fun b865 _ => [.no, .sh false a723, .sh false a758, .ow false s816, .sh false b819, .sh false b865]) (xl_nm (F := fun z864 => [.no, .sh false a723, .sh false a758, .ow false s816, .sh false b819, .sh false z864])) (fun b865 => (xb_v (c1_b (xb_v (e_var (x := b865))) (fun x0 => r_text_row (lv rfl hn) x0))))))))) (fun _ => rfl) ?_
      intro a871 y872
      refine sq_kil (q1 := [.no, .sh false a723, .sh false a758, .ow false y872, .no, .no]) ?_ rfl
      exact sq_end (.inl rfl)
    intro s873
    refine sq_if (t_any (t_val (xv_a (v_p1 (xv_a (xb_v (c1_b (v_p1 (ea_own (x := s873))) (fun x0 => r_wrong_table (lv rfl hn) x0))))))) (t_val (xv_a (v_p2 (xv_a (v_p1 (xv_a (v_p2 (ea_own (x := s873)) (xv_a (xb_v e_con)))))) (xv_a (xb_v (e_var (x := a758)))))))) ?_ ?_
    · intro c901
      exact sq_retP (xb_v e_con) (fun _ => pf_ret (hB := trivial))
    intro c901
    refine sq_nil ?_
    exact sq_retP (xb_v (m1_b (v_p1 (ea_own (x := s873))) (fun x0 => r_Lot_init (lv rfl hn) x0))) (fun _ => pf_ret (hB := trivial))
  exact fv_of (d := d_text_lot) rfl rfl h.r
theorem r_Lot_read {n : Nat} (hn : 7 ≤ n) (x_0 x_1 : D) : FP (calls tab n) 221 [x_0, x_1] (m_Lot_read x_0 x_1) := by
  obtain ⟨n, rfl⟩ : ∃ k, n = k + 1 := ⟨n - 1, by omega⟩
  have hn : 6 ≤ n := Nat.le_of_succ_le_succ hn
  have h : SQ (calls tab n) t_Lot_read [] [.sh false x_0, .sh false x_1, .no] (m_Lot_read x_0 x_1) (PF 2 I1 (fun _ _ => True)) := by
    unfold m_Lot_read
    refine sq_set (F' := fun a910 => [.sh false x_0, .sh false x_1, .sh false a910]) (xb_v (c1_b (xb_v (e_var (x := x_1))) (fun x0 => r_text_lot (lv rfl hn) x0))) ?_
    intro a910
    refine sq_if (t_val (xv_a (v_p1 (xv_a (xb_v (e_var (x := a910))))))) ?_ ?_
    · intro c915
      exact sq_nev
    intro c915
    refine sq_nil ?_
    exact sq_retP (xb_v (e_var (x := a910))) (fun _ => pf_ret (hB := trivial))
  exact fv_of (d := d_Lot_read) rfl rfl h.r
theorem r_Lot_size {n : Nat} (hn : 1 ≤ n) (x_0 : D) : FP (calls tab n) 201 [x_0] (m_Lot_size x_0) := by
  obtain ⟨n, rfl⟩ : ∃ k, n = k + 1 := ⟨n - 1, by omega⟩
  have hn : 0 ≤ n := Nat.le_of_succ_le_succ hn
  have h : SQ (calls tab n) t_Lot_size [] [.sh false x_0] (m_Lot_size x_0) (PF 1 I1 (fun _ _ => True)) := by
    unfold m_Lot_size
    exact sq_retP (v_p1 (xv_a (v_p2 (xv_a (xb_v (e_fld (e_var (x := x_0))))) (xv_a (xb_v e_con))))) (fun _ => pf_ret (hB := trivial))
  exact fv_of (d := d_Lot_size) rfl rfl h.r
theorem r_lot_lines {n : Nat} (hn : 2 ≤ n) (x_0 : D) : FP (calls tab n) 5 [x_0] (m_lot_lines x_0) := by
  obtain ⟨n, rfl⟩ : ∃ k, n = k + 1 := ⟨n - 1, by omega⟩
  have hn : 1 ≤ n := Nat.le_of_succ_le_succ hn
  have h : SQ (calls tab n) t_lot_lines [] [.sh false x_0, .no, .no, .no, .no] (m_lot_lines x_0) (PF 1 I1 (fun _ _ => True)) := by
    unfold m_lot_lines
    refine sq_new (F' := fun a934 => [.sh false x_0, .ow false a934, .no, .no, .no]) (e_lst (as_one (xb_v (e_fst (pre := "lot ") (post := Str.empty) (e_prop (e_var (x := x_0)) (fun x => r_Lot_size (lv rfl hn) x)))) as_nil)) ?_
    intro a934
    refine sq_forN (F := (fun s938 => [.sh false x_0, .ow false s938, .no, .no, .no])) (Ft := (fun s938 b941 => [.sh false x_0, .ow false s938, .sh false b941, .no, .no])) (fun a937 => a934) (i_seq (xb_v (e_fld (e_var (x := x_0))))) (fun s938 d939 => (xl_nm (F := fun z940 => [.sh false x_0, .ow false s938, .sh false z940, .no, .no]))) ?_ ?_
    · intro s938 b941
      refine sq_ext (x := fun a969 => s938) (bo := fun _ => false) (F' := fun a969 y970 => [.sh false x_0, .ow false y970, .sh false b941, .no, .no]) (xn_v (e_lst (as_one (xb_v e_con) (as_star (xv_a (xn_v (e_lcM (Q0 := [.sh false x_0, .ow false s938, .sh false b941, .no, .no]) (i_seq (xb_v (e_var (x := b941)))) (fun d944 => tn1_of (Fp := fun b946 => [.sh false x_0, .ow false s938, .sh false b941, .sh false b946, .no]) (Fe := fun b946 _ => [.sh false x_0, .ow false s938, .sh false b941, .sh false b946, .no]) (xl_nm (F := fun z945 => [.sh false x_0, .ow false s938, .sh false b941, .sh false z945, .no])) (fun b946 => (v_mth e_con (xv_a (xn_v (e_lcM (Q0 := [.sh false x_0, .ow false s938, .sh false b941, .sh false b946, .no]) (i_seq (xb_v (e_var (x := b946)))) (fun d948 => tn1_of (Fp := fun b950 => [.sh false x_0, .ow false s938, .sh false b941, .sh false b946, .sh false b950]) (Fe := fun b950 _ => [.sh false x_0, .ow false s938, .sh false b941, .sh false b946, .sh false b950]) (xl_nm (F := fun z949 => [.sh false x_0, .ow false s938, .sh false b941, .sh false b946, .sh false z949])) (fun b950 => (v_p1 (xv_a (xb_v (e_var (x := b950)))))))))))))))) as_nil)))) (fun _ => rfl) ?_
      intro a969 y970
      refine sq_kil (q1 := [.sh false x_0, .ow false y970, .no, .no, .no]) ?_ rfl
      exact sq_end (.inl rfl)
    intro s971
    refine sq_shr (q1 := [.sh false x_0, .sh false s971, .no, .no, .no]) ?_ rfl
    exact sq_retP (xb_v (e_var (x := s971))) (fun _ => pf_ret (hB := trivial))
  exact fv_of (d := d_lot_lines) rfl rfl h.r
theorem r_Lot_str {n : Nat} (hn : 3 ≤ n) (x_0 : D) : FP (calls tab n) 224 [x_0] (m_Lot_str x_0) := by
  obtain ⟨n, rfl⟩ : ∃ k, n = k + 1 := ⟨n - 1, by omega⟩
  have hn : 2 ≤ n := Nat.le_of_succ_le_succ hn
  have h : SQ (calls tab n) t_Lot_str [] [.sh false x_0] (m_Lot_str x_0) (PF 1 I1 (fun _ _ => True)) := by
    unfold m_Lot_str
    exact sq_retP (v_mth e_con (xv_a (xb_v (c1_b (xb_v (e_var (x := x_0))) (fun x0 => r_lot_lines (lv rfl hn) x0))))) (fun _ => pf_ret (hB := trivial))
  exact fv_of (d := d_Lot_str) rfl rfl h.r
theorem r_Lot_text {n : Nat} (hn : 4 ≤ n) (x_0 : D) : FP (calls tab n) 202 [x_0] (m_Lot_text x_0) := by
  obtain ⟨n, rfl⟩ : ∃ k, n = k + 1 := ⟨n - 1, by omega⟩
  have hn : 3 ≤ n := Nat.le_of_succ_le_succ hn
  have h : SQ (calls tab n) t_Lot_text [] [.sh false x_0] (m_Lot_text x_0) (PF 1 I1 (fun _ _ => True)) := by
    unfold m_Lot_text
    exact sq_retP (v_p1 (xv_a (xb_v (e_prop (e_var (x := x_0)) (fun x => r_Lot_str (lv rfl hn) x))))) (fun _ => pf_ret (hB := trivial))
  exact fv_of (d := d_Lot_text) rfl rfl h.r
theorem r__law_lines {n : Nat} (hn : 1 ≤ n) (x_0 : D) : FP (calls tab n) 1016 [x_0] (m__law_lines x_0) := by
  obtain ⟨n, rfl⟩ : ∃ k, n = k + 1 := ⟨n - 1, by omega⟩
  have hn : 0 ≤ n := Nat.le_of_succ_le_succ hn
  have h : SQ (calls tab n) t__law_lines [] [.sh false x_0, .no, .no, .no, .no] (m__law_lines x_0) (PF 1 I1 (fun _ _ => True)) := by
    unfold m__law_lines
    refine sq_set (F' := fun a1007 => [.sh false x_0, .sh false a1007, .no, .no, .no]) (xn_v (e_lst (as_one (v_p2 (xv_a (xb_v e_con)) (xv_a (v_p1 (xv_a (v_p1 (xv_a (v_p2 (xv_a (xb_v (e_var (x := x_0)))) (xv_a (xb_v e_con))))))))) as_nil))) ?_
    intro a1007
    refine sq_forN (F := (fun s1010 => [.sh false x_0, .sh false s1010, .no, .no, .no])) (Ft := (fun s1010 b1013 => [.sh false x_0, .sh false s1010, .sh false b1013, .no, .no])) (fun a1009 => a1007) (i_seq (xb_v (e_var (x := x_0)))) (fun s1010 d1011 => (xl_nm (F := fun z1012 => [.sh false x_0, .sh false s1010, .sh false z1012, .no, .no]))) ?_ ?_
    · intro s1010 b1013
      refine sq_set (F' := fun a1049 => [.sh false x_0, .sh false a1049, .sh false b1013, .no, .no]) (v_p2 (xv_a (v_p2 (xv_a (xb_v (e_var (x := s1010)))) (xv_a (xn_v (e_lst (as_one (xb_v e_con) as_nil)))))) (xv_a (xn_v (e_lcM (Q0 := [.sh false x_0, .sh false s1010, .sh false b1013, .no, .no]) (i_seq (xb_v (e_var (x := b1013)))) (fun d1025 => tn1_of (Fp := fun b1027 => [.sh false x_0, .sh false s1010, .sh false b1013, .sh false b1027, .no]) (Fe := fun b1027 _ => [.sh false x_0, .sh false s1010, .sh false b1013, .sh false b1027, .no]) (xl_nm (F := fun z1026 => [.sh false x_0, .sh false s1010, .sh false b1013, .sh false z1026, .no])) (fun b1027 => (v_mth e_con (xv_a (xn_v (e_lcM (Q0 := [.sh false x_0, .sh false s1010, .sh false b1013, .sh false b1027, .no]) (i_seq (xb_v (e_var (x := b1027)))) (fun d1029 => tn1_of (Fp := fun b1031 => [.sh false x_0, .sh false s1010, .sh false b1013, .sh false b1027, .sh false b1031]) (Fe := fun b1031 _ => [.sh false x_0, .sh false s1010, .sh false b1013, .sh false b1027, .sh false b1031]) (xl_nm (F := fun z1030 => [.sh false x_0, .sh false s1010, .sh false b1013, .sh false b1027, .sh false z1030])) (fun b1031 => (v_p1 (xv_a (xb_v (e_var (x := b1031))))))))))))))))) ?_
      intro a1049
      refine sq_kil (q1 := [.sh false x_0, .sh false a1049, .no, .no, .no]) ?_ rfl
      exact sq_end (.inl rfl)
    intro s1050
    exact sq_retP (xb_v (e_var (x := s1050))) (fun _ => pf_ret (hB := trivial))
  exact fv_of (d := d__law_lines) rfl rfl h.r
theorem r__law_sheet {n : Nat} (hn : 2 ≤ n) (x_0 : D) : FP (calls tab n) 1017 [x_0] (m__law_sheet x_0) := by
  obtain ⟨n, rfl⟩ : ∃ k, n = k + 1 := ⟨n - 1, by omega⟩
  have hn : 1 ≤ n := Nat.le_of_succ_le_succ hn
  have h : SQ (calls tab n) t__law_sheet [] [.sh false x_0] (m__law_sheet x_0) (PF 1 I1 (fun _ _ => True)) := by
    unfold m__law_sheet
    exact sq_retP (v_mth e_con (xv_a (xb_v (c1_b (xb_v (e_var (x := x_0))) (fun x0 => r__law_lines (lv rfl hn) x0))))) (fun _ => pf_ret (hB := trivial))
  exact fv_of (d := d__law_sheet) rfl rfl h.r
theorem r__law_built {n : Nat} (hn : 8 ≤ n) (bo : Bool) (x_0 x_1 : D) : FLb (calls tab n) 1018 bo x_0 [x_1] (m__law_built x_0 x_1) := by
  obtain ⟨n, rfl⟩ : ∃ k, n = k + 1 := ⟨n - 1, by omega⟩
  have hn : 7 ≤ n := Nat.le_of_succ_le_succ hn
  have h : SQ (calls tab n) t__law_built [] [.ow bo x_0, .sh false x_1, .no] (m__law_built x_0 x_1) (PF 2 (fun y => y.1) (fun (y : D × D) q' => bo = true → q' = .ow true y.2 :: List.replicate 1 .no)) := by
    unfold m__law_built
    refine sq_set (F' := fun a1062 => [.ow bo a1062.2, .sh false x_1, .sh false a1062.1]) (xb_v (cL1 (x := x_0) (F := (fun z1061 => [.ow bo z1061, .sh false x_1, .no])) (xb_v e_con) (fun x0 => r__law_cast (lv rfl hn) true x_0 x0))) ?_
    intro a1062
    refine sq_if (t_val (xv_a (v_p2 (xv_a (xb_v (e_var (x := a1062.1)))) (xv_a (xb_v e_con))))) ?_ ?_
    · intro c1070
      exact sq_retS (fun a1072 => (a1072, a1062.2)) (xb_v (m1_b (xb_v (e_var (x := x_1))) (fun x0 => r_Lot_init (lv rfl hn) x0))) (fun _ => pf_ret (hB := (fun h => by subst h; rfl)))
    intro c1070
    refine sq_nil ?_
    exact sq_retS (fun a1087 => (a1087, a1062.2)) (v_ife (t_val (xv_a (v_p2 (xv_a (xb_v (e_var (x := a1062.1)))) (xv_a (xb_v e_con))))) (xb_v (mk1_b (xb_v (e_var (x := x_1))) (fun x0 => r_Lot_init (lv rfl hn) x0))) (xb_v (c2_b (xb_v e_con) (xb_v (c1_b (xb_v (e_var (x := x_1))) (fun x0 => r__law_sheet (lv rfl hn) x0))) (fun x0 x1 => r_Lot_read (lv rfl hn) x0 x1)))) (fun _ => pf_ret (hB := (fun h => by subst h; rfl)))
  exact fv_of (d := d__law_built) rfl rfl h.r
theorem r_Lot_tables {n : Nat} (hn : 1 ≤ n) (x_0 : D) : FP (calls tab n) 200 [x_0] (m_Lot_tables x_0) := by
  obtain ⟨n, rfl⟩ : ∃ k, n = k + 1 := ⟨n - 1, by omega⟩
  have hn : 0 ≤ n := Nat.le_of_succ_le_succ hn
  have h : SQ (calls tab n) t_Lot_tables [] [.sh false x_0] (m_Lot_tables x_0) (PF 1 I1 (fun _ _ => True)) := by
    unfold m_Lot_tables
    exact sq_retP (xb_v (e_fld (e_var (x := x_0)))) (fun _ => pf_ret (hB := trivial))
  exact fv_of (d := d_Lot_tables) rfl rfl h.r
theorem r_Lot_len {n : Nat} (hn : 1 ≤ n) (x_0 : D) : FP (calls tab n) 230 [x_0] (m_Lot_len x_0) := by
  obtain ⟨n, rfl⟩ : ∃ k, n = k + 1 := ⟨n - 1, by omega⟩
  have hn : 0 ≤ n := Nat.le_of_succ_le_succ hn
  have h : SQ (calls tab n) t_Lot_len [] [.sh false x_0] (m_Lot_len x_0) (PF 1 I1 (fun _ _ => True)) := by
    unfold m_Lot_len
    exact sq_retP (v_p1 (xv_a (xb_v (e_fld (e_var (x := x_0)))))) (fun _ => pf_ret (hB := trivial))
  exact fv_of (d := d_Lot_len) rfl rfl h.r
theorem r__law_thing {n : Nat} (hn : 3 ≤ n) (bo : Bool) (x_0 : D) : FLb (calls tab n) 1021 bo x_0 [] (m__law_thing x_0) := by
  obtain ⟨n, rfl⟩ : ∃ k, n = k + 1 := ⟨n - 1, by omega⟩
  have hn : 2 ≤ n := Nat.le_of_succ_le_succ hn
  have h : SQ (calls tab n) t__law_thing [] [.ow bo x_0, .no] (m__law_thing x_0) (PF 1 (fun y => y.1) (fun (y : D × D) q' => bo = true → q' = .ow true y.2 :: List.replicate 0 .no)) := by
    unfold m__law_thing
    refine sq_set (F' := fun a1208 => [.ow bo x_0, .sh false a1208]) (xn_v (e_lst (as_one (xb_v e_con) (as_one (xb_v e_con) (as_one (xb_v e_con) (as_one (xb_v e_con) (as_one (xb_v e_con) (as_one (v_p1 (xv_a (xb_v e_con))) (as_one (xb_v e_con) (as_one (v_p2 (xv_a (v_p2 (xv_a (xb_v e_con)) (xv_a (xb_v e_con)))) (xv_a (xb_v e_con))) (as_one (v_p1 (xv_a (v_p2 (xv_a (xb_v e_con)) (xv_a (xb_v e_con))))) (as_one (xb_v e_con) (as_one (xb_v e_con) (as_one (xb_v e_con) (as_one (xb_v (e_tup as_nil)) (as_one (xb_v (e_tup (as_one (xb_v e_con) as_nil))) (as_one (xb_v (e_tup (as_one (xb_v e_con) (as_one (xb_v e_con) as_nil)))) (as_one (xb_v (e_tup (as_one (xb_v (e_tup (as_one (xb_v e_con) as_nil))) as_nil))) (as_one (xb_v e_con) as_nil))))))))))))))))))) ?_
    intro a1208
    refine sq_set (F' := fun a1315 => [.ow bo x_0, .sh false a1315]) (v_p2 (xv_a (xb_v (e_var (x := a1208)))) (xv_a (xn_v (e_lst (as_one (xn_v (e_lst as_nil)) (as_one (xn_v (e_lst (as_one (xb_v e_con) as_nil))) (as_one (xb_v e_con) (as_one (xb_v e_con) (as_one (xb_v (e_tup (as_one (xb_v (e_tup (as_one (xb_v e_con) (as_one (xb_v e_con) as_nil)))) as_nil))) (as_one (xb_v (e_tup (as_one (xb_v (e_tup (as_one (xb_v e_con) (as_one (xb_v e_con) as_nil)))) (as_one (xb_v (e_tup (as_one (xb_v e_con) (as_one (xb_v e_con) as_nil)))) as_nil)))) (as_one (xb_v (e_tup (as_one (xb_v (e_tup (as_one (xb_v (e_tup (as_one (xb_v e_con) as_nil))) as_nil))) as_nil))) (as_one (xb_v (e_tup (as_one (xb_v e_con) as_nil))) (as_one (xb_v (e_tup (as_one (xb_v e_con) as_nil))) (as_one (xb_v e_con) as_nil)))))))))))))) ?_
    intro a1315
    exact sq_retP (xb_v (cL1 (x := x_0) (F := (fun z1317 => [.ow bo z1317, .sh false a1315])) (xb_v (e_var (x := a1315))) (fun x0 => r__law_any_of (lv rfl hn) true x_0 x0))) (fun _ => pf_ret (hB := (fun h => by subst h; rfl)))
  exact fv_of (d := d__law_thing) rfl rfl h.r
theorem r__law_near {n : Nat} (hn : 2 ≤ n) (bo : Bool) (x_0 x_1 : D) : FLb (calls tab n) 1022 bo x_0 [x_1] (m__law_near x_0 x_1) := by
  obtain ⟨n, rfl⟩ : ∃ k, n = k + 1 := ⟨n - 1, by omega⟩
  have hn : 1 ≤ n := Nat.le_of_succ_le_succ hn
  have h : SQ (calls tab n) t__law_near [] [.ow bo x_0, .sh false x_1, .no, .no, .no, .no, .no, .no, .no] (m__law_near x_0 x_1) (PF 2 (fun y => y.1) (fun (y : D × D) q' => bo = true → q' = .ow true y.2 :: List.replicate 1 .no)) := by
    unfold m__law_near
    refine sq_par2 (F' := fun a1321 a1327 => [.ow bo a1327.2, .sh false x_1, .no, .sh false a1321.1, .sh false a1327.1, .no, .no, .no, .no]) (xq_b (cL1 (x := x_0) (F := (fun z1320 => [.ow bo z1320, .sh false x_1, .no, .no, .no, .no, .no, .no, .no])) (xb_v e_con) (fun x0 => r__law_cast (lv rfl hn) true x_0 x0))) (fun a1321 => (xq_b (cL1 (x := a1321.2) (F := (fun z1326 => [.ow bo z1326, .sh false x_1, .no, .no, .no, .no, .no, .no, .no])) (v_p1 (xv_a (xb_v (e_var (x := x_1))))) (fun x0 => r__law_cast (lv rfl hn) true a1321.2 x0)))) ?_
    intro a1321 a1327
    refine sq_set (F' := fun a1337 => [.ow bo a1327.2, .sh false x_1, .sh false a1337, .sh false a1321.1, .sh false a1327.1, .no, .no, .no, .no]) (v_p1 (xv_a (v_p2 (xv_a (xb_v (e_var (x := x_1)))) (xv_a (xb_v e_con))))) ?_
    intro a1337
    refine sq_if (t_all (t_val (xv_a (v_p2 (xv_a (xb_v (e_var (x := a1321.1)))) (xv_a (xb_v e_con))))) (t_val (xv_a (v_p2 (xv_a (v_p1 (xv_a (xb_v (e_var (x := x_1)))))) (xv_a (xb_v e_con)))))) ?_ ?_
    · intro c1358
      exact sq_retS (fun a1383 => (a1383, a1327.2)) (v_p2 (xv_a (v_p2 (xv_a (xb_v (e_var (x := x_1)))) (xv_a (xb_v (e_var (x := a1327.1)))))) (xv_a (v_p2 (xv_a (xb_v (e_var (x := x_1)))) (xv_a (v_p2 (xv_a (xb_v (e_var (x := a1327.1)))) (xv_a (xb_v e_con))))))) (fun _ => pf_ret (hB := (fun h => by subst h; rfl)))
    intro c1358
    refine sq_nil ?_
    refine sq_if (t_val (xv_a (v_p2 (xv_a (xb_v (e_var (x := a1321.1)))) (xv_a (xb_v e_con))))) ?_ ?_
    · intro c1392
      exact sq_retS (fun a1396 => (a1396, a1327.2)) (v_p1 (xv_a (xb_v (e_var (x := x_1))))) (fun _ => pf_ret (hB := (fun h => by subst h; rfl)))
    intro c1392
    refine sq_nil ?_
    refine sq_if (t_val (xv_a (v_p2 (xv_a (xb_v (e_var (x := a1321.1)))) (xv_a (xb_v e_con))))) ?_ ?_
    · intro c1405
      refine sq_set (F' := fun a1442 => [.ow bo a1327.2, .sh false x_1, .sh false a1337, .sh false a1321.1, .sh false a1327.1, .sh false a1442, .no, .no, .no]) (v_p1 (xv_a (xn_v (e_lcM (Q0 := [.ow bo a1327.2, .sh false x_1, .sh false a1337, .sh false a1321.1, .sh false a1327.1, .no, .no, .no, .no]) (i_rng1 (xb_v (e_var (x := a1337)))) (fun d1408 => tn1_of (Fp := fun b1410 => [.ow bo a1327.2, .sh false x_1, .sh false a1337, .sh false a1321.1, .sh false a1327.1, .no, .no, .sh false b1410, .no]) (Fe := fun b1410 _ => [.ow bo a1327.2, .sh false x_1, .sh false a1337, .sh false a1321.1, .sh false a1327.1, .no, .no, .sh false b1410, .no]) (xl_nm (F := fun z1409 => [.ow bo a1327.2, .sh false x_1, .sh false a1337, .sh false a1321.1, .sh false a1327.1, .no, .no, .sh false z1409, .no])) (fun b1410 => (v_p1 (xv_a (xn_v (e_lcM (Q0 := [.ow bo a1327.2, .sh false x_1, .sh false a1337, .sh false a1321.1, .sh false a1327.1, .no, .no, .sh false b1410, .no]) (i_rng1 (xb_v (e_var (x := a1337)))) (fun d1413 => tn1_of (Fp := fun b1415 => [.ow bo a1327.2, .sh false x_1, .sh false a1337, .sh false a1321.1, .sh false a1327.1, .no, .no, .sh false b1410, .sh false b1415]) (Fe := fun b1415 _ => [.ow bo a1327.2, .sh false x_1, .sh false a1337, .sh false a1321.1, .sh false a1327.1, .no, .no, .sh false b1410, .sh false b1415]) (xl_nm (F := fun z1414 => [.ow bo a1327.2, .sh false x_1, .sh false a1337, .sh false a1321.1, .sh false a1327.1, .no, .no, .sh false b1410, .sh false z1414])) (fun b1415 => (v_p2 (xv_a (v_p2 (xv_a (v_p2 (xv_a (xb_v (e_var (x := x_1)))) (xv_a (xb_v (e_var (x := a1327.1)))))) (xv_a (xb_v (e_var (x := b1415)))))) (xv_a (xb_v (e_var (x := b1410))))))))))))))))) ?_
      intro a1442
      exact sq_retS (fun a1477 => (a1477, a1327.2)) (v_p2 (xv_a (v_p2 (xv_a (v_p2 (xv_a (xb_v (e_var (x := x_1)))) (xv_a (xb_v (e_var (x := a1327.1)))))) (xv_a (xb_v (e_tup (as_one (xb_v (e_var (x := a1442))) as_nil)))))) (xv_a (v_p2 (xv_a (xb_v (e_var (x := x_1)))) (xv_a (v_p2 (xv_a (xb_v (e_var (x := a1327.1)))) (xv_a (xb_v e_con))))))) (fun _ => pf_ret (hB := (fun h => by subst h; rfl)))
    intro c1405
    refine sq_nil ?_
    refine sq_if (t_all (t_val (xv_a (v_p2 (xv_a (xb_v (e_var (x := a1321.1)))) (xv_a (xb_v e_con))))) (t_val (xv_a (v_p2 (xv_a (v_p2 (xv_a (v_p2 (xv_a (v_p2 (xv_a (xb_v (e_var (x := x_1)))) (xv_a (xb_v (e_var (x := a1327.1)))))) (xv_a (xb_v e_con)))) (xv_a (xb_v e_con)))) (xv_a (v_p2 (xv_a (xb_v e_con)) (xv_a (xb_v e_con)))))))) ?_ ?_
    · intro c1520
      refine sq_set (F' := fun a1573 => [.ow bo a1327.2, .sh false x_1, .sh false a1337, .sh false a1321.1, .sh false a1327.1, .no, .sh false a1573, .no, .no]) (v_p2 (xv_a (xb_v (e_tup (as_one (v_p2 (xv_a (v_p2 (xv_a (v_p2 (xv_a (v_p2 (xv_a (xb_v (e_var (x := x_1)))) (xv_a (xb_v (e_var (x := a1327.1)))))) (xv_a (xb_v e_con)))) (xv_a (xb_v e_con)))) (xv_a (xb_v e_con))) as_nil)))) (xv_a (v_p2 (xv_a (v_p2 (xv_a (v_p2 (xv_a (xb_v (e_var (x := x_1)))) (xv_a (xb_v (e_var (x := a1327.1)))))) (xv_a (xb_v e_con)))) (xv_a (xb_v e_con))))) ?_
      intro a1573
      exact sq_retS (fun a1630 => (a1630, a1327.2)) (v_p2 (xv_a (v_p2 (xv_a (v_p2 (xv_a (xb_v (e_var (x := x_1)))) (xv_a (xb_v (e_var (x := a1327.1)))))) (xv_a (xb_v (e_tup (as_one (v_p2 (xv_a (xb_v (e_tup (as_one (xb_v (e_var (x := a1573))) as_nil)))) (xv_a (v_p2 (xv_a (v_p2 (xv_a (xb_v (e_var (x := x_1)))) (xv_a (xb_v (e_var (x := a1327.1)))))) (xv_a (xb_v e_con))))) as_nil)))))) (xv_a (v_p2 (xv_a (xb_v (e_var (x := x_1)))) (xv_a (v_p2 (xv_a (xb_v (e_var (x := a1327.1)))) (xv_a (xb_v e_con))))))) (fun _ => pf_ret (hB := (fun h => by subst h; rfl)))
    intro c1520
    refine sq_nil ?_
    exact sq_retS (fun a1632 => (a1632, a1327.2)) (xb_v (e_var (x := x_1))) (fun _ => pf_ret (hB := (fun h => by subst h; rfl)))
  exact fv_of (d := d__law_near) rfl rfl h.r
theorem r_Lot_eq {n : Nat} (hn : 1 ≤ n) (x_0 x_1 : D) : FP (calls tab n) 233 [x_0, x_1] (m_Lot_eq x_0 x_1) := by
  obtain ⟨n, rfl⟩ : ∃ k, n = k + 1 := ⟨n - 1, by omega⟩
  have hn : 0 ≤ n := Nat.le_of_succ_le_succ hn
  have h : SQ (calls tab n) t_Lot_eq [] [.sh false x_0, .sh false x_1] (m_Lot_eq x_0 x_1) (PF 2 I1 (fun _ _ => True)) := by
    unfold m_Lot_eq
    exact sq_retP (xb_v (e_and (b_p1 (xv_a (xb_v (e_var (x := x_1))))) (b_p2 (xv_a (xb_v (e_fld (e_var (x := x_0))))) (xv_a (xb_v (e_fld (e_var (x := x_1)))))))) (fun _ => pf_ret (hB := trivial))
  exact fv_of (d := d_Lot_eq) rfl rfl h.r
theorem r__law_right {n : Nat} (hn : 9 ≤ n) (bo : Bool) (x_0 : D) : FLb (calls tab n) 1024 bo x_0 [] (m__law_right x_0) := by
  obtain ⟨n, rfl⟩ : ∃ k, n = k + 1 := ⟨n - 1, by omega⟩
  have hn : 8 ≤ n := Nat.le_of_succ_le_succ hn
  have h : SQ (calls tab n) t__law_right [] [.ow bo x_0, .no, .no, .no, .no, .no, .no, .no] (m__law_right x_0) (PF 1 (fun y => y.1) (fun (y : D × D) q' => bo = true → q' = .ow true y.2 :: List.replicate 0 .no)) := by
    unfold m__law_right
    refine sq_set (F' := fun a1649 => [.ow bo a1649.2, .sh false a1649.1, .no, .no, .no, .no, .no, .no]) (xb_v (cL0 (x := x_0) (F := (fun z1648 => [.ow bo z1648, .no, .no, .no, .no, .no, .no, .no]))  (r__law_grids (lv rfl hn) true x_0))) ?_
    intro a1649
    refine sq_new (F' := fun a1662 => [.ow bo a1649.2, .sh false a1649.1, .ow false a1662, .no, .no, .no, .no, .no]) (e_lst (as_one (xb_v (m1_b (xb_v (e_var (x := a1649.1))) (fun x0 => r_Lot_init (lv rfl hn) x0))) (as_one (xb_v (c2_b (xb_v e_con) (xb_v (c1_b (xb_v (e_var (x := a1649.1))) (fun x0 => r__law_sheet (lv rfl hn) x0))) (fun x0 x1 => r_Lot_read (lv rfl hn) x0 x1))) as_nil))) ?_
    intro a1662
    refine sq_forN (F := (fun s1666 => [.ow bo s1666.1, .sh false a1649.1, .ow false s1666.2, .no, .no, .no, .no, .no])) (Ft := (fun s1666 b1669 => [.ow bo s1666.1, .sh false a1649.1, .ow false s1666.2, .sh false b1669, .no, .no, .no, .no])) (fun a1665 => (a1649.2, a1662)) (i_rng1 (xb_v e_con)) (fun s1666 d1667 => (xl_nm (F := fun z1668 => [.ow bo s1666.1, .sh false a1649.1, .ow false s1666.2, .sh false z1668, .no, .no, .no, .no]))) ?_ ?_
    · intro s1666 b1669
      refine sq_app (x := fun a1677 => s1666.2) (bo := fun _ => false) (F' := fun a1677 y1678 => [.ow bo a1677.2, .sh false a1649.1, .ow false y1678, .sh false b1669, .no, .no, .no, .no]) (xb_v (callLi (F := (fun z1676 => [.ow bo z1676, .sh false a1649.1, .ow false s1666.2, .sh false b1669, .no, .no, .no, .no])) (g := fun p => on1 (m__law_built p)) (x0 := s1666.1) (xg_v (V3 := (fun (z : List D × D) => z.1.map Ga.v)) (F3 := (fun (z1674 : List D × D) => [.ow bo z1674.2, .sh false a1649.1, .ow false s1666.2, .sh false b1669, .no, .no, .no, .no])) (fun (a1672 : D × D) (t1673 : List D) => ((a1672.1 :: t1673), a1672.2)) (xb_v (cL1 (x := s1666.1) (F := (fun z1671 => [.ow bo z1671, .sh false a1649.1, .ow false s1666.2, .sh false b1669, .no, .no, .no, .no])) (xb_v (e_var (x := a1649.1))) (fun x0 => r__law_near (lv rfl hn) true s1666.1 x0))) (fun a1672 => xg_nilV)) (fun y => ⟨_, rfl, fun _ => rfl⟩) (fun p => on1_ok (R := fun l m => FLb _ _ true p l m) (fun _ => trivial) (fun x0 => r__law_built (lv rfl hn) true p x0)) rfl)) (fun _ => rfl) ?_
      intro a1677 y1678
      refine sq_kil (q1 := [.ow bo a1677.2, .sh false a1649.1, .ow false y1678, .no, .no, .no, .no, .no]) ?_ rfl
      exact sq_end (.inl rfl)
    intro s1679
    refine sq_shr (q1 := [.ow bo s1679.1, .sh false a1649.1, .sh false s1679.2, .no, .no, .no, .no, .no]) ?_ rfl
    refine sq_for (ρ := D × D) (R := (PF 1 (fun y => y.1) (fun (y : D × D) q' => bo = true → q' = .ow true y.2 :: List.replicate 0 .no))) (F := (fun s1682 => [.ow bo s1682, .sh false a1649.1, .sh false s1679.2, .no, .no, .no, .no, .no])) (Ft := (fun s1682 b1685 => [.ow bo s1682, .sh false a1649.1, .sh false s1679.2, .no, .sh false b1685, .no, .no, .no])) (fun a1681 => s1679.1) (fun x1881 =>  x1881) (i_seq (xb_v (e_var (x := s1679.2)))) (fun s1682 d1683 => (xl_nm (F := fun z1684 => [.ow bo s1682, .sh false a1649.1, .sh false s1679.2, .no, .sh false z1684, .no, .no, .no]))) ?_ ?_ (fun _ _ h _ => h)
    · intro s1682 b1685
      refine sq_for (ρ := D × D) (R := (PF 1 (fun y => y.1) (fun (y : D × D) q' => bo = true → q' = .ow true y.2 :: List.replicate 0 .no))) (F := (fun (s1688 : Unit) => [.ow bo s1682, .sh false a1649.1, .sh false s1679.2, .no, .sh false b1685, .no, .no, .no])) (Ft := (fun (s1688 : Unit) b1691 => [.ow bo s1682, .sh false a1649.1, .sh false s1679.2, .no, .sh false b1685, .sh false b1691, .no, .no])) (fun a1687 => ()) (fun x1863 => Fl.ret x1863) (i_seq (xb_v (e_var (x := s1679.2)))) (fun (s1688 : Unit) d1689 => (xl_nm (F := fun z1690 => [.ow bo s1682, .sh false a1649.1, .sh false s1679.2, .no, .sh false b1685, .sh false z1690, .no, .no]))) ?_ ?_ (fun _ _ h i => ⟨h, i⟩)
      · intro s1688 b1691
        refine sq_set (F' := fun a1700 => [.ow bo s1682, .sh false a1649.1, .sh false s1679.2, .no, .sh false b1685, .sh false b1691, .no, .sh false a1700]) (v_p2 (xv_a (xb_v (e_prop (e_var (x := b1685)) (fun x => r_Lot_text (lv rfl hn) x)))) (xv_a (xb_v (e_prop (e_var (x := b1691)) (fun x => r_Lot_text (lv rfl hn) x))))) ?_
        intro a1700
        refine sq_if (t_val (xv_a (v_p2 (xv_a (v_p1 (xv_a (xn_v (e_lst (as_one (v_p1 (xv_a (xb_v (i2_b (xb_v (e_var (x := b1685))) (xb_v (e_var (x := b1691))) (fun x y => r_Lot_eq (lv rfl hn) x y))))) (as_one (v_p1 (xv_a (xb_v (i2_b (xb_v (e_var (x := b1685))) (xb_v (e_var (x := b1691))) (fun x y => r_Lot_eq (lv rfl hn) x y))))) as_nil))))))) (xv_a (v_p1 (xv_a (xn_v (e_lst (as_one (xb_v (e_var (x := a1700))) (as_one (xb_v (e_not (xv_a (xb_v (e_var (x := a1700)))))) as_nil)))))))))) ?_ ?_
        · intro c1740
          exact sq_retS (fun a1741 => Fl.ret (a1741, s1682)) (xb_v e_con) (fun _ => pbr (pf_ret (hB := (fun h => by subst h; rfl))))
        intro c1740
        refine sq_nil ?_
        refine sq_kil (q1 := [.ow bo s1682, .sh false a1649.1, .sh false s1679.2, .no, .sh false b1685, .no, .no, .no]) ?_ rfl
        exact sq_end (.inl rfl)
      intro _
      refine sq_for (ρ := D × D) (R := (PF 1 (fun y => y.1) (fun (y : D × D) q' => bo = true → q' = .ow true y.2 :: List.replicate 0 .no))) (F := (fun s1791 => [.ow bo s1791, .sh false a1649.1, .sh false s1679.2, .no, .sh false b1685, .no, .no, .no])) (Ft := (fun s1791 b1794 => [.ow bo s1791, .sh false a1649.1, .sh false s1679.2, .no, .sh false b1685, .no, .sh false b1794, .no])) (fun (a1790 : List D × D) => a1790.2) (fun x1862 => Fl.ret x1862) (xi_seq (V3 := (fun z => z.1)) (F3 := (fun z1789 => [.ow bo z1789.2, .sh false a1649.1, .sh false s1679.2, .no, .sh false b1685, .no, .no, .no])) (fun a1787 l1788 => (l1788, a1787.2)) (xn_v (xn_lst (V3 := (fun (z : D × D) => z.1)) (F3 := (fun (z1786 : D × D) => [.ow bo z1786.2, .sh false a1649.1, .sh false s1679.2, .no, .sh false b1685, .no, .no, .no])) (fun (a1784 : List D × D) (d1785 : D) => (d1785, a1784.2)) (xas_one (V3 := (fun (z : List D × D) => z.1)) (F3 := (fun (z1783 : List D × D) => [.ow bo z1783.2, .sh false a1649.1, .sh false s1679.2, .no, .sh false b1685, .no, .no, .no])) (fun (a1743 : D) (t1782 : List D × D) => ((a1743 :: t1782.1), t1782.2)) (xb_v e_con) (fun a1743 => (xas_one (V3 := (fun (z : List D × D) => z.1)) (F3 := (fun (z1781 : List D × D) => [.ow bo z1781.2, .sh false a1649.1, .sh false s1679.2, .no, .sh false b1685, .no, .no, .no])) (fun (a1745 : D) (t1780 : List D × D) => ((a1745 :: t1780.1), t1780.2)) (xb_v (e_prop (e_var (x := b1685)) (fun x => r_Lot_text (lv rfl hn) x))) (fun a1745 => (xas_one (V3 := (fun (z : List D × D) => z.1)) (F3 := (fun (z1779 : List D × D) => [.ow bo z1779.2, .sh false a1649.1, .sh false s1679.2, .no, .sh false b1685, .no, .no, .no])) (fun (a1747 : D) (t1778 : List D × D) => ((a1747 :: t1778.1), t1778.2)) (xb_v (e_prop (e_var (x := b1685)) (fun x => r_Lot_tables (lv rfl hn) x))) (fun a1747 => (xas_one (V3 := (fun (z : List D × D) => z.1)) (F3 := (fun (z1777 : List D × D) => [.ow bo z1777.2, .sh false a1649.1, .sh false s1679.2, .no, .sh false b1685, .no, .no, .no])) (fun (a1751 : D) (t1776 : List D × D) => ((a1751 :: t1776.1), t1776.2)) (v_p1 (xv_a (xb_v (e_prop (e_var (x := b1685)) (fun x => r_Lot_len (lv rfl hn) x))))) (fun a1751 => (xas_one (V3 := (fun (z : List D × D) => z.1)) (F3 := (fun (z1775 : List D × D) => [.ow bo z1775.2, .sh false a1649.1, .sh false s1679.2, .no, .sh false b1685, .no, .no, .no])) (fun (a1757 : D) (t1774 : List D × D) => ((a1757 :: t1774.1), t1774.2)) (xn_v (e_lst (as_one (xb_v (e_prop (e_var (x := b1685)) (fun x => r_Lot_text (lv rfl hn) x))) as_nil))) (fun a1757 => (xas_one (V3 := (fun (z : List D × D) => z.1)) (F3 := (fun (z1773 : List D × D) => [.ow bo z1773.2, .sh false a1649.1, .sh false s1679.2, .no, .sh false b1685, .no, .no, .no])) (fun (a1759 : D × D) (t1772 : List D) => ((a1759.1 :: t1772), a1759.2)) (xb_v (cL0 (x := s1682) (F := (fun z1758 => [.ow bo z1758, .sh false a1649.1, .sh false s1679.2, .no, .sh false b1685, .no, .no, .no]))  (r__law_thing (lv rfl hn) true s1682))) (fun a1759 => (xas_one (V3 := Il) (F3 := (Fc _)) (fun a1764 t1771 => (a1764 :: t1771)) (xb_v (e_tup (as_one (xb_v (e_var (x := b1685))) as_nil))) (fun a1764 => (xas_one (V3 := Il) (F3 := (Fc _)) (fun a1769 t1770 => (a1769 :: t1770)) (xn_v (e_lst (as_one (xb_v (e_var (x := b1685))) as_nil))) (fun a1769 => xas_nil))))))))))))))))))) (fun s1791 d1792 => (xl_nm (F := fun z1793 => [.ow bo s1791, .sh false a1649.1, .sh false s1679.2, .no, .sh false b1685, .no, .sh false z1793, .no]))) ?_ ?_ (fun _ _ h i => ⟨h, i⟩)
      · intro s1791 b1794
        refine sq_if (t_any (t_val (xv_a (v_ife (t_val (xv_a (v_p1 (xv_a (xb_v (e_var (x := b1794))))))) (v_p1 (xv_a (xb_v (c2_b (v_p1 (xv_a (xb_v (e_var (x := b1685))))) (xb_v (e_var (x := b1794))) (fun x0 x1 => r_Lot_eq (lv rfl hn) x0 x1))))) (xb_v e_con)))) (t_any (t_not (t_val (xv_a (v_ife (t_val (xv_a (v_p1 (xv_a (xb_v (e_var (x := b1794))))))) (v_p1 (xv_a (xb_v (c2_b (v_p1 (xv_a (xb_v (e_var (x := b1685))))) (xb_v (e_var (x := b1794))) (fun x0 x1 => r_Lot_eq (lv rfl hn) x0 x1))))) (xb_v e_con))))) (t_val (xv_a (v_ife (t_val (xv_a (v_p1 (xv_a (xb_v (e_var (x := b1794))))))) (v_p1 (xv_a (xb_v (c2_b (v_p1 (xv_a (xb_v (e_var (x := b1685))))) (xb_v (e_var (x := b1794))) (fun x0 x1 => r_Lot_eq (lv rfl hn) x0 x1))))) (xb_v e_con)))))) ?_ ?_
        · intro c1840
          exact sq_retS (fun a1841 => Fl.ret (a1841, s1791)) (xb_v e_con) (fun _ => pbr (pf_ret (hB := (fun h => by subst h; rfl))))
        intro c1840
        refine sq_nil ?_
        refine sq_kil (q1 := [.ow bo s1791, .sh false a1649.1, .sh false s1679.2, .no, .sh false b1685, .no, .no, .no]) ?_ rfl
        exact sq_end (.inl rfl)
      intro s1842
      refine sq_if (t_any (t_val (xv_a (xb_v (b_inI (xv_a (xb_v (e_var (x := s1679.2)))) (fun x0 x1 => r_Lot_eq (lv rfl hn) x0 x1))))) (t_val (xv_a (xb_v (b_inI (xv_a (xn_v (e_lst (as_one (xb_v (e_prop (e_var (x := b1685)) (fun x => r_Lot_text (lv rfl hn) x))) (as_one (xb_v (e_prop (e_var (x := b1685)) (fun x => r_Lot_tables (lv rfl hn) x))) as_nil))))) (fun x0 x1 => r_Lot_eq (lv rfl hn) x0 x1)))))) ?_ ?_
      · intro c1860
        exact sq_retS (fun a1861 => Fl.ret (a1861, s1842)) (xb_v e_con) (fun _ => pbr (pf_ret (hB := (fun h => by subst h; rfl))))
      intro c1860
      refine sq_nil ?_
      refine sq_kil (q1 := [.ow bo s1842, .sh false a1649.1, .sh false s1679.2, .no, .no, .no, .no, .no]) ?_ rfl
      exact sq_end (.inl rfl)
    intro s1864
    exact sq_retS (fun a1879 => (a1879, s1864)) (v_p2 (xv_a (xb_v (e_prop (b_p2 (xv_a (xb_v (e_var (x := s1679.2)))) (xv_a (xb_v e_con))) (fun x => r_Lot_text (lv rfl hn) x)))) (xv_a (xb_v (c1_b (xb_v (e_var (x := a1649.1))) (fun x0 => r__law_sheet (lv rfl hn) x0))))) (fun _ => pf_ret (hB := (fun h => by subst h; rfl)))
  exact fv_of (d := d__law_right) rfl rfl h.r
theorem r__law_begun {n : Nat} (hn : 1 ≤ n) (x_0 x_1 : D) : FPN (calls tab n) 1025 [x_0, x_1] (m__law_begun x_0 x_1) := by
  obtain ⟨n, rfl⟩ : ∃ k, n = k + 1 := ⟨n - 1, by omega⟩
  have hn : 0 ≤ n := Nat.le_of_succ_le_succ hn
  have h : SQ (calls tab n) t__law_begun [] [.sh false x_0, .sh false x_1, .no, .no, .no] (m__law_begun x_0 x_1) (PFN 2 I1 (fun _ _ => True)) := by
    unfold m__law_begun
    refine sq_set (F' := fun a1900 => [.sh false x_0, .sh false x_1, .sh false a1900, .no, .no]) (v_ife (t_val (xv_a (v_p2 (xv_a (xb_v (e_var (x := x_1)))) (xv_a (v_p1 (xv_a (xb_v (e_var (x := x_0))))))))) (v_p2 (xv_a (xb_v (e_var (x := x_0)))) (xv_a (xb_v (e_var (x := x_1))))) (xb_v e_con)) ?_
    intro a1900
    refine sq_set (F' := fun a1913 => [.sh false x_0, .sh false x_1, .sh false a1900, .sh false a1913, .no]) (v_p2 (xv_a (xb_v e_con)) (xv_a (v_p2 (xv_a (xb_v e_con)) (xv_a (xb_v (e_var (x := x_1))))))) ?_
    intro a1913
    refine sq_forN (F := (fun s1922 => [.sh false x_0, .sh false x_1, .sh false a1900, .sh false s1922, .no])) (Ft := (fun s1922 b1925 => [.sh false x_0, .sh false x_1, .sh false a1900, .sh false s1922, .sh false b1925])) (fun a1921 => a1913) (i_seq (v_p2 (xv_a (xb_v (e_var (x := x_0)))) (xv_a (xb_v e_con)))) (fun s1922 d1923 => (xl_nm (F := fun z1924 => [.sh false x_0, .sh false x_1, .sh false a1900, .sh false s1922, .sh false z1924]))) ?_ ?_
    · intro s1922 b1925
      refine sq_set (F' := fun a1959 => [.sh false x_0, .sh false x_1, .sh false a1900, .sh false a1959, .sh false b1925]) (v_p2 (xv_a (v_p1 (xv_a (v_p2 (xv_a (v_p2 (xv_a (v_p2 (xv_a (xb_v (e_var (x := s1922)))) (xv_a (xb_v e_con)))) (xv_a (v_p2 (xv_a (xb_v (e_var (x := b1925)))) (xv_a (xb_v e_con)))))) (xv_a (xb_v e_con)))))) (xv_a (xb_v e_con))) ?_
      intro a1959
      refine sq_kil (q1 := [.sh false x_0, .sh false x_1, .sh false a1900, .sh false a1959, .no]) ?_ rfl
      exact sq_end (.inl rfl)
    intro s1960
    exact sq_retWP (e_lst (as_one (v_ife (t_any (t_val (xv_a (v_p2 (xv_a (xb_v (e_var (x := a1900)))) (xv_a (xb_v e_con))))) (t_val (xv_a (v_p2 (xv_a (xb_v (e_var (x := a1900)))) (xv_a (v_p2 (xv_a (xb_v e_con)) (xv_a (xb_v e_con)))))))) (v_p1 (xv_a (xb_v (e_var (x := a1900))))) (xb_v e_con)) (as_one (v_p2 (xv_a (v_p1 (xv_a (v_p2 (xv_a (v_p2 (xv_a (v_p2 (xv_a (xb_v (e_var (x := s1960)))) (xv_a (xb_v e_con)))) (xv_a (v_p2 (xv_a (xb_v (e_var (x := a1900)))) (xv_a (xb_v (e_var (x := a1900)))))))) (xv_a (v_p2 (xv_a (xb_v e_con)) (xv_a (xb_v (e_var (x := x_1)))))))))) (xv_a (xb_v e_con))) (as_one (xb_v e_con) as_nil)))) (fun _ => pfn_ret (hB := trivial))
  exact fn_of (d := d__law_begun) rfl rfl h.r
theorem r_law {n : Nat} (hn : 10 ≤ n) (x_0 : D) : FP (calls tab n) 1026 [x_0] (m_law x_0) := by
  obtain ⟨n, rfl⟩ : ∃ k, n = k + 1 := ⟨n - 1, by omega⟩
  have hn : 9 ≤ n := Nat.le_of_succ_le_succ hn
  have h : SQ (calls tab n) t_law [] [.sh false x_0, .no] (m_law x_0) (PF 1 I1 (fun _ _ => True)) := by
    unfold m_law
    exact sq_retP (v_p1 (xv_a (xn_v (e_lcM (Q0 := [.sh false x_0, .no]) (i_rng1 (v_p2 (xv_a (xb_v e_con)) (xv_a (v_p2 (xv_a (v_p1 (xv_a (xb_v (e_var (x := x_0)))))) (xv_a (xb_v e_con)))))) (fun d2058 => tn1_of (Fp := fun b2060 => [.sh false x_0, .sh false b2060]) (Fe := fun b2060 _ => [.sh false x_0, .sh false b2060]) (xl_nm (F := fun z2059 => [.sh false x_0, .sh false z2059])) (fun b2060 => (xb_v (c_O (c2_n (xb_v (e_var (x := x_0))) (xb_v (e_var (x := b2060))) (fun x0 x1 => r__law_begun (lv rfl hn) x0 x1)) (fun x => r__law_right (lv rfl hn) false x))))))))) (fun _ => pf_ret (hB := trivial))
  exact fv_of (d := d_law) rfl rfl h.r
end M

set_option Elab.async false
set_option linter.all false
set_option maxRecDepth 100000
set_option maxHeartbeats 8000000
namespace M
open PySem L2 PyProof.Rows SlX
/-- the plain law -/
def Plain : Prop := ∀ ns : List Int, ns.length ≤ 63 → (∀ z ∈ ns, Builtin.Int.intBits z ≤ 1048576) → m_law (scr ns) = .ok (.bl true)
theorem all_mk (plain : Plain) {w : World} {K : PySem.W.Frag} {h : Heap} {mg : Str → Option Value} {fa a__law_cast0 a__law_any_of0 a__law_number0 a__law_grids0 a_is_integer0 a_are_integers0 a_is_table0 a_wrong_table0 i_Lot0 a_written_integer0 a_text_row0 a_text_lot0 a_Lot_read0 a_Lot_size0 a_lot_lines0 a_Lot_str0 a_Lot_text0 a__law_lines0 a__law_sheet0 a__law_built0 a_Lot_tables0 a_Lot_len0 a__law_thing0 a__law_near0 a_Lot_eq0 a__law_right0 a__law_begun0 a_law0 C_Lot p_Lot_read p_Lot_size p_Lot_text p_Lot_tables sp_Lot_own_tables : Addr} (X : K.In h) (G : h.Ns mainGlobals mg) (hfa : mg "law" = some (.ref fa))
    {oc__law_cast kV__law_cast dc__law_cast pm__law_cast cd__law_cast ct__law_cast : Value} {od__law_cast an__law_cast : Option Addr} {sl__law_cast : Array (Option Value)}
    {oc__law_any_of kV__law_any_of dc__law_any_of pm__law_any_of cd__law_any_of ct__law_any_of : Value} {od__law_any_of an__law_any_of : Option Addr} {sl__law_any_of : Array (Option Value)}
    {oc__law_number kV__law_number dc__law_number pm__law_number cd__law_number ct__law_number : Value} {od__law_number an__law_number : Option Addr} {sl__law_number : Array (Option Value)}
    {oc__law_grids kV__law_grids dc__law_grids pm__law_grids cd__law_grids ct__law_grids : Value} {od__law_grids an__law_grids : Option Addr} {sl__law_grids : Array (Option Value)}
    {oc_is_integer kV_is_integer dc_is_integer pm_is_integer cd_is_integer ct_is_integer : Value} {od_is_integer an_is_integer : Option Addr} {sl_is_integer : Array (Option Value)}
    {oc_are_integers kV_are_integers dc_are_integers pm_are_integers cd_are_integers ct_are_integers : Value} {od_are_integers an_are_integers : Option Addr} {sl_are_integers : Array (Option Value)}
    {oc_is_table kV_is_table dc_is_table pm_is_table cd_is_table ct_is_table : Value} {od_is_table an_is_table : Option Addr} {sl_is_table : Array (Option Value)}
    {oc_wrong_table kV_wrong_table dc_wrong_table pm_wrong_table cd_wrong_table ct_wrong_table : Value} {od_wrong_table an_wrong_table : Option Addr} {sl_wrong_table : Array (Option Value)}
    {oc_Lot_init kV_Lot_init dc_Lot_init pm_Lot_init cd_Lot_init ct_Lot_init : Value} {od_Lot_init an_Lot_init : Option Addr} {sl_Lot_init : Array (Option Value)}
    {oc_written_integer kV_written_integer dc_written_integer pm_written_integer cd_written_integer ct_written_integer : Value} {od_written_integer an_written_integer : Option Addr} {sl_written_integer : Array (Option Value)}
    {oc_text_row kV_text_row dc_text_row pm_text_row cd_text_row ct_text_row : Value} {od_text_row an_text_row : Option Addr} {sl_text_row : Array (Option Value)}
    {oc_text_lot kV_text_lot dc_text_lot pm_text_lot cd_text_lot ct_text_lot : Value} {od_text_lot an_text_lot : Option Addr} {sl_text_lot : Array (Option Value)}
    {oc_Lot_read kV_Lot_read dc_Lot_read pm_Lot_read cd_Lot_read ct_Lot_read : Value} {od_Lot_read an_Lot_read : Option Addr} {sl_Lot_read : Array (Option Value)}
    {oc_Lot_size kV_Lot_size dc_Lot_size pm_Lot_size cd_Lot_size ct_Lot_size : Value} {od_Lot_size an_Lot_size : Option Addr} {sl_Lot_size : Array (Option Value)}
    {oc_lot_lines kV_lot_lines dc_lot_lines pm_lot_lines cd_lot_lines ct_lot_lines : Value} {od_lot_lines an_lot_lines : Option Addr} {sl_lot_lines : Array (Option Value)}
    {oc_Lot_str kV_Lot_str dc_Lot_str pm_Lot_str cd_Lot_str ct_Lot_str : Value} {od_Lot_str an_Lot_str : Option Addr} {sl_Lot_str : Array (Option Value)}
    {oc_Lot_text kV_Lot_text dc_Lot_text pm_Lot_text cd_Lot_text ct_Lot_text : Value} {od_Lot_text an_Lot_text : Option Addr} {sl_Lot_text : Array (Option Value)}
    {oc__law_lines kV__law_lines dc__law_lines pm__law_lines cd__law_lines ct__law_lines : Value} {od__law_lines an__law_lines : Option Addr} {sl__law_lines : Array (Option Value)}
    {oc__law_sheet kV__law_sheet dc__law_sheet pm__law_sheet cd__law_sheet ct__law_sheet : Value} {od__law_sheet an__law_sheet : Option Addr} {sl__law_sheet : Array (Option Value)}
    {oc__law_built kV__law_built dc__law_built pm__law_built cd__law_built ct__law_built : Value} {od__law_built an__law_built : Option Addr} {sl__law_built : Array (Option Value)}
    {oc_Lot_tables kV_Lot_tables dc_Lot_tables pm_Lot_tables cd_Lot_tables ct_Lot_tables : Value} {od_Lot_tables an_Lot_tables : Option Addr} {sl_Lot_tables : Array (Option Value)}
    {oc_Lot_len kV_Lot_len dc_Lot_len pm_Lot_len cd_Lot_len ct_Lot_len : Value} {od_Lot_len an_Lot_len : Option Addr} {sl_Lot_len : Array (Option Value)}
    {oc__law_thing kV__law_thing dc__law_thing pm__law_thing cd__law_thing ct__law_thing : Value} {od__law_thing an__law_thing : Option Addr} {sl__law_thing : Array (Option Value)}
    {oc__law_near kV__law_near dc__law_near pm__law_near cd__law_near ct__law_near : Value} {od__law_near an__law_near : Option Addr} {sl__law_near : Array (Option Value)}
    {oc_Lot_eq kV_Lot_eq dc_Lot_eq pm_Lot_eq cd_Lot_eq ct_Lot_eq : Value} {od_Lot_eq an_Lot_eq : Option Addr} {sl_Lot_eq : Array (Option Value)}
    {oc__law_right kV__law_right dc__law_right pm__law_right cd__law_right ct__law_right : Value} {od__law_right an__law_right : Option Addr} {sl__law_right : Array (Option Value)}
    {oc__law_begun kV__law_begun dc__law_begun pm__law_begun cd__law_begun ct__law_begun : Value} {od__law_begun an__law_begun : Option Addr} {sl__law_begun : Array (Option Value)}
    {oc_law kV_law dc_law pm_law cd_law ct_law : Value} {od_law an_law : Option Addr} {sl_law : Array (Option Value)}
    {rest_Lot_read rest_Lot_size rest_Lot_text rest_Lot_tables : List Value}
    {t_DIGITS t_MOST_NUMBER t_MOST_SIZE t_MOST_TABLES : Tok}
    (aC_Lot : PySem.W.nsIn K mainGlobals "Lot" = some (some (.ref C_Lot)))
    (a__law_cast : PySem.W.nsIn K mainGlobals "_law_cast" = some (some (.ref a__law_cast0)))
    (l__law_cast : K.lookup a__law_cast0 = some ⟨oc__law_cast, od__law_cast, .func (PySem.W.fnOf "_law_cast" "_law_cast" (defArgs s__law_cast) (defBody s__law_cast) (defScope s__law_cast) .none kV__law_cast dc__law_cast pm__law_cast an__law_cast cd__law_cast ct__law_cast), sl__law_cast⟩)
    (c__law_cast : PySem.W.codeIn K cd__law_cast "_law_cast" = true)
    (k__law_cast : PySem.W.keepIn K (.ref a__law_cast0) = true)
    (a__law_any_of : PySem.W.nsIn K mainGlobals "_law_any_of" = some (some (.ref a__law_any_of0)))
    (l__law_any_of : K.lookup a__law_any_of0 = some ⟨oc__law_any_of, od__law_any_of, .func (PySem.W.fnOf "_law_any_of" "_law_any_of" (defArgs s__law_any_of) (defBody s__law_any_of) (defScope s__law_any_of) .none kV__law_any_of dc__law_any_of pm__law_any_of an__law_any_of cd__law_any_of ct__law_any_of), sl__law_any_of⟩)
    (c__law_any_of : PySem.W.codeIn K cd__law_any_of "_law_any_of" = true)
    (k__law_any_of : PySem.W.keepIn K (.ref a__law_any_of0) = true)
    (a__law_number : PySem.W.nsIn K mainGlobals "_law_number" = some (some (.ref a__law_number0)))
    (l__law_number : K.lookup a__law_number0 = some ⟨oc__law_number, od__law_number, .func (PySem.W.fnOf "_law_number" "_law_number" (defArgs s__law_number) (defBody s__law_number) (defScope s__law_number) .none kV__law_number dc__law_number pm__law_number an__law_number cd__law_number ct__law_number), sl__law_number⟩)
    (c__law_number : PySem.W.codeIn K cd__law_number "_law_number" = true)
    (k__law_number : PySem.W.keepIn K (.ref a__law_number0) = true)
    (a__law_grids : PySem.W.nsIn K mainGlobals "_law_grids" = some (some (.ref a__law_grids0)))
    (l__law_grids : K.lookup a__law_grids0 = some ⟨oc__law_grids, od__law_grids, .func (PySem.W.fnOf "_law_grids" "_law_grids" (defArgs s__law_grids) (defBody s__law_grids) (defScope s__law_grids) .none kV__law_grids dc__law_grids pm__law_grids an__law_grids cd__law_grids ct__law_grids), sl__law_grids⟩)
    (c__law_grids : PySem.W.codeIn K cd__law_grids "_law_grids" = true)
    (k__law_grids : PySem.W.keepIn K (.ref a__law_grids0) = true)
    (a_is_integer : PySem.W.nsIn K mainGlobals "is_integer" = some (some (.ref a_is_integer0)))
    (l_is_integer : K.lookup a_is_integer0 = some ⟨oc_is_integer, od_is_integer, .func (PySem.W.fnOf "is_integer" "is_integer" (defArgs s_is_integer) (defBody s_is_integer) (defScope s_is_integer) .none kV_is_integer dc_is_integer pm_is_integer an_is_integer cd_is_integer ct_is_integer), sl_is_integer⟩)
    (c_is_integer : PySem.W.codeIn K cd_is_integer "is_integer" = true)
    (k_is_integer : PySem.W.keepIn K (.ref a_is_integer0) = true)
    (a_are_integers : PySem.W.nsIn K mainGlobals "are_integers" = some (some (.ref a_are_integers0)))
    (l_are_integers : K.lookup a_are_integers0 = some ⟨oc_are_integers, od_are_integers, .func (PySem.W.fnOf "are_integers" "are_integers" (defArgs s_are_integers) (defBody s_are_integers) (defScope s_are_integers) .none kV_are_integers dc_are_integers pm_are_integers an_are_integers cd_are_integers ct_are_integers), sl_are_integers⟩)
    (c_are_integers : PySem.W.codeIn K cd_are_integers "are_integers" = true)
    (k_are_integers : PySem.W.keepIn K (.ref a_are_integers0) = true)
    (a_is_table : PySem.W.nsIn K mainGlobals "is_table" = some (some (.ref a_is_table0)))
    (l_is_table : K.lookup a_is_table0 = some ⟨oc_is_table, od_is_table, .func (PySem.W.fnOf "is_table" "is_table" (defArgs s_is_table) (defBody s_is_table) (defScope s_is_table) .none kV_is_table dc_is_table pm_is_table an_is_table cd_is_table ct_is_table), sl_is_table⟩)
    (c_is_table : PySem.W.codeIn K cd_is_table "is_table" = true)
    (k_is_table : PySem.W.keepIn K (.ref a_is_table0) = true)
    (a_wrong_table : PySem.W.nsIn K mainGlobals "wrong_table" = some (some (.ref a_wrong_table0)))
    (l_wrong_table : K.lookup a_wrong_table0 = some ⟨oc_wrong_table, od_wrong_table, .func (PySem.W.fnOf "wrong_table" "wrong_table" (defArgs s_wrong_table) (defBody s_wrong_table) (defScope s_wrong_table) .none kV_wrong_table dc_wrong_table pm_wrong_table an_wrong_table cd_wrong_table ct_wrong_table), sl_wrong_table⟩)
    (c_wrong_table : PySem.W.codeIn K cd_wrong_table "wrong_table" = true)
    (k_wrong_table : PySem.W.keepIn K (.ref a_wrong_table0) = true)
    (a_Lot_init : PySem.W.findIn K (.ref C_Lot) "__init__" = some (some (.ref i_Lot0)))
    (l_Lot_init : K.lookup i_Lot0 = some ⟨oc_Lot_init, od_Lot_init, .func (PySem.W.fnOf "__init__" "Lot.__init__" (defArgs s_Lot_init) (defBody s_Lot_init) (defScope s_Lot_init) .none kV_Lot_init dc_Lot_init pm_Lot_init an_Lot_init cd_Lot_init ct_Lot_init), sl_Lot_init⟩)
    (c_Lot_init : PySem.W.codeIn K cd_Lot_init "Lot.__init__" = true)
    (k_Lot_init : PySem.W.keepIn K (.ref i_Lot0) = true)
    (a_written_integer : PySem.W.nsIn K mainGlobals "written_integer" = some (some (.ref a_written_integer0)))
    (l_written_integer : K.lookup a_written_integer0 = some ⟨oc_written_integer, od_written_integer, .func (PySem.W.fnOf "written_integer" "written_integer" (defArgs s_written_integer) (defBody s_written_integer) (defScope s_written_integer) .none kV_written_integer dc_written_integer pm_written_integer an_written_integer cd_written_integer ct_written_integer), sl_written_integer⟩)
    (c_written_integer : PySem.W.codeIn K cd_written_integer "written_integer" = true)
    (k_written_integer : PySem.W.keepIn K (.ref a_written_integer0) = true)
    (a_text_row : PySem.W.nsIn K mainGlobals "text_row" = some (some (.ref a_text_row0)))
    (l_text_row : K.lookup a_text_row0 = some ⟨oc_text_row, od_text_row, .func (PySem.W.fnOf "text_row" "text_row" (defArgs s_text_row) (defBody s_text_row) (defScope s_text_row) .none kV_text_row dc_text_row pm_text_row an_text_row cd_text_row ct_text_row), sl_text_row⟩)
    (c_text_row : PySem.W.codeIn K cd_text_row "text_row" = true)
    (k_text_row : PySem.W.keepIn K (.ref a_text_row0) = true)
    (a_text_lot : PySem.W.nsIn K mainGlobals "text_lot" = some (some (.ref a_text_lot0)))
    (l_text_lot : K.lookup a_text_lot0 = some ⟨oc_text_lot, od_text_lot, .func (PySem.W.fnOf "text_lot" "text_lot" (defArgs s_text_lot) (defBody s_text_lot) (defScope s_text_lot) .none kV_text_lot dc_text_lot pm_text_lot an_text_lot cd_text_lot ct_text_lot), sl_text_lot⟩)
    (c_text_lot : PySem.W.codeIn K cd_text_lot "text_lot" = true)
    (k_text_lot : PySem.W.keepIn K (.ref a_text_lot0) = true)
    (rd_Lot_read : PySem.W.readsIn K C_Lot (.type "type") = true)
    (ga_Lot_read : PySem.W.specialIn K (.ref C_Lot) "__getattribute__" = some (some (.builtin "type.__getattribute__")))
    (a_Lot_read : PySem.W.findCls K (.ref C_Lot) (.type "type") "read" = some (.get (.builtin "classmethod.__get__") (.ref p_Lot_read) .none (.ref C_Lot)))
    (r_Lot_read : PySem.W.recIn K p_Lot_read "classmethod" = some (.ref a_Lot_read0 :: rest_Lot_read))
    (fi_Lot_read : PySem.W.fnIn K a_Lot_read0 = true)
    (l_Lot_read : K.lookup a_Lot_read0 = some ⟨oc_Lot_read, od_Lot_read, .func (PySem.W.fnOf "read" "Lot.read" (defArgs s_Lot_read) (defBody s_Lot_read) (defScope s_Lot_read) .none kV_Lot_read dc_Lot_read pm_Lot_read an_Lot_read cd_Lot_read ct_Lot_read), sl_Lot_read⟩)
    (c_Lot_read : PySem.W.codeIn K cd_Lot_read "Lot.read" = true)
    (k_Lot_read : PySem.W.keepIn K (.ref a_Lot_read0) = true)
    (a_Lot_size : PySem.W.findIn K (.ref C_Lot) "size" = some (some (.ref p_Lot_size)))
    (e_Lot_size : PySem.W.specialIn K (.ref p_Lot_size) "__get__" = some (some (.builtin "property.__get__")))
    (t_Lot_size : PySem.W.takesIn K (.ref p_Lot_size) = some true)
    (r_Lot_size : PySem.W.recIn K p_Lot_size "property" = some (.ref a_Lot_size0 :: rest_Lot_size))
    (l_Lot_size : K.lookup a_Lot_size0 = some ⟨oc_Lot_size, od_Lot_size, .func (PySem.W.fnOf "size" "Lot.size" (defArgs s_Lot_size) (defBody s_Lot_size) (defScope s_Lot_size) .none kV_Lot_size dc_Lot_size pm_Lot_size an_Lot_size cd_Lot_size ct_Lot_size), sl_Lot_size⟩)
    (c_Lot_size : PySem.W.codeIn K cd_Lot_size "Lot.size" = true)
    (k_Lot_size : PySem.W.keepIn K (.ref a_Lot_size0) = true)
    (a_lot_lines : PySem.W.nsIn K mainGlobals "lot_lines" = some (some (.ref a_lot_lines0)))
    (l_lot_lines : K.lookup a_lot_lines0 = some ⟨oc_lot_lines, od_lot_lines, .func (PySem.W.fnOf "lot_lines" "lot_lines" (defArgs s_lot_lines) (defBody s_lot_lines) (defScope s_lot_lines) .none kV_lot_lines dc_lot_lines pm_lot_lines an_lot_lines cd_lot_lines ct_lot_lines), sl_lot_lines⟩)
    (c_lot_lines : PySem.W.codeIn K cd_lot_lines "lot_lines" = true)
    (k_lot_lines : PySem.W.keepIn K (.ref a_lot_lines0) = true)
    (a_Lot_str : PySem.W.findIn K (.ref C_Lot) "__str__" = some (some (.ref a_Lot_str0)))
    (if_Lot_str : PySem.W.isFn K (.ref a_Lot_str0) = true)
    (l_Lot_str : K.lookup a_Lot_str0 = some ⟨oc_Lot_str, od_Lot_str, .func (PySem.W.fnOf "__str__" "Lot.__str__" (defArgs s_Lot_str) (defBody s_Lot_str) (defScope s_Lot_str) .none kV_Lot_str dc_Lot_str pm_Lot_str an_Lot_str cd_Lot_str ct_Lot_str), sl_Lot_str⟩)
    (c_Lot_str : PySem.W.codeIn K cd_Lot_str "Lot.__str__" = true)
    (k_Lot_str : PySem.W.keepIn K (.ref a_Lot_str0) = true)
    (a_Lot_text : PySem.W.findIn K (.ref C_Lot) "text" = some (some (.ref p_Lot_text)))
    (e_Lot_text : PySem.W.specialIn K (.ref p_Lot_text) "__get__" = some (some (.builtin "property.__get__")))
    (t_Lot_text : PySem.W.takesIn K (.ref p_Lot_text) = some true)
    (r_Lot_text : PySem.W.recIn K p_Lot_text "property" = some (.ref a_Lot_text0 :: rest_Lot_text))
    (l_Lot_text : K.lookup a_Lot_text0 = some ⟨oc_Lot_text, od_Lot_text, .func (PySem.W.fnOf "text" "Lot.text" (defArgs s_Lot_text) (defBody s_Lot_text) (defScope s_Lot_text) .none kV_Lot_text dc_Lot_text pm_Lot_text an_Lot_text cd_Lot_text ct_Lot_text), sl_Lot_text⟩)
    (c_Lot_text : PySem.W.codeIn K cd_Lot_text "Lot.text" = true)
    (k_Lot_text : PySem.W.keepIn K (.ref a_Lot_text0) = true)
    (a__law_lines : PySem.W.nsIn K mainGlobals "_law_lines" = some (some (.ref a__law_lines0)))
    (l__law_lines : K.lookup a__law_lines0 = some ⟨oc__law_lines, od__law_lines, .func (PySem.W.fnOf "_law_lines" "_law_lines" (defArgs s__law_lines) (defBody s__law_lines) (defScope s__law_lines) .none kV__law_lines dc__law_lines pm__law_lines an__law_lines cd__law_lines ct__law_lines), sl__law_lines⟩)
    (c__law_lines : PySem.W.codeIn K cd__law_lines "_law_lines" = true)
    (k__law_lines : PySem.W.keepIn K (.ref a__law_lines0) = true)
    (a__law_sheet : PySem.W.nsIn K mainGlobals "_law_sheet" = some (some (.ref a__law_sheet0)))
    (l__law_sheet : K.lookup a__law_sheet0 = some ⟨oc__law_sheet, od__law_sheet, .func (PySem.W.fnOf "_law_sheet" "_law_sheet" (defArgs s__law_sheet) (defBody s__law_sheet) (defScope s__law_sheet) .none kV__law_sheet dc__law_sheet pm__law_sheet an__law_sheet cd__law_sheet ct__law_sheet), sl__law_sheet⟩)
    (c__law_sheet : PySem.W.codeIn K cd__law_sheet "_law_sheet" = true)
    (k__law_sheet : PySem.W.keepIn K (.ref a__law_sheet0) = true)
    (a__law_built : PySem.W.nsIn K mainGlobals "_law_built" = some (some (.ref a__law_built0)))
    (l__law_built : K.lookup a__law_built0 = some ⟨oc__law_built, od__law_built, .func (PySem.W.fnOf "_law_built" "_law_built" (defArgs s__law_built) (defBody s__law_built) (defScope s__law_built) .none kV__law_built dc__law_built pm__law_built an__law_built cd__law_built ct__law_built), sl__law_built⟩)
    (c__law_built : PySem.W.codeIn K cd__law_built "_law_built" = true)
    (k__law_built : PySem.W.keepIn K (.ref a__law_built0) = true)
    (a_Lot_tables : PySem.W.findIn K (.ref C_Lot) "tables" = some (some (.ref p_Lot_tables)))
    (e_Lot_tables : PySem.W.specialIn K (.ref p_Lot_tables) "__get__" = some (some (.builtin "property.__get__")))
    (t_Lot_tables : PySem.W.takesIn K (.ref p_Lot_tables) = some true)
    (r_Lot_tables : PySem.W.recIn K p_Lot_tables "property" = some (.ref a_Lot_tables0 :: rest_Lot_tables))
    (l_Lot_tables : K.lookup a_Lot_tables0 = some ⟨oc_Lot_tables, od_Lot_tables, .func (PySem.W.fnOf "tables" "Lot.tables" (defArgs s_Lot_tables) (defBody s_Lot_tables) (defScope s_Lot_tables) .none kV_Lot_tables dc_Lot_tables pm_Lot_tables an_Lot_tables cd_Lot_tables ct_Lot_tables), sl_Lot_tables⟩)
    (c_Lot_tables : PySem.W.codeIn K cd_Lot_tables "Lot.tables" = true)
    (k_Lot_tables : PySem.W.keepIn K (.ref a_Lot_tables0) = true)
    (a_Lot_len : PySem.W.findIn K (.ref C_Lot) "__len__" = some (some (.ref a_Lot_len0)))
    (if_Lot_len : PySem.W.isFn K (.ref a_Lot_len0) = true)
    (l_Lot_len : K.lookup a_Lot_len0 = some ⟨oc_Lot_len, od_Lot_len, .func (PySem.W.fnOf "__len__" "Lot.__len__" (defArgs s_Lot_len) (defBody s_Lot_len) (defScope s_Lot_len) .none kV_Lot_len dc_Lot_len pm_Lot_len an_Lot_len cd_Lot_len ct_Lot_len), sl_Lot_len⟩)
    (c_Lot_len : PySem.W.codeIn K cd_Lot_len "Lot.__len__" = true)
    (k_Lot_len : PySem.W.keepIn K (.ref a_Lot_len0) = true)
    (a__law_thing : PySem.W.nsIn K mainGlobals "_law_thing" = some (some (.ref a__law_thing0)))
    (l__law_thing : K.lookup a__law_thing0 = some ⟨oc__law_thing, od__law_thing, .func (PySem.W.fnOf "_law_thing" "_law_thing" (defArgs s__law_thing) (defBody s__law_thing) (defScope s__law_thing) .none kV__law_thing dc__law_thing pm__law_thing an__law_thing cd__law_thing ct__law_thing), sl__law_thing⟩)
    (c__law_thing : PySem.W.codeIn K cd__law_thing "_law_thing" = true)
    (k__law_thing : PySem.W.keepIn K (.ref a__law_thing0) = true)
    (a__law_near : PySem.W.nsIn K mainGlobals "_law_near" = some (some (.ref a__law_near0)))
    (l__law_near : K.lookup a__law_near0 = some ⟨oc__law_near, od__law_near, .func (PySem.W.fnOf "_law_near" "_law_near" (defArgs s__law_near) (defBody s__law_near) (defScope s__law_near) .none kV__law_near dc__law_near pm__law_near an__law_near cd__law_near ct__law_near), sl__law_near⟩)
    (c__law_near : PySem.W.codeIn K cd__law_near "_law_near" = true)
    (k__law_near : PySem.W.keepIn K (.ref a__law_near0) = true)
    (a_Lot_eq : PySem.W.findIn K (.ref C_Lot) "__eq__" = some (some (.ref a_Lot_eq0)))
    (if_Lot_eq : PySem.W.isFn K (.ref a_Lot_eq0) = true)
    (l_Lot_eq : K.lookup a_Lot_eq0 = some ⟨oc_Lot_eq, od_Lot_eq, .func (PySem.W.fnOf "__eq__" "Lot.__eq__" (defArgs s_Lot_eq) (defBody s_Lot_eq) (defScope s_Lot_eq) .none kV_Lot_eq dc_Lot_eq pm_Lot_eq an_Lot_eq cd_Lot_eq ct_Lot_eq), sl_Lot_eq⟩)
    (c_Lot_eq : PySem.W.codeIn K cd_Lot_eq "Lot.__eq__" = true)
    (k_Lot_eq : PySem.W.keepIn K (.ref a_Lot_eq0) = true)
    (a__law_right : PySem.W.nsIn K mainGlobals "_law_right" = some (some (.ref a__law_right0)))
    (l__law_right : K.lookup a__law_right0 = some ⟨oc__law_right, od__law_right, .func (PySem.W.fnOf "_law_right" "_law_right" (defArgs s__law_right) (defBody s__law_right) (defScope s__law_right) .none kV__law_right dc__law_right pm__law_right an__law_right cd__law_right ct__law_right), sl__law_right⟩)
    (c__law_right : PySem.W.codeIn K cd__law_right "_law_right" = true)
    (k__law_right : PySem.W.keepIn K (.ref a__law_right0) = true)
    (a__law_begun : PySem.W.nsIn K mainGlobals "_law_begun" = some (some (.ref a__law_begun0)))
    (l__law_begun : K.lookup a__law_begun0 = some ⟨oc__law_begun, od__law_begun, .func (PySem.W.fnOf "_law_begun" "_law_begun" (defArgs s__law_begun) (defBody s__law_begun) (defScope s__law_begun) .none kV__law_begun dc__law_begun pm__law_begun an__law_begun cd__law_begun ct__law_begun), sl__law_begun⟩)
    (c__law_begun : PySem.W.codeIn K cd__law_begun "_law_begun" = true)
    (k__law_begun : PySem.W.keepIn K (.ref a__law_begun0) = true)
    (a_law : PySem.W.nsIn K mainGlobals "law" = some (some (.ref a_law0)))
    (l_law : K.lookup a_law0 = some ⟨oc_law, od_law, .func (PySem.W.fnOf "law" "law" (defArgs s_law) (defBody s_law) (defScope s_law) .none kV_law dc_law pm_law an_law cd_law ct_law), sl_law⟩)
    (c_law : PySem.W.codeIn K cd_law "law" = true)
    (k_law : PySem.W.keepIn K (.ref a_law0) = true)
    (if_Lot : PySem.W.isFn K (.ref i_Lot0) = true)
    (mk_Lot : PySem.W.makesIn K C_Lot = true)
    (kc_Lot : PySem.W.keepIn K (.ref C_Lot) = true)
    (pg_Lot : PySem.W.plainGet K C_Lot Str.empty = true)
    (ic_Lot : PySem.W.isClsIn K C_Lot = true)
    (po_Lot : PySem.W.plainOver K C_Lot = true)
    (sa_Lot : PySem.W.findIn K (.ref C_Lot) "__setattr__" = some (some (.builtin "object.__setattr__")))
    (ca_Lot : PySem.W.findIn K (.ref C_Lot) "__class__" = some (some (.builtin "object.__class__")))
    (cm_Lot : PySem.W.mroIn K C_Lot (.type "object") = some true)
    (ne_Lot : PySem.W.findIn K (.ref C_Lot) "__ne__" = some (some (.builtin "object.__ne__")))
    (sf_Lot_own_tables : PySem.W.findIn K (.ref C_Lot) "own_tables" = some (some (.ref sp_Lot_own_tables)))
    (sg_Lot_own_tables : PySem.W.specialIn K (.ref sp_Lot_own_tables) "__get__" = some (some (.builtin "member_descriptor.__get__")))
    (st_Lot_own_tables : PySem.W.takesIn K (.ref sp_Lot_own_tables) = some true)
    (sy_Lot_own_tables : PySem.W.typeIn K (.ref sp_Lot_own_tables) = some (.type "member_descriptor"))
    (sx_Lot_own_tables : PySem.W.slotIn K sp_Lot_own_tables C_Lot = some 0)
    (kt_Lot_int : PySem.W.kitOne K (.ref C_Lot) (.type "int") = some false)
    (kt_Lot_str : PySem.W.kitOne K (.ref C_Lot) (.type "str") = some false)
    (kt_Lot_tuple : PySem.W.kitOne K (.ref C_Lot) (.type "tuple") = some false)
    (kt_Lot_list : PySem.W.kitOne K (.ref C_Lot) (.type "list") = some false)
    (kt_Lot_bool : PySem.W.kitOne K (.ref C_Lot) (.type "bool") = some false)
    (kb_Lot_int : PySem.W.kitOne K (.type "int") (.ref C_Lot) = some false)
    (kb_Lot_str : PySem.W.kitOne K (.type "str") (.ref C_Lot) = some false)
    (kb_Lot_tuple : PySem.W.kitOne K (.type "tuple") (.ref C_Lot) = some false)
    (kb_Lot_list : PySem.W.kitOne K (.type "list") (.ref C_Lot) = some false)
    (kb_Lot_bool : PySem.W.kitOne K (.type "bool") (.ref C_Lot) = some false)
    (kb_Lot_NoneType : PySem.W.kitOne K (.type "NoneType") (.ref C_Lot) = some false)
    (kb_Lot_dict : PySem.W.kitOne K (.type "dict") (.ref C_Lot) = some false)
    (kc_Lot_Lot : PySem.W.kitOne K (.ref C_Lot) (.ref C_Lot) = some true)
    (cn : PySem.W.specialIn K (.builtin "object.__class__") "__get__" = some (some (.builtin "getset_descriptor.__get__")))
    (ct : PySem.W.takesIn K (.builtin "object.__class__") = some true)
    (sq_Lot_int : PySem.W.subIn K (.ref C_Lot) (.type "int") = some false)
    (sq_Lot_str : PySem.W.subIn K (.ref C_Lot) (.type "str") = some false)
    (sq_Lot_tuple : PySem.W.subIn K (.ref C_Lot) (.type "tuple") = some false)
    (sq_Lot_list : PySem.W.subIn K (.ref C_Lot) (.type "list") = some false)
    (sq_Lot_bool : PySem.W.subIn K (.ref C_Lot) (.type "bool") = some false)
    (sq_Lot_NoneType : PySem.W.subIn K (.ref C_Lot) (.type "NoneType") = some false)
    (sq_Lot_dict : PySem.W.subIn K (.ref C_Lot) (.type "dict") = some false)
    (n_abs : PySem.W.nsIn K mainGlobals "abs" = some none)
    (n_all : PySem.W.nsIn K mainGlobals "all" = some none)
    (n_bool : PySem.W.nsIn K mainGlobals "bool" = some none)
    (n_divmod : PySem.W.nsIn K mainGlobals "divmod" = some none)
    (n_enumerate : PySem.W.nsIn K mainGlobals "enumerate" = some none)
    (n_int : PySem.W.nsIn K mainGlobals "int" = some none)
    (n_isinstance : PySem.W.nsIn K mainGlobals "isinstance" = some none)
    (n_len : PySem.W.nsIn K mainGlobals "len" = some none)
    (n_max : PySem.W.nsIn K mainGlobals "max" = some none)
    (n_min : PySem.W.nsIn K mainGlobals "min" = some none)
    (n_range : PySem.W.nsIn K mainGlobals "range" = some none)
    (n_repr : PySem.W.nsIn K mainGlobals "repr" = some none)
    (n_str : PySem.W.nsIn K mainGlobals "str" = some none)
    (n_tuple : PySem.W.nsIn K mainGlobals "tuple" = some none)
    (x_DIGITS : PySem.W.nsIn K mainGlobals "DIGITS" = some (some (.str "0123456789" t_DIGITS)))
    (x_MOST_NUMBER : PySem.W.nsIn K mainGlobals "MOST_NUMBER" = some (some (.int 1000000 t_MOST_NUMBER)))
    (x_MOST_SIZE : PySem.W.nsIn K mainGlobals "MOST_SIZE" = some (some (.int 4 t_MOST_SIZE)))
    (x_MOST_TABLES : PySem.W.nsIn K mainGlobals "MOST_TABLES" = some (some (.int 3 t_MOST_TABLES)))
    : ∃ fd : FuncData, (∀ (s : Shared) (v : Value), BindsTo s fd ⟨[v], []⟩ [("_law_script", v)]) ∧ ∀ base : Heap, K.In base → base.Ns mainGlobals mg → (∀ p ∈ ([] : List (Addr × Addr)), LamX.TabB base mg p.1 p.2) → FnA PySem.Challenge.rw_alltriangular_k09_lots_compared.prog w K mg base (L2.CX PySem.Challenge.rw_alltriangular_k09_lots_compared.prog w) (4 * lvl + 4) fa fd ["_law_script"] (spLaw K ([] : List (Addr × Str))) := by
  have e := hfa.symm.trans (PySem.W.mg_of X G a_law)
  cases e
  let cs0 : List (Addr × Addr) := ([] : List (Addr × Addr))
  let T0 : List (Addr × Str) := ([] : List (Addr × Str))
  let C : Nat → Addr := fun i => if i = 0 then C_Lot else 0
  have F__law_cast := fun_mk (st := s__law_cast) l__law_cast c__law_cast k__law_cast
  have B__law_cast := F__law_cast.binds (ps := ["_law_pail", "_law_many"]) fun _ _ _ _ _ _ us hl => match us, hl with | [_, _], _ => rfl
  have F__law_any_of := fun_mk (st := s__law_any_of) l__law_any_of c__law_any_of k__law_any_of
  have B__law_any_of := F__law_any_of.binds (ps := ["_law_pail", "_law_some"]) fun _ _ _ _ _ _ us hl => match us, hl with | [_, _], _ => rfl
  have F__law_number := fun_mk (st := s__law_number) l__law_number c__law_number k__law_number
  have B__law_number := F__law_number.binds (ps := ["_law_pail"]) fun _ _ _ _ _ _ us hl => match us, hl with | [_], _ => rfl
  have F__law_grids := fun_mk (st := s__law_grids) l__law_grids c__law_grids k__law_grids
  have B__law_grids := F__law_grids.binds (ps := ["_law_pail"]) fun _ _ _ _ _ _ us hl => match us, hl with | [_], _ => rfl
  have F_is_integer := fun_mk (st := s_is_integer) l_is_integer c_is_integer k_is_integer
  have B_is_integer := F_is_integer.binds (ps := ["value"]) fun _ _ _ _ _ _ us hl => match us, hl with | [_], _ => rfl
  have F_are_integers := fun_mk (st := s_are_integers) l_are_integers c_are_integers k_are_integers
  have B_are_integers := F_are_integers.binds (ps := ["value", "many"]) fun _ _ _ _ _ _ us hl => match us, hl with | [_, _], _ => rfl
  have F_is_table := fun_mk (st := s_is_table) l_is_table c_is_table k_is_table
  have B_is_table := F_is_table.binds (ps := ["value"]) fun _ _ _ _ _ _ us hl => match us, hl with | [_], _ => rfl
  have F_wrong_table := fun_mk (st := s_wrong_table) l_wrong_table c_wrong_table k_wrong_table
  have B_wrong_table := F_wrong_table.binds (ps := ["value"]) fun _ _ _ _ _ _ us hl => match us, hl with | [_], _ => rfl
  have F_Lot_init := fun_mk (st := s_Lot_init) l_Lot_init c_Lot_init k_Lot_init
  have B_Lot_init := F_Lot_init.binds (ps := ["self", "tables"]) fun _ _ _ _ _ _ us hl => match us, hl with | [_, _], _ => rfl
  have F_written_integer := fun_mk (st := s_written_integer) l_written_integer c_written_integer k_written_integer
  have B_written_integer := F_written_integer.binds (ps := ["word"]) fun _ _ _ _ _ _ us hl => match us, hl with | [_], _ => rfl
  have F_text_row := fun_mk (st := s_text_row) l_text_row c_text_row k_text_row
  have B_text_row := F_text_row.binds (ps := ["line"]) fun _ _ _ _ _ _ us hl => match us, hl with | [_], _ => rfl
  have F_text_lot := fun_mk (st := s_text_lot) l_text_lot c_text_lot k_text_lot
  have B_text_lot := F_text_lot.binds (ps := ["value"]) fun _ _ _ _ _ _ us hl => match us, hl with | [_], _ => rfl
  have F_Lot_read := fun_mk (st := s_Lot_read) l_Lot_read c_Lot_read k_Lot_read
  have B_Lot_read := F_Lot_read.binds (ps := ["cls", "text"]) fun _ _ _ _ _ _ us hl => match us, hl with | [_, _], _ => rfl
  have F_Lot_size := fun_mk (st := s_Lot_size) l_Lot_size c_Lot_size k_Lot_size
  have B_Lot_size := F_Lot_size.binds (ps := ["self"]) fun _ _ _ _ _ _ us hl => match us, hl with | [_], _ => rfl
  have F_lot_lines := fun_mk (st := s_lot_lines) l_lot_lines c_lot_lines k_lot_lines
  have B_lot_lines := F_lot_lines.binds (ps := ["lot"]) fun _ _ _ _ _ _ us hl => match us, hl with | [_], _ => rfl
  have F_Lot_str := fun_mk (st := s_Lot_str) l_Lot_str c_Lot_str k_Lot_str
  have B_Lot_str := F_Lot_str.binds (ps := ["self"]) fun _ _ _ _ _ _ us hl => match us, hl with | [_], _ => rfl
  have F_Lot_text := fun_mk (st := s_Lot_text) l_Lot_text c_Lot_text k_Lot_text
  have B_Lot_text := F_Lot_text.binds (ps := ["self"]) fun _ _ _ _ _ _ us hl => match us, hl with | [_], _ => rfl
  have F__law_lines := fun_mk (st := s__law_lines) l__law_lines c__law_lines k__law_lines
  have B__law_lines := F__law_lines.binds (ps := ["_law_grids_here"]) fun _ _ _ _ _ _ us hl => match us, hl with | [_], _ => rfl
  have F__law_sheet := fun_mk (st := s__law_sheet) l__law_sheet c__law_sheet k__law_sheet
  have B__law_sheet := F__law_sheet.binds (ps := ["_law_grids_here"]) fun _ _ _ _ _ _ us hl => match us, hl with | [_], _ => rfl
  have F__law_built := fun_mk (st := s__law_built) l__law_built c__law_built k__law_built
  have B__law_built := F__law_built.binds (ps := ["_law_pail", "_law_grids_here"]) fun _ _ _ _ _ _ us hl => match us, hl with | [_, _], _ => rfl
  have F_Lot_tables := fun_mk (st := s_Lot_tables) l_Lot_tables c_Lot_tables k_Lot_tables
  have B_Lot_tables := F_Lot_tables.binds (ps := ["self"]) fun _ _ _ _ _ _ us hl => match us, hl with | [_], _ => rfl
  have F_Lot_len := fun_mk (st := s_Lot_len) l_Lot_len c_Lot_len k_Lot_len
  have B_Lot_len := F_Lot_len.binds (ps := ["self"]) fun _ _ _ _ _ _ us hl => match us, hl with | [_], _ => rfl
  have F__law_thing := fun_mk (st := s__law_thing) l__law_thing c__law_thing k__law_thing
  have B__law_thing := F__law_thing.binds (ps := ["_law_pail"]) fun _ _ _ _ _ _ us hl => match us, hl with | [_], _ => rfl
  have F__law_near := fun_mk (st := s__law_near) l__law_near c__law_near k__law_near
  have B__law_near := F__law_near.binds (ps := ["_law_pail", "_law_grids_here"]) fun _ _ _ _ _ _ us hl => match us, hl with | [_, _], _ => rfl
  have F_Lot_eq := fun_mk (st := s_Lot_eq) l_Lot_eq c_Lot_eq k_Lot_eq
  have B_Lot_eq := F_Lot_eq.binds (ps := ["self", "other"]) fun _ _ _ _ _ _ us hl => match us, hl with | [_, _], _ => rfl
  have F__law_right := fun_mk (st := s__law_right) l__law_right c__law_right k__law_right
  have B__law_right := F__law_right.binds (ps := ["_law_pail"]) fun _ _ _ _ _ _ us hl => match us, hl with | [_], _ => rfl
  have F__law_begun := fun_mk (st := s__law_begun) l__law_begun c__law_begun k__law_begun
  have B__law_begun := F__law_begun.binds (ps := ["_law_script", "_law_turn"]) fun _ _ _ _ _ _ us hl => match us, hl with | [_, _], _ => rfl
  have F_law := fun_mk (st := s_law) l_law c_law k_law
  have B_law := F_law.binds (ps := ["_law_script"]) fun _ _ _ _ _ _ us hl => match us, hl with | [_], _ => rfl
  have F : Facts K mg C cs0 T0 a__law_cast0 a__law_any_of0 a__law_number0 a__law_grids0 a_is_integer0 a_are_integers0 a_is_table0 a_wrong_table0 i_Lot0 a_written_integer0 a_text_row0 a_text_lot0 a_Lot_read0 a_Lot_size0 a_lot_lines0 a_Lot_str0 a_Lot_text0 a__law_lines0 a__law_sheet0 a__law_built0 a_Lot_tables0 a_Lot_len0 a__law_thing0 a__law_near0 a_Lot_eq0 a__law_right0 a__law_begun0 fa := {
    d__law_cast := ⟨_, F__law_cast, B__law_cast⟩,
    g__law_cast := PySem.W.mg_of X G a__law_cast,
    k__law_cast := k__law_cast,
    d__law_any_of := ⟨_, F__law_any_of, B__law_any_of⟩,
    g__law_any_of := PySem.W.mg_of X G a__law_any_of,
    k__law_any_of := k__law_any_of,
    d__law_number := ⟨_, F__law_number, B__law_number⟩,
    g__law_number := PySem.W.mg_of X G a__law_number,
    k__law_number := k__law_number,
    d__law_grids := ⟨_, F__law_grids, B__law_grids⟩,
    g__law_grids := PySem.W.mg_of X G a__law_grids,
    k__law_grids := k__law_grids,
    d_is_integer := ⟨_, F_is_integer, B_is_integer⟩,
    g_is_integer := PySem.W.mg_of X G a_is_integer,
    k_is_integer := k_is_integer,
    d_are_integers := ⟨_, F_are_integers, B_are_integers⟩,
    g_are_integers := PySem.W.mg_of X G a_are_integers,
    k_are_integers := k_are_integers,
    d_is_table := ⟨_, F_is_table, B_is_table⟩,
    g_is_table := PySem.W.mg_of X G a_is_table,
    k_is_table := k_is_table,
    d_wrong_table := ⟨_, F_wrong_table, B_wrong_table⟩,
    g_wrong_table := PySem.W.mg_of X G a_wrong_table,
    k_wrong_table := k_wrong_table,
    d_Lot_init := ⟨_, F_Lot_init, B_Lot_init⟩,
    d_written_integer := ⟨_, F_written_integer, B_written_integer⟩,
    g_written_integer := PySem.W.mg_of X G a_written_integer,
    k_written_integer := k_written_integer,
    d_text_row := ⟨_, F_text_row, B_text_row⟩,
    g_text_row := PySem.W.mg_of X G a_text_row,
    k_text_row := k_text_row,
    d_text_lot := ⟨_, F_text_lot, B_text_lot⟩,
    g_text_lot := PySem.W.mg_of X G a_text_lot,
    k_text_lot := k_text_lot,
    d_Lot_read := ⟨_, F_Lot_read, B_Lot_read⟩,
    cm_Lot_read := ⟨.type "type", p_Lot_read, ⟨rd_Lot_read, ga_Lot_read⟩, ⟨a_Lot_read, ⟨rest_Lot_read, r_Lot_read⟩, fi_Lot_read⟩⟩,
    d_Lot_size := ⟨_, F_Lot_size, B_Lot_size⟩,
    p_Lot_size := ⟨p_Lot_size, a_Lot_size, e_Lot_size, t_Lot_size, rest_Lot_size, r_Lot_size⟩,
    d_lot_lines := ⟨_, F_lot_lines, B_lot_lines⟩,
    g_lot_lines := PySem.W.mg_of X G a_lot_lines,
    k_lot_lines := k_lot_lines,
    d_Lot_str := ⟨_, F_Lot_str, B_Lot_str⟩,
    o_Lot_str := ⟨a_Lot_str, if_Lot_str⟩,
    d_Lot_text := ⟨_, F_Lot_text, B_Lot_text⟩,
    p_Lot_text := ⟨p_Lot_text, a_Lot_text, e_Lot_text, t_Lot_text, rest_Lot_text, r_Lot_text⟩,
    d__law_lines := ⟨_, F__law_lines, B__law_lines⟩,
    g__law_lines := PySem.W.mg_of X G a__law_lines,
    k__law_lines := k__law_lines,
    d__law_sheet := ⟨_, F__law_sheet, B__law_sheet⟩,
    g__law_sheet := PySem.W.mg_of X G a__law_sheet,
    k__law_sheet := k__law_sheet,
    d__law_built := ⟨_, F__law_built, B__law_built⟩,
    g__law_built := PySem.W.mg_of X G a__law_built,
    k__law_built := k__law_built,
    d_Lot_tables := ⟨_, F_Lot_tables, B_Lot_tables⟩,
    p_Lot_tables := ⟨p_Lot_tables, a_Lot_tables, e_Lot_tables, t_Lot_tables, rest_Lot_tables, r_Lot_tables⟩,
    d_Lot_len := ⟨_, F_Lot_len, B_Lot_len⟩,
    o_Lot_len := ⟨a_Lot_len, if_Lot_len⟩,
    d__law_thing := ⟨_, F__law_thing, B__law_thing⟩,
    g__law_thing := PySem.W.mg_of X G a__law_thing,
    k__law_thing := k__law_thing,
    d__law_near := ⟨_, F__law_near, B__law_near⟩,
    g__law_near := PySem.W.mg_of X G a__law_near,
    k__law_near := k__law_near,
    d_Lot_eq := ⟨_, F_Lot_eq, B_Lot_eq⟩,
    o_Lot_eq := ⟨a_Lot_eq, if_Lot_eq⟩,
    d__law_right := ⟨_, F__law_right, B__law_right⟩,
    g__law_right := PySem.W.mg_of X G a__law_right,
    k__law_right := k__law_right,
    d__law_begun := ⟨_, F__law_begun, B__law_begun⟩,
    g__law_begun := PySem.W.mg_of X G a__law_begun,
    k__law_begun := k__law_begun,
    d_law := ⟨_, F_law, B_law⟩,
    g_law := PySem.W.mg_of X G a_law,
    k_law := k_law,
    dk_Lot_tables := ⟨_, F_Lot_init, kb_of F_Lot_init fun _ _ _ _ _ _ us ws h1 h2 => match us, ws, h1, h2 with | [_], [_], _, _ => rfl⟩,
    m_Lot := ⟨mk_Lot, a_Lot_init, if_Lot, kc_Lot⟩,
    h_Lot := PySem.W.mg_of X G aC_Lot,
    s_Lot_own_tables := ⟨sp_Lot_own_tables, sf_Lot_own_tables, sg_Lot_own_tables, st_Lot_own_tables, sy_Lot_own_tables, sx_Lot_own_tables, by decide⟩,
    co := ⟨fun i hi => match i, hi with | 0, _ => ⟨pg_Lot, ic_Lot, po_Lot, sa_Lot⟩, fun i hi => match i, hi with | 0, _ => ⟨ca_Lot, cn, ct, cm_Lot⟩, fun i hi t ht => match i, hi with | 0, _ => (by simp only [List.mem_cons, List.mem_nil_iff, or_false] at ht; rcases ht with rfl | rfl | rfl | rfl | rfl <;> first | exact kt_Lot_int | exact kt_Lot_str | exact kt_Lot_tuple | exact kt_Lot_list | exact kt_Lot_bool), fun i hi t ht => match i, hi with | 0, _ => (by simp only [List.mem_cons, List.mem_nil_iff, or_false] at ht; rcases ht with rfl | rfl | rfl | rfl | rfl | rfl | rfl <;> first | exact kb_Lot_int | exact kb_Lot_str | exact kb_Lot_tuple | exact kb_Lot_list | exact kb_Lot_bool | exact kb_Lot_NoneType | exact kb_Lot_dict), fun i j hi hj => match i, j, hi, hj with | 0, 0, _, _ => kc_Lot_Lot⟩,
    ne_Lot := ne_Lot,
    om_Lot := cm_Lot,
    rq_Lot := (fun t ht => by simp only [seven, List.mem_cons, List.mem_nil_iff, or_false] at ht; rcases ht with rfl | rfl | rfl | rfl | rfl | rfl | rfl <;> first | exact sq_Lot_int | exact sq_Lot_str | exact sq_Lot_tuple | exact sq_Lot_list | exact sq_Lot_bool | exact sq_Lot_NoneType | exact sq_Lot_dict),
    n_abs := PySem.W.mg_none_of X G n_abs,
    n_all := PySem.W.mg_none_of X G n_all,
    n_bool := PySem.W.mg_none_of X G n_bool,
    n_divmod := PySem.W.mg_none_of X G n_divmod,
    n_enumerate := PySem.W.mg_none_of X G n_enumerate,
    n_int := PySem.W.mg_none_of X G n_int,
    n_isinstance := PySem.W.mg_none_of X G n_isinstance,
    n_len := PySem.W.mg_none_of X G n_len,
    n_max := PySem.W.mg_none_of X G n_max,
    n_min := PySem.W.mg_none_of X G n_min,
    n_range := PySem.W.mg_none_of X G n_range,
    n_repr := PySem.W.mg_none_of X G n_repr,
    n_str := PySem.W.mg_none_of X G n_str,
    n_tuple := PySem.W.mg_none_of X G n_tuple,
    x_DIGITS := ⟨_, PySem.W.mg_of X G x_DIGITS⟩,
    x_MOST_NUMBER := ⟨_, PySem.W.mg_of X G x_MOST_NUMBER⟩,
    x_MOST_SIZE := ⟨_, PySem.W.mg_of X G x_MOST_SIZE⟩,
    x_MOST_TABLES := ⟨_, PySem.W.mg_of X G x_MOST_TABLES⟩ }
  refine ⟨_, fun s v => .of_eq rfl, fun base _ _ TB => (fno_next (W := Wj PySem.Challenge.rw_alltriangular_k09_lots_compared.prog w K mg base C T0 lvl) (j := lvl) (f := 1026) (d := d_law) (ps := ["_law_script"]) rfl rfl F_law sc_law rfl rfl (b_law (lev F TB lvl))).imp fun vs H Q E h => law_of (Z := Zj K C T0) (t := tab) (J := lvl + 1) (f := 1026) (fun ns h1 h2 => by have z := r_law (n := lvl + 1) (Nat.le_refl _) (scr ns); unfold FP FV at z; rw [plain ns h1 h2] at z; obtain ⟨r, q, e, rfl, _⟩ := z; exact ⟨q, e⟩) h⟩
theorem walk (plain : Plain) {q : Program} {loose : List Str} {XP : (Str → Option Value) → Heap → Prop} {YP : World → Heap → Prop} {d : DefRec} {K : Params → PySem.W.Frag} (hn : PySem.Challenge.rw_alltriangular_k09_lots_compared.most = some 63) (hdf : d.params.defaults = [])
    {cs0 : List (Addr × Addr)} {T0 : List (Addr × Str)} (hT0 : ∀ p ∈ T0, p.1 ∈ cs0.map (·.2)) (hY : ∀ (w : World) (h : Heap), YP w h → (K w.params).In h)
    (hcs : ∀ (w : World) (h : Heap), YP w h → CsOk (K w.params) h cs0) (ks : ∀ w : World, (K w.params).lookup sysModules = none) (him : importsNone q = true)
    (F : ∀ (w : World) (mg : Str → Option Value) (fa : Addr) (h : Heap), (K w.params).In h → h.Ns mainGlobals mg → mg d.name = some (.ref fa) →
      ∃ fd : FuncData, (∀ (s : Shared) (u : Value), BindsTo s fd ⟨[u], []⟩ [("_law_script", u)]) ∧ ∀ base : Heap, (K w.params).In base → base.Ns mainGlobals mg → (∀ p ∈ cs0, LamX.TabB base mg p.1 p.2) → FnA PySem.Challenge.rw_alltriangular_k09_lots_compared.prog w (K w.params) mg base (L2.CX PySem.Challenge.rw_alltriangular_k09_lots_compared.prog w) (4 * lvl + 4) fa fd ["_law_script"] (spLaw (K w.params) T0)) :
    PySem.W.WalkO q loose XP YP PySem.Challenge.rw_alltriangular_k09_lots_compared.row.toRowW d [] (fun f vs => PySem.call f vs) :=
  walk_ofA (n := 63) (k := 4 * lvl + 4) (x := "_law_script") (CX := fun w => L2.CX PySem.Challenge.rw_alltriangular_k09_lots_compared.prog w) (sp := fun w => spLaw (K w.params) T0) hn (by decide) hdf ⟨rfl, by decide, by decide⟩ hY hcs ks him F (fun w H a ns hl hb hT hO hS => ⟨a, ns, rfl, hS, hl, hb, ⟨fun p hp => LamX.TabS.nil (by obtain ⟨c, hc, e⟩ := List.mem_map.mp (hT0 p hp); rw [← e]; exact hT c hc), hO, ks w⟩, fun _ => rfl⟩) fun w H s e s2 z => by
    obtain ⟨_, _, _, _, _, _, _, _, _, _, _, _, z⟩ := z
    exact z
end M

set_option Elab.async false
set_option linter.all false
set_option maxRecDepth 100000
set_option maxHeartbeats 4000000
/-! k09: the plain law. -/
namespace M
open PySem
theorem to_dL {ts : List Tb} {i : Nat} : prm (.slo false true) [dL ts, .int (i : Nat)] = .ok (dL (ts.take i)) := by
  unfold dL; rw [p_toT, List.map_take]
theorem from_dL {ts : List Tb} {i : Nat} (h : i ≤ ts.length) : prm (.slo true false) [dL ts, .int (i : Nat)] = .ok (dL (ts.drop i)) := by
  unfold dL; rw [p_fromT (by rw [List.length_map]; exact h), List.map_drop]
theorem add_dL {a b : List Tb} (h : a.length + b.length ≤ 1000) : prm .add [dL a, dL b] = .ok (dL (a ++ b)) := by
  unfold dL; rw [p_addT (by rw [List.length_map, List.length_map]; omega), List.map_append]
theorem from_dT {A : Tb} (h : 1 ≤ A.length) : prm (.slo true false) [dT A, .int 1] = .ok (dT (A.drop 1)) := by
  have z : prm (.slo true false) [.tup (A.map dR), .int (1 : Nat)] = _ := p_fromT (by rw [List.length_map]; exact h)
  unfold dT; rw [List.map_drop]; exact z
theorem add_dT {A B : Tb} (h : A.length + B.length ≤ 1000) : prm .add [dT A, dT B] = .ok (dT (A ++ B)) := by
  unfold dT; rw [p_addT (by rw [List.length_map, List.length_map]; omega), List.map_append]
theorem from_dR {r : List Int} (h : 1 ≤ r.length) : prm (.slo true false) [dR r, .int 1] = .ok (dR (r.drop 1)) := by
  have z : prm (.slo true false) [.tup (r.map D.int), .int (1 : Nat)] = _ := p_fromT (by rw [List.length_map]; exact h)
  unfold dR; rw [List.map_drop]; exact z
theorem rev_dL {ts : List Tb} : prm .revL [dL ts] = .ok (dL ts.reverse) := by
  unfold dL; rw [p_revT, List.map_reverse]
theorem tb_tp {m : Nat} {A : Tb} (h : TbOk m A) : TbOk m (tpT m A) := ⟨h.lo, h.hi, sq_tp.len, sq_tp.row, fun r hr x hx => by
  obtain ⟨i, hi, rfl⟩ := List.mem_map.1 hr
  obtain ⟨j, hj, rfl⟩ := List.mem_map.1 hx
  have hi' := List.mem_range.1 hi
  have hj' := List.mem_range.1 hj
  exact h.sm _ (getD_mem (by rw [h.len]; exact hj')) _ (getD_mem (by rw [h.row _ (getD_mem (by rw [h.len]; exact hj'))]; exact hi'))⟩
/-- the first number one more -/
def upT (A : Tb) : Tb := (((A.getD 0 []).getD 0 0 + 1) :: (A.getD 0 []).drop 1) :: A.drop 1
theorem tb_up {m : Nat} {A : Tb} (h : TbOk m A) (hs : (A.getD 0 []).getD 0 0 < 1000000) : TbOk m (upT A) := by
  have hm := h.lo
  have l0 : 0 < A.length := by rw [h.len]; omega
  have r0 := getD_mem (a := ([] : List Int)) l0
  have lr := h.row _ r0
  have x0 := getD_mem (a := (0 : Int)) (l := A.getD 0 []) (i := 0) (by rw [lr]; omega)
  have b0 := h.sm _ r0 _ x0
  refine ⟨h.lo, h.hi, ?_, ?_, ?_⟩
  · unfold upT; rw [List.length_cons, List.length_drop, h.len]; omega
  · intro r hr
    rcases List.mem_cons.1 hr with rfl | hr
    · rw [List.length_cons, List.length_drop, lr]; omega
    · exact h.row r (List.mem_of_mem_drop hr)
  · intro r hr x hx
    rcases List.mem_cons.1 hr with rfl | hr
    · rcases List.mem_cons.1 hx with rfl | hx
      · omega
      · exact h.sm _ r0 x (List.mem_of_mem_drop hx)
    · exact h.sm r (List.mem_of_mem_drop hr) x hx
theorem lot_rev {m : Nat} {ts : List Tb} (h : LotOk m ts) : LotOk m ts.reverse := ⟨fun z => h.ne (List.reverse_eq_nil_iff.1 z), by rw [List.length_reverse]; exact h.few, fun A hA => h.tb A (List.mem_reverse.1 hA)⟩
theorem lot_less {m i : Nat} {ts : List Tb} (h : LotOk m ts) (hi : i < ts.length) (h2 : 1 < ts.length) : LotOk m (ts.take i ++ ts.drop (i + 1)) := by
  have hf := h.few
  have l : (ts.take i ++ ts.drop (i + 1)).length = ts.length - 1 := by rw [List.length_append, List.length_take, List.length_drop]; omega
  refine ⟨fun z => ?_, by omega, fun A hA => ?_⟩
  · rw [z] at l; simp at l; omega
  · rcases List.mem_append.1 hA with q | q
    · exact h.tb A (List.mem_of_mem_take q)
    · exact h.tb A (List.mem_of_mem_drop q)
theorem lot_put {m i : Nat} {ts : List Tb} {B : Tb} (h : LotOk m ts) (hi : i < ts.length) (hB : TbOk m B) : LotOk m ((ts.take i ++ [B]) ++ ts.drop (i + 1)) := by
  have hf := h.few
  have l : ((ts.take i ++ [B]) ++ ts.drop (i + 1)).length = ts.length := by rw [List.length_append, List.length_append, List.length_take, List.length_drop, List.length_singleton]; omega
  refine ⟨fun z => ?_, by omega, fun A hA => ?_⟩
  · rw [z] at l; simp at l; omega
  · rcases List.mem_append.1 hA with q | q
    · rcases List.mem_append.1 q with q | q
      · exact h.tb A (List.mem_of_mem_take q)
      · rw [List.mem_singleton] at q; rw [q]; exact hB
    · exact h.tb A (List.mem_of_mem_drop q)
theorem m_near {p : D} {k m : Nat} {ts : List Tb} (h : LotOk m ts) (hp : Pl k p) (hk : k ≤ 900000) : ∃ us p', m__law_near p (dL ts) = .ok (dL us, p') ∧ LotOk m us ∧ Pl (k + 2) p' := by
  have hf := h.few
  have hne : 1 ≤ ts.length := List.length_pos_iff.2 h.ne
  obtain ⟨v, p1, e1, hv, h1⟩ := m_cast (m := 5) hp (by omega) ⟨by decide, by decide⟩
  obtain ⟨u, p2, e2, hu, h2⟩ := m_cast (m := (ts.length : Nat)) h1 (by omega) ⟨by omega, by omega⟩
  obtain ⟨i, rfl⟩ : ∃ i : Nat, u = (i : Int) := ⟨u.toNat, by omega⟩
  have hi : i < ts.length := by omega
  have hA := h.tb _ (getD_mem (a := ([] : Tb)) hi)
  have h0 := h.tb _ (getD_mem (a := ([] : Tb)) (l := ts) (i := 0) (by omega))
  have hm := hA.lo
  have hm4 := hA.hi
  have e0 : prm .idx [dL ts, .int 0] = .ok (dT (ts.getD 0 [])) := dL_idx (i := 0) (by omega)
  have ei := dL_idx (ts := ts) hi
  have a0 : prm .idx [dT (ts.getD i []), .int 0] = .ok (dR ((ts.getD i []).getD 0 [])) := dT_idx (i := 0) (by rw [hA.len]; omega)
  have lr := hA.row _ (getD_mem (a := ([] : List Int)) (l := ts.getD i []) (i := 0) (by rw [hA.len]; omega))
  have r0 : prm .idx [dR ((ts.getD i []).getD 0 []), .int 0] = .ok (.int (((ts.getD i []).getD 0 []).getD 0 0)) := dR_idx (i := 0) (by rw [lr]; omega)
  have ad : prm .add [.int (i : Nat), .int 1] = .ok (.int ((i + 1 : Nat) : Int)) := p_add
  have fr : prm (.slo true false) [dL ts, .int ((i + 1 : Nat) : Int)] = .ok (dL (ts.drop (i + 1))) := from_dL hi
  unfold m__law_near
  simp only [ok_bind, e1, len_dL, e2, e0, len_dT, h0.len, p_eq, p_gt, tru_bl, to_dL, ad, fr, rev_dL, ei, a0, r0, p_pow6, p_lt, p_add]
  by_cases c0 : v = 0 ∧ 1 < ts.length
  · refine ⟨ts.take i ++ ts.drop (i + 1), p2, ?_, lot_less h hi c0.2, h2⟩
    have z : (1 : Int) < ((ts.length : Nat) : Int) := by have := c0.2; omega
    simp only [c0.1, decide_true, if_true, ok_bind, z]
    rw [add_dL (by rw [List.length_take, List.length_drop]; omega)]; rfl
  have k0 : (if decide (v = 0) then Mo.ok (decide ((1 : Int) < ((ts.length : Nat) : Int))) else Mo.ok false) = .ok false := by
    by_cases c : v = 0
    · have z : ¬ (1 : Int) < ((ts.length : Nat) : Int) := fun q => c0 ⟨c, by omega⟩
      simp only [c, z, decide_true, if_true, decide_false]
    · simp only [c, decide_false, Bool.false_eq_true, if_false]
  simp only [k0, ok_bind, Bool.false_eq_true, if_false]
  by_cases c1 : v = 1
  · refine ⟨ts.reverse, p2, ?_, lot_rev h, h2⟩
    simp only [c1, decide_true, if_true]
  simp only [c1, decide_false, Bool.false_eq_true, if_false]
  by_cases c2 : v = 2
  · refine ⟨_, p2, ?_, lot_put h hi (tb_tp hA), h2⟩
    simp only [c2, decide_true, if_true, o_rng (show m ≤ 1000000 by omega), ok_bind]
    rw [mapL_ok (g := fun (k : Nat) => dR ((List.range m).map fun j => ent (ts.getD i []) j k)) (sz (by simp; omega)) (fun k hk => by
      have hk' := List.mem_range.1 hk
      rw [mapL_ok (g := fun (j : Nat) => D.int (ent (ts.getD i []) j k)) (sz (by simp; omega)) (fun j hj => by
        have hj' := List.mem_range.1 hj
        rw [dT_idx (by rw [hA.len]; exact hj'), ok_bind]
        exact dR_idx (by rw [hA.row _ (getD_mem (by rw [hA.len]; exact hj'))]; exact hk'))]
      simp only [ok_bind, p_tupleL]
      show _ = Mo.ok (D.tup (((List.range m).map fun j => ent (ts.getD i []) j k).map D.int))
      rw [List.map_map]; rfl)]
    have zt : D.tup ((List.range m).map fun (k : Nat) => dR ((List.range m).map fun j => ent (ts.getD i []) j k)) = dT (tpT m (ts.getD i [])) := by
      unfold dT tpT mkT
      rw [List.map_map]; rfl
    have tp1 : tupM [dT (tpT m (ts.getD i []))] = .ok (dL [tpT m (ts.getD i [])]) := tup1
    simp only [ok_bind, p_tupleL, zt, tp1, add_dL (a := ts.take i) (b := [tpT m (ts.getD i [])]) (by rw [List.length_take, List.length_singleton]; omega)]
    rw [add_dL (by rw [List.length_append, List.length_take, List.length_drop, List.length_singleton]; omega)]; rfl
  simp only [c2, decide_false, Bool.false_eq_true, if_false]
  by_cases c3 : v = 3 ∧ ((ts.getD i []).getD 0 []).getD 0 0 < 1000000
  · refine ⟨_, p2, ?_, lot_put h hi (tb_up hA c3.2), h2⟩
    have t1 : ∀ z : Int, tupM [.int z] = .ok (dR [z]) := fun z => tup1
    have t2 : ∀ r : List Int, tupM [dR r] = .ok (dT [r]) := fun r => tup1
    have t3 : ∀ A : Tb, tupM [dT A] = .ok (dL [A]) := fun A => tup1
    simp only [c3.1, c3.2, decide_true, if_true, ok_bind, t1, from_dR (show 1 ≤ ((ts.getD i []).getD 0 []).length by rw [lr]; exact hm), p_addR (a := [((ts.getD i []).getD 0 []).getD 0 0 + 1]) (b := ((ts.getD i []).getD 0 []).drop 1) (by rw [List.length_drop, lr, List.length_singleton]; omega), t2, from_dT (show 1 ≤ (ts.getD i []).length by rw [hA.len]; exact hm)]
    rw [add_dT (by rw [List.length_drop, hA.len, List.length_singleton]; omega)]
    simp only [ok_bind, t3]
    rw [add_dL (by rw [List.length_take, List.length_singleton]; omega), ok_bind, add_dL (by rw [List.length_append, List.length_take, List.length_drop, List.length_singleton]; omega)]; rfl
  have k3 : (if decide (v = 3) then Mo.ok (decide (((ts.getD i []).getD 0 []).getD 0 0 < 1000000)) else Mo.ok false) = .ok false := by
    by_cases c : v = 3
    · have z : ¬ ((ts.getD i []).getD 0 []).getD 0 0 < 1000000 := fun q => c3 ⟨c, q⟩
      simp only [c, z, decide_true, if_true, decide_false]
    · simp only [c, decide_false, Bool.false_eq_true, if_false]
  simp only [k3, ok_bind, Bool.false_eq_true, if_false]
  exact ⟨ts, p2, rfl, h, h2⟩

/-- what is no instance, class nor exception at its head -/
def notIns : D → Bool
  | .ins _ _ => false
  | .cls _ => false
  | .exn _ _ => false
  | _ => true
theorem isPl_D {d : D} (h : notIns d = true) : prm (.ext isPlF) [d] = .ok (.bl true) := by
  cases d <;> first | rfl | cases h
theorem p_asIns {ts : List Tb} : prm (.asIns 0) [dO ts] = .ok (dO ts) := rfl
theorem m_eqN {ts : List Tb} {d : D} (h : notIns d = true) : m_Lot_eq (dO ts) d = .ok (.bl false) := by
  have e : prmV (.isiC 0) [d] = .ok (.bl false) := by
    cases d <;> first | rfl | cases h
  unfold m_Lot_eq
  simp only [ok_bind, e, isB_bl, Bool.false_eq_true, if_false]
theorem ec_dO {A B : List Tb} : eqCallM 0 m_Lot_eq (dO A) (dO B) = some (decide (B = A)) := by
  have e : eqCallM 0 m_Lot_eq (dO A) (dO B) = boolM (m_Lot_eq (dO B) (dO A)) := by
    show (if (0 : Nat) = 0 then boolM (m_Lot_eq (.ins 0 [dL B]) (dO A)) else none) = _
    rw [if_pos rfl]; rfl
  rw [e, m_eq]; rfl
theorem ec_N {A : List Tb} {d : D} (h : notIns d = true) : eqCallM 0 m_Lot_eq (dO A) d = some false := by
  have e : eqCallM 0 m_Lot_eq (dO A) d = boolM (m_Lot_eq (dO A) d) := by
    cases d <;> first | rfl | cases h
  rw [e, m_eqN h]; rfl
theorem in_made {A : List Tb} : ∀ {Ls : List (List Tb)} {s : Bool}, A ∈ Ls → inLoop (eqCallM 0 m_Lot_eq (dO A)) s (Ls.map dO) = some true
  | [], _, h => by cases h
  | B :: Ls, s, h => by
    show (match eqCallM 0 m_Lot_eq (dO A) (dO B) with
      | some true => some true
      | some false => inLoop (eqCallM 0 m_Lot_eq (dO A)) (s || isIns (dO B)) (Ls.map dO)
      | none => none) = _
    rw [ec_dO]
    by_cases e : B = A
    · rw [decide_eq_true e]
    · rw [decide_eq_false e]
      rcases List.mem_cons.1 h with q | q
      · exact absurd q.symm e
      · exact in_made q
theorem inIM_made {A : List Tb} {Ls : List (List Tb)} (h : A ∈ Ls) : inIM 0 true m_Lot_eq (dO A) (.lst (Ls.map dO)) = .ok (.bl false) := by
  show (match inLoop (eqCallM 0 m_Lot_eq (dO A)) false (Ls.map dO) with
    | some b => Mo.ok (D.bl (b != true))
    | none => .bad) = _
  rw [in_made h]; rfl
theorem inIM_two {A : List Tb} {d e : D} (hd : notIns d = true) (he : notIns e = true) : inIM 0 false m_Lot_eq (dO A) (.lst [d, e]) = .ok (.bl false) := by
  have i1 : isIns d = false := by cases d <;> first | rfl | cases hd
  have i2 : isIns e = false := by cases e <;> first | rfl | cases he
  show (match (match eqCallM 0 m_Lot_eq (dO A) d with
      | some true => some true
      | some false => (match eqCallM 0 m_Lot_eq (dO A) e with
        | some true => some true
        | some false => inLoop (eqCallM 0 m_Lot_eq (dO A)) ((false || isIns d) || isIns e) []
        | none => none)
      | none => none) with
    | some b => Mo.ok (D.bl (b != false))
    | none => .bad) = _
  rw [ec_N hd, ec_N he, i1, i2]; rfl
theorem menu_N {d : D} (h : d ∈ menu) : notIns d = true := by
  have z : menu.all notIns = true := by decide +kernel
  exact List.all_eq_true.1 z d h
/-- the two answers, shown -/
theorem show_two (a b : Bool) : prm .repr [.lst [.bl a, .bl b]] = .ok (tx (rpr (.lst [.bl a, .bl b]))) ∧ prm .ne [tx (rpr (.lst [.bl a, .bl b])), tx (rpr (.lst [.bl a, .bl b]))] = .ok (.bl false) :=
  same_shown (rp_l2 (rp_bl a) (rp_bl b)) (by decide) (by decide)

theorem p_asBl {b : Bool} : prm .asBl [.bl b] = .ok (.bl b) := rfl
theorem p_asLen {n : Nat} (h : n ≤ 1000) : prm .asLen [.int (n : Nat)] = .ok (.int (n : Nat)) := prm_of (fl := false) (by
  show (if 0 ≤ ((n : Nat) : Int) ∧ ((n : Nat) : Int) < 4611686018427387904 then some (false, D.int ((n : Nat) : Int)) else none) = _
  rw [if_pos ⟨by omega, by omega⟩])
theorem m_right {p : D} (h : Pl 0 p) : ∃ p', m__law_right p = .ok (.bl true, p') := by
  obtain ⟨m, ts, p1, e1, hL, h1⟩ := m_grids h (by decide)
  have hi0 : ∀ A, D.ins 0 [dL A] = dO A := fun A => rfl
  have e3 : optM (rng1F [.int 7]) = .ok ((List.range 7).map fun (i : Nat) => D.int i) := o_rng (m := 7) (by decide)
  unfold m__law_right
  simp only [ok_bind, e1, m_Lot hL, m_sheet hL, m_read hL, hi0, lsM2, e3]
  refine foldN_bind (fun x : Mo (D × D) => ∃ p' : D, x = .ok (D.bl true, p')) (fun acc s => ∃ (Ls : List (List Tb)) (q : D), s = (q, .lst ((ts :: Ls).map dO)) ∧ (∀ A ∈ ts :: Ls, LotOk m A) ∧ Ls.length = acc.length + 1 ∧ Pl (98 + 3 * acc.length) q) ⟨[ts], p1, rfl, fun A hA => by
    rcases List.mem_cons.1 hA with rfl | hA
    · exact hL
    · rw [List.mem_singleton] at hA; rw [hA]; exact hL, rfl, h1.mono (by decide)⟩ ?_ ?_
  · rintro x acc s rest hf ⟨Ls, q, rfl, hAll, hl, hq⟩
    have hacc : acc.length + 1 ≤ 7 := by
      have z := congrArg List.length hf
      rw [List.length_append, List.length_cons, List.length_range] at z; omega
    obtain ⟨us, q1, f1, hU, g1⟩ := m_near hL hq (by omega)
    obtain ⟨q2, f2, g2⟩ := m_built hU g1 (by omega)
    refine ⟨(q2, .lst ((ts :: (Ls ++ [us])).map dO)), ?_, Ls ++ [us], q2, rfl, ?_, ?_, ?_⟩
    · simp only [ok_bind, f1, on1_one, f2]
      rw [app_ok (by rw [List.length_map, List.length_cons]; omega), ok_bind, ← List.cons_append, List.map_append]; rfl
    · intro A hA
      rw [← List.cons_append] at hA
      rcases List.mem_append.1 hA with hA | hA
      · exact hAll A hA
      · rw [List.mem_singleton] at hA; rw [hA]; exact hU
    · rw [List.length_append, List.length_append, hl]; rfl
    · exact g2.mono (by rw [List.length_append, List.length_singleton]; omega)
  · rintro s ⟨Ls, q, rfl, hAll, hl, hq⟩
    rw [List.length_range] at hl hq
    simp only [ok_bind, itemsM_lst]
    have key : ∀ f : Unit → D → Mo (Fl Unit (D × D)), (∀ B ∈ ts :: Ls, f () (dO B) = .ok (.nx ())) → foldB f () ((ts :: Ls).map dO) = .ok (.nx ()) := fun f hf => foldB_all hf
    refine foldB_bind (fun x : Mo (D × D) => ∃ p' : D, x = .ok (D.bl true, p')) (fun n s => Pl (119 + n) s) (hq.mono (by decide)) (fun A hA n s hn js => ?_) (fun s js => ?_)
    · have hn : n < 9 := by rw [List.length_cons] at hn; omega
      have hA' := hAll A hA
      have hf := hA'.few
      obtain ⟨d, hd, q1, f1, g1⟩ := m_thing js (by omega)
      have hdN := menu_N hd
      refine ⟨q1, ?_, g1.mono (by omega)⟩
      simp only [ok_bind, isI_O, m_text hA', noExc_ok]
      rw [key _ (fun B hB => by
        have hB' := hAll B hB
        have z : decide (sheetT m A = sheetT m B) = decide (A = B) := decide_eq_decide.2 (sheet_inj hA' hB')
        simp only [ok_bind, isI_O, m_text hB', noExc_ok, p_eqS (sheet_cps hA') (sheet_cps hB'), m_eq, p_asBl, p_notBl, lsM2, tru_bl, z, show_two, Bool.false_eq_true, if_false])]
      have l8 : ∀ a b c d e f g h : D, lstM [a, b, c, d, e, f, g, h] = .ok (.lst [a, b, c, d, e, f, g, h]) := fun _ _ _ _ _ _ _ _ => lst_ok (sz (by simp))
      simp only [ok_bind, Fl.on, m_tables, noExc_ok, m_len, p_asLen (show A.length ≤ 1000 by omega), lsM1, f1, tup1, l8, itemsM_lst]
      have key2 : ∀ (f : D → D → Mo (Fl D (D × D))) (xs : List D), (∀ o ∈ xs, f q1 o = .ok (.nx q1)) → foldB f q1 xs = .ok (.nx q1) := fun f xs hf => by
        have z := foldB_all (f := f) (h := fun d : D => d) (s := q1) (xs := xs) hf
        rwa [List.map_id'] at z
      rw [key2]
      · have n1 : notIns (tx (sheetT m A)) = true := rfl
        have n2 : notIns (dL A) = true := rfl
        simp only [ok_bind, Fl.on, isI_O, lsM2, inIM_made hA, inIM_two n1 n2, tru_bl, Bool.false_eq_true, if_false]
      · intro o ho
        have hoN : notIns o = true := by
          simp only [List.mem_cons, List.not_mem_nil, or_false] at ho
          rcases ho with rfl | rfl | rfl | rfl | rfl | rfl | rfl | rfl
          · rfl
          · rfl
          · rfl
          · rfl
          · rfl
          · exact hdN
          · rfl
          · rfl
        simp only [ok_bind, isPl_D hoN, tru_bl, if_true, p_asIns, m_eqN hoN, p_asBl, p_notBl, Bool.false_eq_true, if_false, Bool.not_false, Bool.not_true]
    · have i0 : prmV .idx [.lst ((ts :: Ls).map dO), .int 0] = .ok (dO ts) := prmV_of (idx_lst (i := 0) rfl)
      refine ⟨s, ?_⟩
      simp only [Fl.on, ok_bind, i0, isI_O, m_text hL, noExc_ok, p_eqS (sheet_cps hL) (sheet_cps hL), decide_true]
theorem plain : ∀ ns : List Int, ns.length ≤ 63 → (∀ z ∈ ns, Builtin.Int.intBits z ≤ 1048576) → m_law (.lst (ns.map D.int)) = .ok (.bl true) := fun ns hn hb => by
  unfold m_law
  simp only [ok_bind, p_lenL, List.length_map, p_min2, p_max2]
  refine (cases_ok (c := 5) (by decide) hn fun k hk => ?_)
  obtain ⟨p, e1, h1⟩ := m_begun (k := k) hn hb hk
  obtain ⟨p', e2⟩ := m_right h1
  simp only [ok_bind, e1, e2]
end M

open PySem PySem.W PyProof.Rows
set_option maxRecDepth 100000 in
set_option maxHeartbeats 0 in
theorem PySem.Challenge.cw_alltriangular_k09_lots_compared_holds : PySem.Challenge.rw_alltriangular_k09_lots_compared.Holds := by
  w_on; o_law; k_head; (case hw => w_witness2)
  k_fill
  refine M.walk (cs0 := []) (T0 := []) M.plain rfl rfl (fun _ z => nomatch z) (fun w h Y => PySem.W.kIn_of Y) (fun w h Y => ⟨fun _ z => (nomatch z), fun _ z => (nomatch z), fun _ z => (nomatch z)⟩) (fun w => by kernel_rfl) (by kernel_rfl) ?F
  case F =>
    intro w mg fa h KX G hmg
    refine' M.all_mk M.plain KX G hmg ?aC_Lot ?a__law_cast ?l__law_cast ?c__law_cast ?k__law_cast ?a__law_any_of ?l__law_any_of ?c__law_any_of ?k__law_any_of ?a__law_number ?l__law_number ?c__law_number ?k__law_number ?a__law_grids ?l__law_grids ?c__law_grids ?k__law_grids ?a_is_integer ?l_is_integer ?c_is_integer ?k_is_integer ?a_are_integers ?l_are_integers ?c_are_integers ?k_are_integers ?a_is_table ?l_is_table ?c_is_table ?k_is_table ?a_wrong_table ?l_wrong_table ?c_wrong_table ?k_wrong_table ?a_Lot_init ?l_Lot_init ?c_Lot_init ?k_Lot_init ?a_written_integer ?l_written_integer ?c_written_integer ?k_written_integer ?a_text_row ?l_text_row ?c_text_row ?k_text_row ?a_text_lot ?l_text_lot ?c_text_lot ?k_text_lot ?rd_Lot_read ?ga_Lot_read ?a_Lot_read ?r_Lot_read ?fi_Lot_read ?l_Lot_read ?c_Lot_read ?k_Lot_read ?a_Lot_size ?e_Lot_size ?t_Lot_size ?r_Lot_size ?l_Lot_size ?c_Lot_size ?k_Lot_size ?a_lot_lines ?l_lot_lines ?c_lot_lines ?k_lot_lines ?a_Lot_str ?if_Lot_str ?l_Lot_str ?c_Lot_str ?k_Lot_str ?a_Lot_text ?e_Lot_text ?t_Lot_text ?r_Lot_text ?l_Lot_text ?c_Lot_text ?k_Lot_text ?a__law_lines ?l__law_lines ?c__law_lines ?k__law_lines ?a__law_sheet ?l__law_sheet ?c__law_sheet ?k__law_sheet ?a__law_built ?l__law_built ?c__law_built ?k__law_built ?a_Lot_tables ?e_Lot_tables ?t_Lot_tables ?r_Lot_tables ?l_Lot_tables ?c_Lot_tables ?k_Lot_tables ?a_Lot_len ?if_Lot_len ?l_Lot_len ?c_Lot_len ?k_Lot_len ?a__law_thing ?l__law_thing ?c__law_thing ?k__law_thing ?a__law_near ?l__law_near ?c__law_near ?k__law_near ?a_Lot_eq ?if_Lot_eq ?l_Lot_eq ?c_Lot_eq ?k_Lot_eq ?a__law_right ?l__law_right ?c__law_right ?k__law_right ?a__law_begun ?l__law_begun ?c__law_begun ?k__law_begun ?a_law ?l_law ?c_law ?k_law ?if_Lot ?mk_Lot ?kc_Lot ?pg_Lot ?ic_Lot ?po_Lot ?sa_Lot ?ca_Lot ?cm_Lot ?ne_Lot ?sf_Lot_own_tables ?sg_Lot_own_tables ?st_Lot_own_tables ?sy_Lot_own_tables ?sx_Lot_own_tables ?kt_Lot_int ?kt_Lot_str ?kt_Lot_tuple ?kt_Lot_list ?kt_Lot_bool ?kb_Lot_int ?kb_Lot_str ?kb_Lot_tuple ?kb_Lot_list ?kb_Lot_bool ?kb_Lot_NoneType ?kb_Lot_dict ?kc_Lot_Lot ?cn ?ct ?sq_Lot_int ?sq_Lot_str ?sq_Lot_tuple ?sq_Lot_list ?sq_Lot_bool ?sq_Lot_NoneType ?sq_Lot_dict ?n_abs ?n_all ?n_bool ?n_divmod ?n_enumerate ?n_int ?n_isinstance ?n_len ?n_max ?n_min ?n_range ?n_repr ?n_str ?n_tuple ?x_DIGITS ?x_MOST_NUMBER ?x_MOST_SIZE ?x_MOST_TABLES
    (case aC_Lot => k_is)
    (case a__law_cast => k_is)
    (case l__law_cast => k_is)
    (case c__law_cast => k_is)
    (case k__law_cast => k_is)
    (case a__law_any_of => k_is)
    (case l__law_any_of => k_is)
    (case c__law_any_of => k_is)
    (case k__law_any_of => k_is)
    (case a__law_number => k_is)
    (case l__law_number => k_is)
    (case c__law_number => k_is)
    (case k__law_number => k_is)
    (case a__law_grids => k_is)
    (case l__law_grids => k_is)
    (case c__law_grids => k_is)
    (case k__law_grids => k_is)
    (case a_is_integer => k_is)
    (case l_is_integer => k_is)
    (case c_is_integer => k_is)
    (case k_is_integer => k_is)
    (case a_are_integers => k_is)
    (case l_are_integers => k_is)
    (case c_are_integers => k_is)
    (case k_are_integers => k_is)
    (case a_is_table => k_is)
    (case l_is_table => k_is)
    (case c_is_table => k_is)
    (case k_is_table => k_is)
    (case a_wrong_table => k_is)
    (case l_wrong_table => k_is)
    (case c_wrong_table => k_is)
    (case k_wrong_table => k_is)
    (case a_Lot_init => k_is)
    (case l_Lot_init => k_is)
    (case c_Lot_init => k_is)
    (case k_Lot_init => k_is)
    (case a_written_integer => k_is)
    (case l_written_integer => k_is)
    (case c_written_integer => k_is)
    (case k_written_integer => k_is)
    (case a_text_row => k_is)
    (case l_text_row => k_is)
    (case c_text_row => k_is)
    (case k_text_row => k_is)
    (case a_text_lot => k_is)
    (case l_text_lot => k_is)
    (case c_text_lot => k_is)
    (case k_text_lot => k_is)
    (case rd_Lot_read => k_is)
    (case ga_Lot_read => k_is)
    (case a_Lot_read => k_is)
    (case r_Lot_read => k_is)
    (case fi_Lot_read => k_is)
    (case l_Lot_read => k_is)
    (case c_Lot_read => k_is)
    (case k_Lot_read => k_is)
    (case a_Lot_size => k_is)
    (case e_Lot_size => k_is)
    (case t_Lot_size => k_is)
    (case r_Lot_size => k_is)
    (case l_Lot_size => k_is)
    (case c_Lot_size => k_is)
    (case k_Lot_size => k_is)
    (case a_lot_lines => k_is)
    (case l_lot_lines => k_is)
    (case c_lot_lines => k_is)
    (case k_lot_lines => k_is)
    (case a_Lot_str => k_is)
    (case if_Lot_str => k_is)
    (case l_Lot_str => k_is)
    (case c_Lot_str => k_is)
    (case k_Lot_str => k_is)
    (case a_Lot_text => k_is)
    (case e_Lot_text => k_is)
    (case t_Lot_text => k_is)
    (case r_Lot_text => k_is)
    (case l_Lot_text => k_is)
    (case c_Lot_text => k_is)
    (case k_Lot_text => k_is)
    (case a__law_lines => k_is)
    (case l__law_lines => k_is)
    (case c__law_lines => k_is)
    (case k__law_lines => k_is)
    (case a__law_sheet => k_is)
    (case l__law_sheet => k_is)
    (case c__law_sheet => k_is)
    (case k__law_sheet => k_is)
    (case a__law_built => k_is)
    (case l__law_built => k_is)
    (case c__law_built => k_is)
    (case k__law_built => k_is)
    (case a_Lot_tables => k_is)
    (case e_Lot_tables => k_is)
    (case t_Lot_tables => k_is)
    (case r_Lot_tables => k_is)
    (case l_Lot_tables => k_is)
    (case c_Lot_tables => k_is)
    (case k_Lot_tables => k_is)
    (case a_Lot_len => k_is)
    (case if_Lot_len => k_is)
    (case l_Lot_len => k_is)
    (case c_Lot_len => k_is)
    (case k_Lot_len => k_is)
    (case a__law_thing => k_is)
    (case l__law_thing => k_is)
    (case c__law_thing => k_is)
    (case k__law_thing => k_is)
    (case a__law_near => k_is)
    (case l__law_near => k_is)
    (case c__law_near => k_is)
    (case k__law_near => k_is)
    (case a_Lot_eq => k_is)
    (case if_Lot_eq => k_is)
    (case l_Lot_eq => k_is)
    (case c_Lot_eq => k_is)
    (case k_Lot_eq => k_is)
    (case a__law_right => k_is)
    (case l__law_right => k_is)
    (case c__law_right => k_is)
    (case k__law_right => k_is)
    (case a__law_begun => k_is)
    (case l__law_begun => k_is)
    (case c__law_begun => k_is)
    (case k__law_begun => k_is)
    (case a_law => k_is)
    (case l_law => k_is)
    (case c_law => k_is)
    (case k_law => k_is)
    (case if_Lot => k_is)
    (case mk_Lot => k_is)
    (case kc_Lot => k_is)
    (case pg_Lot => k_is)
    (case ic_Lot => k_is)
    (case po_Lot => k_is)
    (case sa_Lot => k_is)
    (case ca_Lot => k_is)
    (case cm_Lot => k_is)
    (case ne_Lot => k_is)
    (case sf_Lot_own_tables => k_is)
    (case sg_Lot_own_tables => k_is)
    (case st_Lot_own_tables => k_is)
    (case sy_Lot_own_tables => k_is)
    (case sx_Lot_own_tables => k_is)
    (case kt_Lot_int => kit_is)
    (case kt_Lot_str => kit_is)
    (case kt_Lot_tuple => kit_is)
    (case kt_Lot_list => kit_is)
    (case kt_Lot_bool => kit_is)
    (case kb_Lot_int => kit_is)
    (case kb_Lot_str => kit_is)
    (case kb_Lot_tuple => kit_is)
    (case kb_Lot_list => kit_is)
    (case kb_Lot_bool => kit_is)
    (case kb_Lot_NoneType => kit_is)
    (case kb_Lot_dict => kit_is)
    (case kc_Lot_Lot => kit_is)
    (case cn => k_is)
    (case ct => k_is)
    (case sq_Lot_int => k_is)
    (case sq_Lot_str => k_is)
    (case sq_Lot_tuple => k_is)
    (case sq_Lot_list => k_is)
    (case sq_Lot_bool => k_is)
    (case sq_Lot_NoneType => k_is)
    (case sq_Lot_dict => k_is)
    (case n_abs => k_is)
    (case n_all => k_is)
    (case n_bool => k_is)
    (case n_divmod => k_is)
    (case n_enumerate => k_is)
    (case n_int => k_is)
    (case n_isinstance => k_is)
    (case n_len => k_is)
    (case n_max => k_is)
    (case n_min => k_is)
    (case n_range => k_is)
    (case n_repr => k_is)
    (case n_str => k_is)
    (case n_tuple => k_is)
    (case x_DIGITS => k_is)
    (case x_MOST_NUMBER => k_is)
    (case x_MOST_SIZE => k_is)
    (case x_MOST_TABLES => k_is)
