import PyProof.Rows.All
import HandS.Base
import Wide.All
import OpenK.AllK
import Wide.FinOn
import HandS.ForMost
import HandS.ForExc
import HandS.TupAny
import HandS.Wide
import HandS.Flow
import HandS.Style
import HandS.Rev
import KE.KIsAll
import HandS.More
import HandS.IsInst
import HandS.Dict
import HandS.Strs
import HandS.SetFor
import KE.KExcIs
import HandS.ExcIs
import PySem.Challenge.RW_glyphyard_k60_whole_parting
section
set_option Elab.async false
set_option linter.all false
set_option maxRecDepth 100000
/-! GyD: plain data, and what each piece of code does with plain data; no machine in sight. -/
namespace Gy
open PySem
noncomputable section

/-- what a value is worth, whatever the heap: scr is the script, obj an instance of the k-th class of ours, exc an error of the k-th class -/
inductive D where
  | non | bl (b : Bool) | int (i : Int) | str (x : Str) | lst (xs : List D) | tup (xs : List D)
  | scr (ns : List Int) | obj (k : Nat) (ns : List Str) (xs : List D) | exc (k : Nat) (xs : List D)
  deriving Inhabited

/-- an answer, an error, or a way that is not told of -/
inductive R (α : Type) where
  | ok (a : α) | err (e : D) | bad
def R.bind {α β : Type} : R α → (α → R β) → R β
  | .ok a, f => f a
  | .err e, _ => .err e
  | .bad, _ => .bad
@[simp] theorem R.bind_ok {α β : Type} (a : α) (f : α → R β) : (R.ok a).bind f = f a := rfl
@[simp] theorem R.bind_err {α β : Type} (e : D) (f : α → R β) : (R.err e : R α).bind f = .err e := rfl
@[simp] theorem R.bind_bad {α β : Type} (f : α → R β) : (R.bad : R α).bind f = .bad := rfl
def R.map {α β : Type} (f : α → β) (r : R α) : R β := r.bind fun a => .ok (f a)
@[simp] theorem R.map_ok {α β : Type} (a : α) (f : α → β) : (R.ok a).map f = .ok (f a) := rfl
@[simp] theorem R.map_err {α β : Type} (e : D) (f : α → β) : (R.err e : R α).map f = .err e := rfl
@[simp] theorem R.map_bad {α β : Type} (f : α → β) : (R.bad : R α).map f = .bad := rfl

/-- what stands in a slot: nothing that is told, data, a list of the def's own that it changes, one whose items are lists of its own, another name of such an item, an instance of its own -/
inductive Sl where
  | no | dat (d : D) | own (xs : List D) | own2 (xss : List (List D)) | al (j k : Nat) | ins (a k : Nat) (fs : List (Str × D))
abbrev Rho := List Sl
abbrev XE := Rho → R D
abbrev XA := Rho → R (List D)
abbrev XT := Rho → R Bool

/-! ### sizes -/
structure Sm (i : Int) : Prop where
  h : i.natAbs.log2 < 400000
noncomputable instance (i : Int) : Decidable (Sm i) := Classical.propDecidable _
/-- lists and texts are no longer than that -/
structure Ln (n : Nat) : Prop where
  h : n ≤ 16000000
noncomputable instance (n : Nat) : Decidable (Ln n) := Classical.propDecidable _

/-! ### places -/
def ixAt (n : Nat) (i : Int) : Option Nat :=
  if 0 ≤ i then (if i < n then some i.toNat else none)
  else if -(n : Int) ≤ i then some (i + n).toNat else none
def getAt {α : Type} (xs : List α) (i : Int) : Option α := (ixAt xs.length i).bind fun j => xs[j]?
def clipAt (n dflt : Nat) : Option Int → Nat
  | none => dflt
  | some v => if v < 0 then (max (v + n) 0).toNat else (min v (n : Int)).toNat
def cutAt {α : Type} (xs : List α) (lo hi : Option Int) : List α :=
  (xs.drop (clipAt xs.length 0 lo)).take (clipAt xs.length xs.length hi - clipAt xs.length 0 lo)

/-! ### == of data -/
mutual
def dEqv : D → D → Bool
  | .non, .non => true
  | .bl a, .bl b => a == b
  | .bl a, .int j => (if a then 1 else 0) == j
  | .int i, .bl b => i == (if b then 1 else 0)
  | .int i, .int j => i == j
  | .str x, .str y => decide (x = y)
  | .lst xs, .lst ys => dEqvs xs ys
  | .tup xs, .tup ys => dEqvs xs ys
  | _, _ => false
def dEqvs : List D → List D → Bool
  | [], [] => true
  | x :: xs, y :: ys => dEqv x y && dEqvs xs ys
  | _, _ => false
end
def strGood (x : Str) : Bool := x.cps.all (· < 0x110000)
mutual
/-- data that == may be asked of -/
def dLay : D → Bool
  | .non => true
  | .bl _ => true
  | .int _ => true
  | .str x => strGood x
  | .lst xs => dLays xs
  | .tup xs => dLays xs
  | _ => false
def dLays : List D → Bool
  | [] => true
  | x :: xs => dLay x && dLays xs
end
mutual
def dDeep : D → Nat
  | .lst xs => dDeeps xs + 1
  | .tup xs => dDeeps xs + 1
  | _ => 0
def dDeeps : List D → Nat
  | [] => 0
  | x :: xs => max (dDeep x) (dDeeps xs)
end
structure dFit (d : D) : Prop where
  lay : dLay d = true
  deep : dDeep d ≤ 64
noncomputable instance (d : D) : Decidable (dFit d) := Classical.propDecidable _
/-- a divisor that // takes -/
structure Dv (j : Int) : Prop where
  pos : 0 < j
  h : j.natAbs.log2 < 8000
noncomputable instance (j : Int) : Decidable (Dv j) := Classical.propDecidable _
/-- what ** takes -/
structure Pw (i j : Int) : Prop where
  lo : 0 ≤ j
  hi : j ≤ 1000000
  h : i.natAbs < 2 ^ 64
noncomputable instance (i j : Int) : Decidable (Pw i j) := Classical.propDecidable _
/-- how often xs * k takes a list -/
structure Rp (n : Nat) (k : Int) : Prop where
  hi : k < 2 ^ 60
  lo : -(2 ^ 60) < k
  h : n * k.toNat ≤ 16000000
noncomputable instance (n : Nat) (k : Int) : Decidable (Rp n k) := Classical.propDecidable _

/-! ### operators on data -/
def dAdd : D → D → R D
  | .int i, .int j => .ok (.int (i + j))
  | .str x, .str y => if Ln (x.length + y.length) then .ok (.str (x ++ y)) else .bad
  | .tup xs, .tup ys => if Ln (xs.length + ys.length) then .ok (.tup (xs ++ ys)) else .bad
  | .lst xs, .lst ys => if Ln (xs.length + ys.length) then .ok (.lst (xs ++ ys)) else .bad
  | _, _ => .bad
def dSub : D → D → R D
  | .int i, .int j => .ok (.int (i - j))
  | _, _ => .bad
def dMul : D → D → R D
  | .int i, .int j => if Sm i ∧ Sm j then .ok (.int (i * j)) else .bad
  | .lst xs, .int k => if Rp xs.length k then .ok (.lst (List.replicate k.toNat xs).flatten) else .bad
  | _, _ => .bad
def dDiv : D → D → R D
  | .int i, .int j => if Dv j then .ok (.int (i / j)) else .bad
  | _, _ => .bad
def dMod : D → D → R D
  | .int i, .int j => if 0 < j then .ok (.int (i % j)) else .bad
  | _, _ => .bad
def dPow : D → D → R D
  | .int i, .int j => if Pw i j then .ok (.int (i ^ j.toNat)) else .bad
  | _, _ => .bad
def dNeg : D → R D
  | .int i => .ok (.int (-i))
  | _ => .bad
def dLt : D → D → R D
  | .int i, .int j => .ok (.bl (decide (i < j)))
  | _, _ => .bad
def dLe : D → D → R D
  | .int i, .int j => .ok (.bl (decide (i ≤ j)))
  | _, _ => .bad
def dGt : D → D → R D
  | .int i, .int j => .ok (.bl (decide (j < i)))
  | _, _ => .bad
def dGe : D → D → R D
  | .int i, .int j => .ok (.bl (decide (j ≤ i)))
  | _, _ => .bad
def dEq (x y : D) : R D := if dFit x ∧ dFit y then .ok (.bl (dEqv x y)) else .bad
def dNe (x y : D) : R D := if dFit x ∧ dFit y then .ok (.bl (!dEqv x y)) else .bad
def isNon : D → Bool
  | .non => true
  | _ => false
/-- things that x in xs may be asked of -/
def dFlat : D → Bool
  | .non => true
  | .bl _ => true
  | .int _ => true
  | .str _ => true
  | _ => false
def dIn : D → D → R D
  | x, .tup xs => if dFlat x = true ∧ xs.all dFlat = true then .ok (.bl (xs.any fun y => dEqv y x)) else .bad
  | x, .lst xs => if dFlat x = true ∧ xs.all dFlat = true then .ok (.bl (xs.any fun y => dEqv y x)) else .bad
  | _, _ => .bad
def dNot : D → R D
  | .bl b => .ok (.bl !b)
  | _ => .bad
def dIx : D → D → R D
  | .tup xs, .int i => match getAt xs i with | some d => .ok d | none => .bad
  | .lst xs, .int i => match getAt xs i with | some d => .ok d | none => .bad
  | .scr ns, .int i => match getAt ns i with | some n => .ok (.int n) | none => .bad
  | .str x, .int i => if Ln x.length then (match getAt x.cps.toList i with | some c => .ok (.str ⟨#[c]⟩) | none => .bad) else .bad
  | _, _ => .bad
/-- a part of a tuple, of a text -/
def dCut : D → Option Int → Option Int → R D
  | .tup xs, lo, hi => .ok (.tup (cutAt xs lo hi))
  | .lst xs, lo, hi => .ok (.lst (cutAt xs lo hi))
  | .str x, lo, hi => if Ln x.length then .ok (.str ⟨(cutAt x.cps.toList lo hi).toArray⟩) else .bad
  | _, _, _ => .bad
def dLen : D → R D
  | .tup xs => .ok (.int xs.length)
  | .lst xs => .ok (.int xs.length)
  | .scr ns => .ok (.int ns.length)
  | .str x => if Ln x.length then .ok (.int x.length) else .bad
  | _ => .bad
/-- truth -/
def dTru : D → R Bool
  | .non => .ok false
  | .bl b => .ok b
  | .int i => .ok (i != 0)
  | .str x => if Ln x.length then .ok ((x.length : Int) != 0) else .bad
  | .tup xs => .ok !xs.isEmpty
  | .lst xs => .ok !xs.isEmpty
  | .scr ns => .ok !ns.isEmpty
  | _ => .bad
def dAsB : D → R Bool
  | .bl b => .ok b
  | _ => .bad
def dList : D → R (List D)
  | .lst xs => .ok xs
  | _ => .bad
/-- what list(x), tuple(x) take -/
def dItems : D → R (List D)
  | .lst xs => .ok xs
  | .tup xs => .ok xs
  | _ => .bad
def dInts : List D → Option (List Int)
  | [] => some []
  | .int i :: r => (dInts r).map fun l => i :: l
  | _ => none
def dBls : List D → Option (List Bool)
  | [] => some []
  | .bl i :: r => (dBls r).map fun l => i :: l
  | _ => none
def dStrs : List D → Option (List Str)
  | [] => some []
  | .str i :: r => (dStrs r).map fun l => i :: l
  | _ => none
def R.of {α : Type} : Option α → R α
  | some a => .ok a
  | none => .bad
@[simp] theorem R.of_some {α : Type} (a : α) : R.of (some a) = .ok a := rfl
@[simp] theorem R.of_none {α : Type} : R.of (none : Option α) = .bad := rfl
def dInt : D → R Int
  | .int i => .ok i
  | _ => .bad

/-! ### expressions -/
@[simp] def xVar (i : Nat) : XE := fun ρ => match ρ[i]? with
  | some (.dat d) => .ok d
  | _ => .bad
/-- a name that is only looked at: its own list stays its own -/
@[simp] def xLook (i : Nat) : XE := fun ρ => match ρ[i]? with
  | some (.dat d) => .ok d
  | some (.own xs) => .ok (.lst xs)
  | _ => .bad
@[simp] def xC (d : D) : XE := fun _ => .ok d
@[simp] def xBin (g : D → D → R D) (a b : XE) : XE := fun ρ => (a ρ).bind fun x => (b ρ).bind fun y => g x y
@[simp] def xUn (g : D → R D) (a : XE) : XE := fun ρ => (a ρ).bind g
@[simp] def xNil : XA := fun _ => .ok []
@[simp] def xCons (a : XE) (r : XA) : XA := fun ρ => (a ρ).bind fun x => (r ρ).bind fun xs => .ok (x :: xs)
@[simp] def xTup (a : XA) : XE := fun ρ => (a ρ).bind fun xs => if Ln xs.length then .ok (.tup xs) else .bad
/-- a new list -/
@[simp] def xLst (a : XA) : XA := fun ρ => (a ρ).bind fun xs => if Ln xs.length then .ok xs else .bad
@[simp] def xNew (a : XA) : XE := fun ρ => (a ρ).map .lst
@[simp] def xIf (c : XT) (a b : XE) : XE := fun ρ => (c ρ).bind fun k => if k = true then a ρ else b ρ
/-- and, or of truths as values -/
@[simp] def xAnd (a b : XE) : XE := fun ρ => (a ρ).bind fun x => (dAsB x).bind fun k => if k = true then b ρ else .ok (.bl false)
@[simp] def xOr (a b : XE) : XE := fun ρ => (a ρ).bind fun x => (dAsB x).bind fun k => if k = true then .ok (.bl true) else b ρ
/-- an open place of a slice -/
@[simp] def xPart (a : XE) : Rho → R (Option Int) := fun ρ => (a ρ).bind fun x => (dInt x).bind fun i => .ok (some i)
@[simp] def xNoPart : Rho → R (Option Int) := fun _ => .ok none
@[simp] def xCut (a : XE) (l h : Rho → R (Option Int)) : XE := fun ρ => (a ρ).bind fun x => (l ρ).bind fun lo => (h ρ).bind fun hi => dCut x lo hi
/-- a part of a list: a new list -/
@[simp] def xCutL (a : XE) (l h : Rho → R (Option Int)) : XA := fun ρ => (a ρ).bind fun x => (l ρ).bind fun lo => (h ρ).bind fun hi => (dList x).bind fun xs => .ok (cutAt xs lo hi)
@[simp] def xCat (a b : XE) : XA := fun ρ => (a ρ).bind fun x => (b ρ).bind fun y => (dList x).bind fun xs => (dList y).bind fun ys => if Ln (xs.length + ys.length) then .ok (xs ++ ys) else .bad
@[simp] def xRep (a b : XE) : XA := fun ρ => (a ρ).bind fun x => (b ρ).bind fun y => (dList x).bind fun xs => (dInt y).bind fun k => if Rp xs.length k then .ok (List.replicate k.toNat xs).flatten else .bad
@[simp] def xListOf (a : XE) : XA := fun ρ => (a ρ).bind dItems
def dTupOf (x : D) : R D := (dItems x).bind fun xs => .ok (.tup xs)

/-! ### tests -/
@[simp] def tB (a : XE) : XT := fun ρ => (a ρ).bind dAsB
@[simp] def tTru (a : XE) : XT := fun ρ => (a ρ).bind dTru
@[simp] def tAnd (a b : XT) : XT := fun ρ => (a ρ).bind fun k => if k = true then b ρ else .ok false
@[simp] def tOr (a b : XT) : XT := fun ρ => (a ρ).bind fun k => if k = true then .ok true else b ρ
@[simp] def tNot (a : XT) : XT := fun ρ => (a ρ).bind fun k => .ok !k
/-- a < b < c: b once -/
@[simp] def xChain (g h : D → D → R D) (a b c : XE) : XE := fun ρ => (a ρ).bind fun x => (b ρ).bind fun y => (g x y).bind fun z => (dAsB z).bind fun k =>
  if k = true then (c ρ).bind fun w => h y w else .ok (.bl false)

/-! ### targets -/
abbrev XG := D → Rho → R Rho
@[simp] def gNm (i : Nat) : XG := fun d ρ => .ok (ρ.set i (.dat d))
abbrev XGs := List D → Rho → R Rho
def gNil : XGs := fun ds ρ => match ds with
  | [] => .ok ρ
  | _ => .bad
def gCons (g : XG) (r : XGs) : XGs := fun ds ρ => match ds with
  | d :: ds => (g d ρ).bind fun ρ' => r ds ρ'
  | [] => .bad
def gTp (r : XGs) : XG := fun d ρ => match d with
  | .tup xs => r xs ρ
  | _ => .bad
/-- a, b = [..] -/
def gLs (r : XGs) : XG := fun d ρ => match d with
  | .lst xs => r xs ρ
  | _ => .bad

/-! ### comprehensions -/
@[simp] def wipes (ρ : Rho) : List Nat → Rho
  | [] => ρ
  | v :: vs => (wipes ρ vs).set v .no
/-- [e for g in its if t], item by item -/
def lcRun (g : XG) (t : XT) (e : XE) (ρ : Rho) : List D → R (List D)
  | [] => .ok []
  | d :: ds => (g d ρ).bind fun ρ' => (t ρ').bind fun k => if k = true then (e ρ').bind fun y => (lcRun g t e ρ ds).bind fun r => .ok (y :: r) else lcRun g t e ρ ds
def noErr {α : Type} : R α → R α
  | .err _ => .bad
  | r => r
@[simp] def tYes : XT := fun _ => .ok true
@[simp] def xLc (it : XA) (g : XG) (t : XT) (e : XE) (vs : List Nat) : XA := fun ρ => (it ρ).bind fun ds => if Ln ds.length then noErr (lcRun g t e (wipes ρ vs) ds) else .bad
/-- an end of a range -/
structure RgN (n : Int) : Prop where
  lo : -(2 ^ 62) ≤ n
  hi : n < 2 ^ 62
noncomputable instance (n : Int) : Decidable (RgN n) := Classical.propDecidable _
/-- what a loop walks -/
@[simp] def iSeq (a : XE) : XA := fun ρ => (a ρ).bind dItems
def rng (lo : Int) (n : Nat) : List D := (List.range n).map fun (i : Nat) => D.int (lo + (i : Int))
@[simp] def iRng1 (a : XE) : XA := fun ρ => (a ρ).bind fun x => (dInt x).bind fun n => if RgN n then .ok (rng 0 n.toNat) else .bad
@[simp] def iRng2 (a b : XE) : XA := fun ρ => (a ρ).bind fun x => (b ρ).bind fun y => (dInt x).bind fun m => (dInt y).bind fun n => if RgN m ∧ RgN n then .ok (rng m (n - m).toNat) else .bad
@[simp] def iRev (a : XE) : XA := fun ρ => (a ρ).bind fun x => (dItems x).bind fun xs => .ok xs.reverse

/-! ### statements -/
inductive O where
  | nx (ρ : Rho) | rt (s : Sl) | bk (ρ : Rho) | ct (ρ : Rho) | er (e : D) (ρ : Rho) | bad
abbrev XS := Rho → O
def R.thn {α : Type} (r : R α) (ρ : Rho) (f : α → O) : O := match r with
  | .ok a => f a
  | .err e => .er e ρ
  | .bad => .bad
@[simp] theorem R.thn_ok {α : Type} (a : α) (ρ : Rho) (f : α → O) : (R.ok a).thn ρ f = f a := rfl
@[simp] theorem R.thn_err {α : Type} (e : D) (ρ : Rho) (f : α → O) : (R.err e : R α).thn ρ f = .er e ρ := rfl
@[simp] theorem R.thn_bad {α : Type} (ρ : Rho) (f : α → O) : (R.bad : R α).thn ρ f = .bad := rfl
def O.thn (o : O) (f : Rho → O) : O := match o with
  | .nx ρ => f ρ
  | o => o
@[simp] theorem O.thn_nx (ρ : Rho) (f : Rho → O) : (O.nx ρ).thn f = f ρ := rfl
@[simp] theorem O.thn_rt (s : Sl) (f : Rho → O) : (O.rt s).thn f = .rt s := rfl
@[simp] theorem O.thn_bk (ρ : Rho) (f : Rho → O) : (O.bk ρ).thn f = .bk ρ := rfl
@[simp] theorem O.thn_ct (ρ : Rho) (f : Rho → O) : (O.ct ρ).thn f = .ct ρ := rfl
@[simp] theorem O.thn_er (e : D) (ρ : Rho) (f : Rho → O) : (O.er e ρ).thn f = .er e ρ := rfl
@[simp] theorem O.thn_bad (f : Rho → O) : O.bad.thn f = .bad := rfl
@[simp] def sNil : XS := fun ρ => .nx ρ
@[simp] def sSeq (s t : XS) : XS := fun ρ => (s ρ).thn t
def gGo (r : R Rho) (f : Rho → O) : O := match r with
  | .ok ρ => f ρ
  | _ => .bad
@[simp] theorem gGo_ok (ρ : Rho) (f : Rho → O) : gGo (.ok ρ) f = f ρ := rfl
@[simp] def sAsg (e : XE) (g : XG) : XS := fun ρ => (e ρ).thn ρ fun d => gGo (g d ρ) .nx
/-- a, b = x, y -/
@[simp] def sPar (i j : Nat) (a : XA) : XS := fun ρ => (a ρ).thn ρ fun ds => match ds with
  | [x, y] => .nx ((ρ.set i (.dat x)).set j (.dat y))
  | _ => .bad
@[simp] def sPar3 (i j l : Nat) (a : XA) : XS := fun ρ => (a ρ).thn ρ fun ds => match ds with
  | [x, y, z] => .nx (((ρ.set i (.dat x)).set j (.dat y)).set l (.dat z))
  | _ => .bad
/-- i = a new list, the def's own from here -/
@[simp] def sOwn (i : Nat) (e : XA) : XS := fun ρ => (e ρ).thn ρ fun xs => .nx (ρ.set i (.own xs))
/-- i's own list becomes data -/
@[simp] def sFrz (i : Nat) : XS := fun ρ => match ρ[i]? with
  | some (.own xs) => .nx (ρ.set i (.dat (.lst xs)))
  | some (.own2 xss) => .nx (ρ.set i (.dat (.lst (xss.map .lst))))
  | some (.dat d) => .nx ρ
  | _ => .bad
@[simp] def sIf (c : XT) (s t : XS) : XS := fun ρ => (c ρ).thn ρ fun k => if k = true then s ρ else t ρ
@[simp] def sRet (e : XE) : XS := fun ρ => (e ρ).thn ρ fun d => .rt (.dat d)
/-- return a new list, the caller's own -/
@[simp] def sRetN (e : XA) : XS := fun ρ => (e ρ).thn ρ fun xs => .rt (.own xs)
@[simp] def sRetO (i : Nat) : XS := fun ρ => match ρ[i]? with
  | some (.own xs) => .rt (.own xs)
  | _ => .bad
@[simp] def sDrop (e : XE) : XS := fun ρ => (e ρ).thn ρ fun _ => .nx ρ
@[simp] def sBk : XS := fun ρ => .bk ρ
@[simp] def sCt : XS := fun ρ => .ct ρ
@[simp] def sRaise (k : Nat) : XS := fun ρ => .er (.exc k []) ρ
@[simp] def withOwn (ρ : Rho) (i : Nat) (f : List D → O) : O := match ρ[i]? with
  | some (.own xs) => f xs
  | _ => .bad
@[simp] def sApp (i : Nat) (e : XE) : XS := fun ρ => withOwn ρ i fun xs => (e ρ).thn ρ fun d => if Ln xs.length then .nx (ρ.set i (.own (xs ++ [d]))) else .bad
@[simp] def sExt (i : Nat) (e : XE) : XS := fun ρ => withOwn ρ i fun xs => (e ρ).thn ρ fun d => match dList d with
  | .ok ys => if Ln (xs.length + ys.length) then .nx (ρ.set i (.own (xs ++ ys))) else .bad
  | _ => .bad
/-- i.insert(j, e) -/
@[simp] def sIns (i : Nat) (j e : XE) : XS := fun ρ => withOwn ρ i fun xs => (j ρ).thn ρ fun z => (e ρ).thn ρ fun d => match z with
  | .int k => if Ln xs.length ∧ 0 ≤ k ∧ RgN k then .nx (ρ.set i (.own (xs.take k.toNat ++ d :: xs.drop k.toNat))) else .bad
  | _ => .bad
/-- i[j] = e -/
@[simp] def sPut (i : Nat) (j e : XE) : XS := fun ρ => (e ρ).thn ρ fun d => withOwn ρ i fun xs => (j ρ).thn ρ fun z => match z with
  | .int k => (match ixAt xs.length k with
    | some n => .nx (ρ.set i (.own (xs.set n d)))
    | none => .bad)
  | _ => .bad
def forRun (g : XG) (b : XS) : List D → Rho → O
  | [], ρ => .nx ρ
  | d :: ds, ρ => gGo (g d ρ) fun ρ' => match b ρ' with
    | .nx ρ2 => forRun g b ds ρ2
    | .ct ρ2 => forRun g b ds ρ2
    | .bk ρ2 => .nx ρ2
    | o => o
@[simp] def sFor (it : XA) (g : XG) (b : XS) : XS := fun ρ => (it ρ).thn ρ fun ds => forRun g b ds ρ
def whRun (c : XT) (b : XS) : Nat → Rho → O
  | 0, _ => .bad
  | n + 1, ρ => (c ρ).thn ρ fun k => if k = true then (match b ρ with
    | .nx ρ2 => whRun c b n ρ2
    | .ct ρ2 => whRun c b n ρ2
    | .bk ρ2 => .nx ρ2
    | o => o) else .nx ρ
open Classical in
noncomputable def sWh (c : XT) (b : XS) : XS := fun ρ => if h : ∃ n, whRun c b n ρ ≠ .bad then whRun c b h.choose ρ else .bad
/-- a def's body at its arguments: n slots in all -/
def runF (n : Nat) (b : XS) (ds : List D) : R Sl := match b (ds.map Sl.dat ++ List.replicate (n - ds.length) Sl.no) with
  | .nx _ => .ok (.dat .non)
  | .rt s => .ok s
  | .er e _ => .err e
  | _ => .bad
/-- as data -/
def asD : R Sl → R D
  | .ok (.dat d) => .ok d
  | .ok (.own xs) => .ok (.lst xs)
  | .ok (.own2 xss) => .ok (.lst (xss.map .lst))
  | .ok _ => .bad
  | .err e => .err e
  | .bad => .bad
def asO : R Sl → R (List D)
  | .ok (.own xs) => .ok xs
  | .ok (.own2 xss) => .ok (xss.map .lst)
  | .ok _ => .bad
  | .err e => .err e
  | .bad => .bad
def asO2 : R Sl → R (List (List D))
  | .ok (.own2 xss) => .ok xss
  | .ok _ => .bad
  | .err e => .err e
  | .bad => .bad
/-- f(..), f a def of ours; of a built-in; its new list -/
@[simp] def xCall (f : List D → R Sl) (a : XA) : XE := fun ρ => asD ((a ρ).bind f)
@[simp] def xCallN (f : List D → R Sl) (a : XA) : XA := fun ρ => asO ((a ρ).bind f)
@[simp] def xFun (g : List D → R D) (a : XA) : XE := fun ρ => (a ρ).bind g
@[simp] def xFunN (g : List D → R (List D)) (a : XA) : XA := fun ρ => (a ρ).bind g
/-! ### built-ins -/
def one (g : D → R D) : List D → R D
  | [x] => g x
  | _ => .bad
def two (g : D → D → R D) : List D → R D
  | [x, y] => g x y
  | _ => .bad
def bAbs : D → R D
  | .int i => .ok (.int (if i < 0 then -i else i))
  | _ => .bad
def bMax : D → D → R D
  | .int i, .int j => .ok (.int (if j > i then j else i))
  | _, _ => .bad
def bMin : D → D → R D
  | .int i, .int j => .ok (.int (if j < i then j else i))
  | _, _ => .bad
def bInt : D → R D
  | .int i => .ok (.int i)
  | .bl k => .ok (.int (if k then 1 else 0))
  | _ => .bad
def bSum : D → R D
  | .lst xs => (R.of (dInts xs)).bind fun ns => .ok (.int ns.sum)
  | _ => .bad
def bAll : D → R D
  | .lst xs => (R.of (dBls xs)).bind fun bs => .ok (.bl (bs.all id))
  | _ => .bad
def bAny : D → R D
  | .lst xs => (R.of (dBls xs)).bind fun bs => .ok (.bl (bs.any id))
  | _ => .bad
/-- the greatest, the least of ints -/
def topOf : Int → List Int → Int
  | a, [] => a
  | a, b :: r => topOf (if a < b then b else a) r
def botOf : Int → List Int → Int
  | a, [] => a
  | a, b :: r => botOf (if b < a then b else a) r
def bMaxL : D → R D
  | .lst xs => (R.of (dInts xs)).bind fun ns => match ns with
    | a :: r => .ok (.int (topOf a r))
    | [] => .bad
  | _ => .bad
def bMinL : D → R D
  | .lst xs => (R.of (dInts xs)).bind fun ns => match ns with
    | a :: r => .ok (.int (botOf a r))
    | [] => .bad
  | _ => .bad
/-- isinstance with int, bool, list, tuple -/
inductive Ty where
  | int | bool | list | tuple
  deriving DecidableEq
def bIs (t : Ty) : D → R D
  | .non => .ok (.bl false)
  | .bl _ => .ok (.bl (t == .int || t == .bool))
  | .int _ => .ok (.bl (t == .int))
  | .str _ => .ok (.bl false)
  | .lst _ => .ok (.bl (t == .list))
  | .tup _ => .ok (.bl (t == .tuple))
  | _ => .bad
/-- x[::-1] -/
def dBack : D → R D
  | .tup xs => .ok (.tup xs.reverse)
  | .lst xs => .ok (.lst xs.reverse)
  | _ => .bad
/-- list(x), a new list -/
def bList : List D → R (List D)
  | [x] => dItems x
  | _ => .bad
/-- range by steps above nought -/
def rngC (lo c : Int) (n : Nat) : List D := (List.range n).map fun (i : Nat) => D.int (lo + (i : Int) * c)
structure Rg3 (m n k : Int) : Prop where
  h : -(2 ^ 61) ≤ m ∧ m < 2 ^ 61 ∧ -(2 ^ 61) ≤ n ∧ n < 2 ^ 61 ∧ 0 < k ∧ k < 2 ^ 20
noncomputable instance (m n k : Int) : Decidable (Rg3 m n k) := Classical.propDecidable _
@[simp] def iRng3 (a b c : XE) : XA := fun ρ => (a ρ).bind fun x => (b ρ).bind fun y => (c ρ).bind fun z => (dInt x).bind fun m => (dInt y).bind fun n => (dInt z).bind fun k =>
  if Rg3 m n k then .ok (rngC m k (if m < n then (n - m - 1) / k + 1 else 0).toNat) else .bad
/-- not x by truth -/
@[simp] def xNotT (a : XE) : XE := fun ρ => (a ρ).bind fun x => (dTru x).bind fun k => .ok (.bl !k)
/-- a table of the module, as far as it is told of: its keys' answers, and texts that are no keys -/
abbrev Tab := List (Str × Option D)
def dGetT (t : Tab) : D → R D
  | .str x => (match t.lookup x with
    | some o => .ok (o.getD .non)
    | none => .bad)
  | _ => .bad
def dAtT (t : Tab) : D → R D
  | .str x => (match t.lookup x with
    | some (some v) => .ok v
    | _ => .bad)
  | _ => .bad
def dInT (neg : Bool) (t : Tab) : D → R D
  | .str x => (match t.lookup x with
    | some o => .ok (.bl (if neg then !o.isSome else o.isSome))
    | none => .bad)
  | _ => .bad
/-- x in xs, x not in xs -/
def dInN (neg : Bool) (x y : D) : R D := (dIn x y).bind fun k => match k with
  | .bl b => .ok (.bl (if neg then !b else b))
  | _ => .bad
def dIsN (x y : D) : R D := match y with
  | .non => .ok (.bl (isNon x))
  | _ => .bad
def dNotN (x y : D) : R D := match y with
  | .non => .ok (.bl !isNon x)
  | _ => .bad
/-- sem only at lists of its length -/
@[simp] def atN (n : Nat) (sem : List D → R Sl) : List D → R Sl := fun ds => if ds.length = n then sem ds else .bad
/-! ### texts -/
def joinS (sep : Str) : List Str → Str
  | [] => ⟨#[]⟩
  | [x] => x
  | x :: r => ⟨x.cps ++ sep.cps ++ (joinS sep r).cps⟩
def lenJ (sep : Str) (xs : List Str) : Nat := (xs.map fun x => x.length).sum + sep.length * xs.length
def dJoin : D → D → R D
  | .str s, .lst xs => (R.of (dStrs xs)).bind fun ys => if Ln (lenJ s ys) then .ok (.str (joinS s ys)) else .bad
  | _, _ => .bad
/-- a number as a text, in tens -/
def numS (i : Int) : Str := Str.ofString (toString i)
def bStr : D → R D
  | .int i => if i.natAbs.log2 < 1900 then .ok (.str (numS i)) else .bad
  | _ => .bad
/-- a text sign by sign -/
def iStr (a : XE) : XA := fun ρ => (a ρ).bind fun x => match x with
  | .str s => if Ln s.length then .ok (s.cps.toList.map fun c => .str ⟨#[c]⟩) else .bad
  | _ => .bad
/-- the keys of a table of the module -/
def iTab (t : Tab) : XA := fun _ => .ok ((t.filter fun p => p.2.isSome).map fun p => .str p.1)
/-! ### errors as values -/
/-- try: f / except GlyphError as i: j = i, for errors of the classes ks -/
def sKeep (ks : List Nat) (i j : Nat) (f : XS) : XS := fun ρ => match f ρ with
  | .er (.exc m xs) ρ' => if m ∈ ks then .nx (((ρ'.set i (.dat (.exc m xs))).set j (.dat (.exc m xs))).set i .no) else .bad
  | .er _ _ => .bad
  | o => o
/-- isinstance(x, the m-th class of errors), x an error; isinstance(x, ValueError) -/
def bIsX (m : Nat) : D → R D
  | .exc k _ => .ok (.bl (k == m))
  | _ => .bad
def bIsV : D → R D
  | .exc _ _ => .ok (.bl true)
  | _ => .bad
/-- xs.count(x), xs.index(x) -/
def dCount (xs : List D) (x : D) : R D := if dFlat x = true ∧ xs.all dFlat = true then .ok (.int (xs.countP fun y => dEqv y x)) else .bad
def dIndex (xs : List D) (x : D) : R D := if dFlat x = true ∧ xs.all dFlat = true then (match xs.findIdx? fun y => dEqv y x with
    | some j => .ok (.int (j : Nat))
    | none => .bad) else .bad
@[simp] def xMeth (g : List D → D → R D) (a b : XE) : XE := fun ρ => (a ρ).bind fun x => (dList x).bind fun xs => (b ρ).bind fun y => g xs y
/-! ### sorted -/
def iins (x : Int) : List Int → List Int
  | [] => [x]
  | y :: r => if x ≤ y then x :: y :: r else y :: iins x r
def isort : List Int → List Int
  | [] => []
  | x :: r => iins x (isort r)
/-- sorted(xs), whole numbers -/
def bSorted : List D → R (List D)
  | [x] => (dList x).bind fun xs => (R.of (dInts xs)).bind fun ns => if ns.length < 64 then .ok ((isort ns).map .int) else .bad
  | _ => .bad
/-! ### lists of lists of the def's own -/
abbrev XA2 := Rho → R (List (List D))
@[simp] def x2Nil : XA2 := fun _ => .ok []
@[simp] def x2Cons (a : XA) (r : XA2) : XA2 := fun ρ => (a ρ).bind fun x => (r ρ).bind fun xs => .ok (x :: xs)
@[simp] def x2Lst (a : XA2) : XA2 := fun ρ => (a ρ).bind fun xs => if Ln xs.length then .ok xs else .bad
def lcRun2 (g : XG) (t : XT) (e : XA) (ρ : Rho) : List D → R (List (List D))
  | [] => .ok []
  | d :: ds => (g d ρ).bind fun ρ' => (t ρ').bind fun k => if k = true then (e ρ').bind fun y => (lcRun2 g t e ρ ds).bind fun r => .ok (y :: r) else lcRun2 g t e ρ ds
@[simp] def x2Lc (it : XA) (g : XG) (t : XT) (e : XA) (vs : List Nat) : XA2 := fun ρ => (it ρ).bind fun ds => if Ln ds.length then noErr (lcRun2 g t e (wipes ρ vs) ds) else .bad
@[simp] def x2Call (f : List D → R Sl) (a : XA) : XA2 := fun ρ => asO2 ((a ρ).bind f)
/-- i has no other names any more -/
@[simp] def unAl (i : Nat) (ρ : Rho) : Rho := ρ.map fun s => match s with
  | .al j k => if j = i then .no else .al j k
  | s => s
@[simp] def sOwn2 (i : Nat) (e : XA2) : XS := fun ρ => (e ρ).thn ρ fun xss => .nx ((unAl i ρ).set i (.own2 xss))
@[simp] def sRet2 (i : Nat) : XS := fun ρ => match ρ[i]? with
  | some (.own2 xss) => .rt (.own2 xss)
  | _ => .bad
@[simp] def sRet2N (e : XA2) : XS := fun ρ => (e ρ).thn ρ fun xss => .rt (.own2 xss)
@[simp] def withOwn2 (ρ : Rho) (i : Nat) (f : List (List D) → O) : O := match ρ[i]? with
  | some (.own2 xss) => f xss
  | _ => .bad
/-- i.append(a new list) -/
@[simp] def sApp2 (i : Nat) (e : XA) : XS := fun ρ => withOwn2 ρ i fun xss => (e ρ).thn ρ fun ds => if Ln xss.length then .nx (ρ.set i (.own2 (xss ++ [ds]))) else .bad
/-- the row at an index -/
@[simp] def atRow (xss : List (List D)) (z : D) (f : Nat → List D → O) : O := match z with
  | .int n => (match ixAt xss.length n with
    | some k => (match xss[k]? with
      | some row => f k row
      | none => .bad)
    | none => .bad)
  | _ => .bad
/-- i[j].append(e), i[j].extend(e), i[j][l] = e -/
@[simp] def sAppR (i : Nat) (j e : XE) : XS := fun ρ => withOwn2 ρ i fun xss => (j ρ).thn ρ fun z => atRow xss z fun k row => (e ρ).thn ρ fun d => if Ln row.length then .nx (ρ.set i (.own2 (xss.set k (row ++ [d])))) else .bad
@[simp] def sExtR (i : Nat) (j e : XE) : XS := fun ρ => withOwn2 ρ i fun xss => (j ρ).thn ρ fun z => atRow xss z fun k row => (e ρ).thn ρ fun d => match dList d with
  | .ok ys => if Ln (row.length + ys.length) then .nx (ρ.set i (.own2 (xss.set k (row ++ ys)))) else .bad
  | _ => .bad
@[simp] def sPutR (i : Nat) (j l e : XE) : XS := fun ρ => (e ρ).thn ρ fun d => withOwn2 ρ i fun xss => (j ρ).thn ρ fun z => atRow xss z fun k row => (l ρ).thn ρ fun y => match y with
  | .int n => (match ixAt row.length n with
    | some m => .nx (ρ.set i (.own2 (xss.set k (row.set m d))))
    | none => .bad)
  | _ => .bad
/-- i = j[e], another name of an item -/
@[simp] def sAl (i j : Nat) (e : XE) : XS := fun ρ => withOwn2 ρ j fun xss => (e ρ).thn ρ fun z => atRow xss z fun k _ => .nx (ρ.set i (.al j k))
/-- i[l] = e, i another name of an item -/
@[simp] def sPutA (i : Nat) (l e : XE) : XS := fun ρ => (e ρ).thn ρ fun d => match ρ[i]? with
  | some (.al j k) => withOwn2 ρ j fun xss => (match xss[k]? with
    | some row => (l ρ).thn ρ fun y => match y with
      | .int n => (match ixAt row.length n with
        | some m => .nx (ρ.set j (.own2 (xss.set k (row.set m d))))
        | none => .bad)
      | _ => .bad
    | none => .bad)
  | _ => .bad
/-- looks at such a list, at an item of it by another name -/
@[simp] def xRowOf {α : Type} (ρ : Rho) (i : Nat) (f : List D → R α) : R α := match ρ[i]? with
  | some (.own2 xss) => f (xss.map .lst)
  | some (.al j k) => (match ρ[j]? with
    | some (.own2 xss) => (match xss[k]? with
      | some row => f row
      | none => .bad)
    | _ => .bad)
  | some (.own xs) => f xs
  | some (.dat (.lst xs)) => f xs
  | _ => .bad
@[simp] def xRow (i : Nat) (e : XE) : XE := fun ρ => xRowOf ρ i fun xs => (e ρ).bind fun z => dIx (.lst xs) z
@[simp] def xLenO (i : Nat) : XE := fun ρ => xRowOf ρ i fun xs => .ok (.int xs.length)
@[simp] def xIsLO (i : Nat) : XE := fun ρ => xRowOf ρ i fun _ => .ok (.bl true)
@[simp] def tTruO (i : Nat) : XT := fun ρ => xRowOf ρ i fun xs => .ok !xs.isEmpty
@[simp] def xNotO (i : Nat) : XE := fun ρ => xRowOf ρ i fun xs => .ok (.bl xs.isEmpty)
/-- a list of the def's own, as data while e is reckoned -/
@[simp] def frzO (i : Nat) (ρ : Rho) : Rho := match ρ[i]? with
  | some (.own xs) => ρ.set i (.dat (.lst xs))
  | some (.own2 xss) => ρ.set i (.dat (.lst (xss.map .lst)))
  | _ => ρ
/-- f(.., i, ..), its answer dropped; i is the def's own behind it, too -/
@[simp] def sLend (i : Nat) (e : XE) : XS := fun ρ => (e (frzO i ρ)).thn (frzO i ρ) fun _ => .nx ρ
/-- for i in js[0] + js[1] ..: i.append(e) -/
@[simp] def rowApp (d : D) (ρ : Rho) : List Nat → Option Rho
  | [] => some ρ
  | j :: js => match ρ[j]? with
    | some (.own2 xss) => if xss.all fun row => decide (row.length < 1000000) then rowApp d (ρ.set j (.own2 (xss.map fun row => row ++ [d]))) js else none
    | _ => none
@[simp] def xIfN (c : XT) (a b : XA) : XA := fun ρ => (c ρ).bind fun k => if k = true then a ρ else b ρ
/-- i.append(i.pop(0)) -/
@[simp] def sRot (i : Nat) : XS := fun ρ => withOwn ρ i fun xs => match xs with
  | [] => .bad
  | x :: r => if Ln r.length then .nx (ρ.set i (.own (r ++ [x]))) else .bad
/-- if c: s; i is data while c is reckoned and in s, and the def's own behind it where c is not so -/
@[simp] def sIfL (i : Nat) (c : XT) (s : XS) : XS := fun ρ => (c (frzO i ρ)).thn (frzO i ρ) fun k => if k = true then s (frzO i ρ) else .nx ρ
/-- for i in j + l: i.append(d); none of the three is looked at behind -/
def sRowsN (i j l : Nat) : XS := fun ρ => withOwn2 ρ j fun xss => withOwn2 ρ l fun yss =>
  if i < ρ.length ∧ (∀ r ∈ xss ++ yss, r.length ≤ 1000000) ∧ (xss ++ yss).length ≤ 1000000 then .nx (((ρ.set j .no).set l .no).set i .no) else .bad
/-! ### instances -/
def putD (f : Str) (d : D) : List (Str × D) → List (Str × D)
  | [] => [(f, d)]
  | (g, x) :: r => if g = f then (g, d) :: r else (g, x) :: putD f d r
/-- o.f, o of the k-th class -/
def dFld (k : Nat) (f : Str) : D → R D
  | .obj j ns xs => if j = k then R.of ((ns.zip xs).lookup f) else .bad
  | _ => .bad
/-- the instance's class and names are fit for a call of m -/
def dOf (k : Nat) (m : Str) : D → R D
  | .obj j ns xs => if j = k ∧ m ∉ ns then .ok (.obj j ns xs) else .bad
  | _ => .bad
/-- o.m(..), n parameters with self -/
@[simp] def xObjM (k : Nat) (m : Str) (n : Nat) (sem : List D → R Sl) (o : XE) (a : XA) : XE := fun ρ => asD (((o ρ).bind (dOf k m)).bind fun d => (a ρ).bind fun ds => if (d :: ds).length = n then sem (d :: ds) else .bad)
/-- what is so at every address -/
noncomputable def mkAll (f : Nat → R (List (Str × D))) : R (List (Str × D)) := open Classical in if h : ∃ r, ∀ a, f a = r then h.choose else .bad
/-- C(..) of the k-th class, __init__ of n parameters with self -/
@[simp] noncomputable def xMake (k n : Nat) (sem : Nat → List D → R (List (Str × D))) (a : XA) : XE := fun ρ => (a ρ).bind fun ds => if ds.length + 1 = n then (mkAll fun x => sem x ds).bind fun fs => .ok (.obj k (fs.map (·.1)) (fs.map (·.2))) else .bad
/-- self.f = e -/
@[simp] def sSelf (k i : Nat) (f : Str) (e : XE) : XS := fun ρ => (e ρ).thn ρ fun d => match (ρ[i]? : Option Sl) with
  | some (Sl.ins p j fs) => if j = k ∧ fs.length < 1000 then .nx (ρ.set i (.ins p j (putD f d fs))) else .bad
  | _ => .bad
/-- __init__ of the k-th class, n slots, self the first -/
def runI (n k : Nat) (b : XS) (a : Nat) (ds : List D) : R (List (Str × D)) := match b (.ins a k [] :: ds.map Sl.dat ++ List.replicate (n - (ds.length + 1)) .no) with
  | .nx ρ => (match (ρ[0]? : Option Sl) with
    | some (Sl.ins p j fs) => if p = a ∧ j = k then .ok fs else .bad
    | _ => .bad)
  | .er e _ => .err e
  | _ => .bad
/-! ### written tables, sets -/
/-- {..}.get(x, y), {..}[x]: keys are texts, written with flat things -/
def dGet2L (t : List (Str × D)) (y : D) : D → R D
  | .str z => .ok ((t.lookup z).getD y)
  | _ => .bad
def dAtL (t : List (Str × D)) : D → R D
  | .str z => (match t.lookup z with
    | some d => .ok d
    | none => .bad)
  | _ => .bad
/-- sorted(set(xs)), whole numbers: each once, rising -/
def dset : List Int → List Int
  | [] => []
  | x :: r => if x ∈ r then dset r else x :: dset r
def bSortedSet : D → R (List D)
  | .lst xs => (R.of (dInts xs)).bind fun ns => if ns.length < 64 then .ok ((isort (dset ns)).map .int) else .bad
  | _ => .bad
@[simp] def xSSet (a : XE) : XA := fun ρ => (a ρ).bind bSortedSet
@[simp] def tIfT (c a b : XT) : XT := fun ρ => (c ρ).bind fun k => if k = true then a ρ else b ρ
end
end Gy

end

section
set_option Elab.async false
set_option linter.all false
set_option maxRecDepth 100000
set_option maxHeartbeats 4000000
/-! GyW: the layer's readings tied to GyD: what code does with plain data, proved once a construct. -/
namespace Gy
open PySem PySem.Spec PyProof.Rows L2
abbrev Frag := PySem.W.Frag

/-! ### values and heaps that hold data: F is the part that never changes again -/
/-- an error object that is held as a value -/
def ExH (cls : Value) (d : Option Addr) (a : Addr) : HO := .ext fun h => ∃ (oe : Obj) (vs : Array Value), h.get? a = some oe ∧ Zc cls d oe ∧ oe.data = .fields vs
/-- what the written part says of an error's class, so that its instances may be asked for their class -/
structure KC (K : Frag) (C : Addr) : Prop where
  cl : (PySem.W.clsIn K C).isSome = true
  ga : PySem.W.findIn K (.ref C) "__getattribute__" = some (some (.builtin "BaseException.__getattribute__"))
  gt : PySem.W.findIn K (.ref C) "__getattr__" = some none
  sb : PySem.W.subIn K (.ref C) (.type "BaseException") = some true
  ca : PySem.W.findIn K (.ref C) "__class__" = some (some (.builtin "object.__class__"))
  sp : PySem.W.specialIn K (.builtin "object.__class__") "__get__" = some (some (.builtin "getset_descriptor.__get__"))
  tk : PySem.W.takesIn K (.builtin "object.__class__") = some true
  mr : PySem.W.mroIn K C (.type "object") = some true
/-- and of the k-th error's class among the others; the sixth is above them -/
structure KEx (K : Frag) (cv : Nat → Addr) (k : Nat) : Prop where
  c : KC K (cv k)
  is : ∀ m, m < 6 → PySem.W.kitOne K (.ref (cv k)) (.ref (cv m)) = some (k == m)
  iv : PySem.W.kitOne K (.ref (cv k)) (.type "ValueError") = some true
  ex : PySem.W.exmOne K (.ref (cv k)) (.ref (cv 6)) = some true
mutual
inductive Dt (K : Frag) (cv : Nat → Addr) (F : Hp) : V → D → Prop
  | non : Dt K cv F .non .non
  | bl (b : Bool) : Dt K cv F (.bl b) (.bl b)
  | int (i : Int) : Dt K cv F (.int i) (.int i)
  | str (x : Str) : Dt K cv F (.str x) (.str x)
  | lst {a : Addr} {vs : List V} {ds : List D} : F a = some (.lst vs) → Dts K cv F vs ds → Dt K cv F (.ref a) (.lst ds)
  | tup {a : Addr} {vs : List V} {ds : List D} : SqT K F a vs → Dts K cv F vs ds → Dt K cv F (.ref a) (.tup ds)
  | scr {a : Addr} {ns : List Int} : SqL K F a (ns.map V.int) → Dt K cv F (.ref a) (.scr ns)
  | obj {a dx : Addr} {k : Nat} {fs : List (Str × V)} {ds : List D} : F a = some (.ins (cv k) dx fs) → Dts K cv F (fs.map (·.2)) ds → Dt K cv F (.ref a) (.obj k (fs.map (·.1)) ds)
  | exc0 {a : Addr} {k : Nat} : KEx K cv k → F a = some (ExH (.ref (cv k)) none a) → Dt K cv F (.ref a) (.exc k [])
  | exc1 {a d : Addr} {k : Nat} {n : Str} {v : V} {x : D} : KEx K cv k → F a = some (ExH (.ref (cv k)) (some d) a) → F d = some (.xd [(n, v)]) → Dt K cv F v x → Dt K cv F (.ref a) (.exc k [.str n, x])
inductive Dts (K : Frag) (cv : Nat → Addr) (F : Hp) : List V → List D → Prop
  | nil : Dts K cv F [] []
  | cons {v : V} {vs : List V} {d : D} {ds : List D} : Dt K cv F v d → Dts K cv F vs ds → Dts K cv F (v :: vs) (d :: ds)
end
theorem Same.tup {K : Frag} {H H' : Hp} {a : Addr} {xs : List V} (e : Same H H') (h : SqT K H a xs) : SqT K H' a xs := by
  rcases h with (h | ⟨o, h⟩) | h
  · exact .inl (.inl (e _ _ h))
  · exact .inl (.inr ⟨o, e _ _ h⟩)
  · exact .inr h
section
variable {K : Frag} {cv : Nat → Addr} {F F' : Hp}
mutual
theorem Dt.mono (s : Same F F') : ∀ {v : V} {d : D}, Dt K cv F v d → Dt K cv F' v d
  | _, _, .non => .non
  | _, _, .bl b => .bl b
  | _, _, .int i => .int i
  | _, _, .str x => .str x
  | _, _, .lst h r => .lst (s _ _ h) (Dts.mono s r)
  | _, _, .tup h r => .tup (Same.tup s h) (Dts.mono s r)
  | _, _, .scr h => .scr (s.seq h)
  | _, _, .obj h r => .obj (s _ _ h) (Dts.mono s r)
  | _, _, .exc0 k h => .exc0 k (s _ _ h)
  | _, _, .exc1 k h h2 r => .exc1 k (s _ _ h) (s _ _ h2) (Dt.mono s r)
theorem Dts.mono (s : Same F F') : ∀ {vs : List V} {ds : List D}, Dts K cv F vs ds → Dts K cv F' vs ds
  | _, _, .nil => .nil
  | _, _, .cons h r => .cons (Dt.mono s h) (Dts.mono s r)
end
theorem Dts.length : ∀ {vs : List V} {ds : List D}, Dts K cv F vs ds → vs.length = ds.length
  | _, _, .nil => rfl
  | _, _, .cons _ r => by rw [List.length_cons, List.length_cons, Dts.length r]
theorem Dts.get : ∀ {vs : List V} {ds : List D} {i : Nat} {d : D}, Dts K cv F vs ds → ds[i]? = some d → ∃ v, vs[i]? = some v ∧ Dt K cv F v d
  | _, _, _, _, .nil, e => by simp at e
  | _, _, 0, _, .cons h _, e => by
    simp at e
    subst e
    exact ⟨_, rfl, h⟩
  | _, _, i + 1, d, .cons _ r, e => by
    obtain ⟨v, h1, h2⟩ := Dts.get (i := i) (d := d) r (by simpa using e)
    exact ⟨v, by simpa using h1, h2⟩
theorem Dts.append : ∀ {vs ws : List V} {ds es : List D}, Dts K cv F vs ds → Dts K cv F ws es → Dts K cv F (vs ++ ws) (ds ++ es)
  | _, _, _, _, .nil, s => s
  | _, _, _, _, .cons h r, s => .cons h (Dts.append r s)
theorem Dts.take : ∀ {vs : List V} {ds : List D} (n : Nat), Dts K cv F vs ds → Dts K cv F (vs.take n) (ds.take n)
  | _, _, 0, _ => .nil
  | _, _, _ + 1, .nil => .nil
  | _, _, n + 1, .cons h r => .cons h (Dts.take n r)
theorem Dts.drop : ∀ {vs : List V} {ds : List D} (n : Nat), Dts K cv F vs ds → Dts K cv F (vs.drop n) (ds.drop n)
  | _, _, 0, r => r
  | _, _, _ + 1, .nil => .nil
  | _, _, n + 1, .cons _ r => Dts.drop n r
theorem Dts.set : ∀ {vs : List V} {ds : List D} {v : V} {d : D} (n : Nat), Dts K cv F vs ds → Dt K cv F v d → Dts K cv F (vs.set n v) (ds.set n d)
  | _, _, _, _, _, .nil, _ => .nil
  | _, _, _, _, 0, .cons _ r, h => .cons h r
  | _, _, _, _, n + 1, .cons g r, h => .cons g (Dts.set n r h)
theorem Dts.rev {vs : List V} {ds : List D} (h : Dts K cv F vs ds) : Dts K cv F vs.reverse ds.reverse := by
  induction vs generalizing ds with
  | nil => cases h; exact .nil
  | cons v vs ih =>
    cases h with
    | cons h r =>
      rw [List.reverse_cons, List.reverse_cons]
      exact (ih r).append (.cons h .nil)
theorem Dts.rep {vs : List V} {ds : List D} (h : Dts K cv F vs ds) : ∀ k : Nat, Dts K cv F (List.replicate k vs).flatten (List.replicate k ds).flatten
  | 0 => .nil
  | k + 1 => by
    rw [List.replicate_succ, List.replicate_succ, List.flatten_cons, List.flatten_cons]
    exact h.append (Dts.rep h k)
theorem Dts.one {v : V} {d : D} (h : Dt K cv F v d) : Dts K cv F [v] [d] := .cons h .nil

/-! ### growth -/
/-- from F in H to F' in H': H stays, F grows by new things alone -/
structure Ext (F H F' H' : Hp) : Prop where
  ff : Same F F'
  fh : Same F' H'
  hh : Same H H'
  nw : ∀ a o, F' a = some o → (∃ u, F a = some u) ∨ H a = none
theorem Ext.refl {F H : Hp} (h : Same F H) : Ext F H F H := ⟨Same.refl F, h, Same.refl H, fun a o e => .inl ⟨o, e⟩⟩
theorem Ext.trans {F H F1 H1 F2 H2 : Hp} (a : Ext F H F1 H1) (b : Ext F1 H1 F2 H2) : Ext F H F2 H2 :=
  ⟨a.ff.trans b.ff, b.fh, a.hh.trans b.hh, fun c o e => by
    rcases b.nw c o e with ⟨u, h⟩ | h
    · exact a.nw c u h
    · exact .inr (a.hh.free h)⟩
theorem same_upd {H : Hp} {p : Addr} {o : HO} (h : H p = none) : Same H (upd H p o) := fun b x e => by
  rw [upd_ne (ne_of_none e h)]
  exact e
theorem none_f {F H : Hp} (s : Same F H) {p : Addr} (h : H p = none) : F p = none := s.free h
/-- a new thing that is data -/
theorem Ext.new {F H : Hp} (s : Same F H) {p : Addr} {o : HO} (h : H p = none) : Ext F H (upd F p o) (upd H p o) :=
  ⟨same_upd (s.free h), fun b x e => by
    by_cases hb : b = p
    · subst hb
      rw [upd_same] at e ⊢
      exact e
    · rw [upd_ne hb] at e ⊢
      exact s b x e, same_upd h, fun b x e => by
    by_cases hb : b = p
    · subst hb
      exact .inr h
    · rw [upd_ne hb] at e
      exact .inl ⟨x, e⟩⟩
/-- a new thing that is not data yet -/
theorem Ext.hid {F H : Hp} (s : Same F H) {p : Addr} {o : HO} (h : H p = none) : Ext F H F (upd H p o) :=
  ⟨Same.refl F, s.trans (same_upd h), same_upd h, fun b x e => .inl ⟨x, e⟩⟩

/-! ### slots -/
theorem upd_off {H : Hp} {a b : Addr} {ob : HO} {S : List Addr} (hb : b ∈ S) (ha : a ∉ S) : upd H a ob b = H b := upd_ne fun z => ha (by rw [← z]; exact hb)
theorem upd_off' {H : Hp} {a b : Addr} {ob : HO} {S : List Addr} (ha : a ∈ S) (hb : b ∉ S) : upd H a ob b = H b := upd_ne fun z => hb (by rw [z]; exact ha)
/-- lists that are not data yet, one after another -/
inductive Rows (K : Frag) (cv : Nat → Addr) (B F H : Hp) : List Addr → List (List D) → Prop
  | nil : Rows K cv B F H [] []
  | cons {q : Addr} {qs : List Addr} {vs : List V} {ds : List D} {xss : List (List D)} : B q = none → F q = none → H q = some (.lst vs) → Dts K cv F vs ds → Rows K cv B F H qs xss → Rows K cv B F H (q :: qs) (ds :: xss)
def SlV (K : Frag) (cv : Nat → Addr) (B F H : Hp) : Sl → Option V → Prop
  | .no, _ => True
  | .dat d, o => ∃ v, o = some v ∧ Dt K cv F v d
  | .own ds, o => ∃ p vs, o = some (.ref p) ∧ B p = none ∧ F p = none ∧ H p = some (.lst vs) ∧ Dts K cv F vs ds
  | .own2 xss, o => ∃ (p : Addr) (qs : List Addr), o = some (.ref p) ∧ (p :: qs).Nodup ∧ B p = none ∧ F p = none ∧ H p = some (.lst (qs.map V.ref)) ∧ Rows K cv B F H qs xss
  | .al _ _, _ => True
  | .ins p k fs, o => ∃ dx gs, o = some (.ref p) ∧ B p = none ∧ F p = none ∧ H p = some (.ins (cv k) dx gs) ∧ gs.map (·.1) = fs.map (·.1) ∧ Dts K cv F (gs.map (·.2)) (fs.map (·.2))
/-- which addresses are the slot's own -/
def SlP (H : Hp) : Sl → Option V → List Addr → Prop
  | .own _, o, fp => ∀ p, o = some (.ref p) → p ∈ fp
  | .own2 _, o, fp => ∀ (p : Addr) (qs : List Addr), o = some (.ref p) → H p = some (.lst (qs.map V.ref)) → ∀ a ∈ p :: qs, a ∈ fp
  | .ins p _ _, _, fp => p ∈ fp
  | _, _, _ => True
structure Own (K : Frag) (cv : Nat → Addr) (B : Hp) (ρ : Rho) (σ : L2.St) (F H : Hp) (fp : Nat → List Addr) : Prop where
  sl : ∀ (i : Nat) (s : Sl) (o : Option V), ρ[i]? = some s → σ[i]? = some o → SlV K cv B F H s o ∧ SlP H s o (fp i)
  sep : ∀ (i j : Nat) (a : Addr), i ≠ j → a ∈ fp i → a ∉ fp j
  on : ∀ (i : Nat) (a : Addr), a ∈ fp i → ∃ o, H a = some o
/-- other names of items -/
def Als (ρ : Rho) (σ : L2.St) (H : Hp) : Prop := ∀ (i j k : Nat) (xss : List (List D)), ρ[i]? = some (.al j k) → ρ[j]? = some (.own2 xss) →
  ∃ (p : Addr) (qs : List Addr) (q : Addr), σ[j]? = some (some (.ref p)) ∧ H p = some (.lst (qs.map V.ref)) ∧ qs[k]? = some q ∧ σ[i]? = some (some (.ref q))
structure Rel (K : Frag) (cv : Nat → Addr) (F0 B : Hp) (ρ : Rho) (σ : L2.St) (F H : Hp) : Prop where
  ex : Ext F0 B F H
  len : ρ.length = σ.length
  own : ∃ fp, Own K cv B ρ σ F H fp
  al : Als ρ σ H
variable {F0 B B' H H' : Hp} {ρ : Rho} {σ : L2.St}
theorem refs_inj {qs rs : List Addr} (h : qs.map V.ref = rs.map V.ref) : qs = rs := by
  induction qs generalizing rs with
  | nil => cases rs with
    | nil => rfl
    | cons _ _ => cases h
  | cons q qs ih => cases rs with
    | nil => cases h
    | cons r rs =>
      simp only [List.map_cons, List.cons.injEq, V.ref.injEq] at h
      rw [h.1, ih h.2]
theorem Rows.length : ∀ {qs : List Addr} {xss : List (List D)}, Rows K cv B F H qs xss → qs.length = xss.length
  | _, _, .nil => rfl
  | _, _, .cons _ _ _ _ r => by rw [List.length_cons, List.length_cons, Rows.length r]
theorem Rows.get : ∀ {qs : List Addr} {xss : List (List D)} {k : Nat} {row : List D}, Rows K cv B F H qs xss → xss[k]? = some row → ∃ q vs, qs[k]? = some q ∧ B q = none ∧ F q = none ∧ H q = some (.lst vs) ∧ Dts K cv F vs row
  | _, _, _, _, .nil, e => by simp at e
  | _, _, 0, _, .cons h1 h2 h3 h4 _, e => by
    simp at e
    subst e
    exact ⟨_, _, rfl, h1, h2, h3, h4⟩
  | _, _, k + 1, row, .cons _ _ _ _ r, e => by
    obtain ⟨q, vs, g⟩ := Rows.get (k := k) (row := row) r (by simpa using e)
    exact ⟨q, vs, by simpa using g.1, g.2⟩
theorem Rows.mem : ∀ {qs : List Addr} {xss : List (List D)} {q : Addr}, Rows K cv B F H qs xss → q ∈ qs → B q = none ∧ F q = none ∧ ∃ vs, H q = some (.lst vs)
  | _, _, _, .nil, e => by cases e
  | _, _, q, .cons h1 h2 h3 h4 r, e => by
    rcases List.mem_cons.mp e with rfl | e
    · exact ⟨h1, h2, _, h3⟩
    · exact r.mem e
theorem Rows.imp : ∀ {qs : List Addr} {xss : List (List D)}, Rows K cv B F H qs xss → Same F F' → (∀ q ∈ qs, B' q = none) → (∀ q ∈ qs, F' q = none) → (∀ q ∈ qs, ∀ vs, H q = some (.lst vs) → H' q = some (.lst vs)) → Rows K cv B' F' H' qs xss
  | _, _, .nil, _, _, _, _ => .nil
  | _, _, .cons h1 h2 h3 h4 r, s, b, f, h => .cons (b _ List.mem_cons_self) (f _ List.mem_cons_self) (h _ List.mem_cons_self _ h3) (h4.mono s) (r.imp s (fun q hq => b q (List.mem_cons_of_mem _ hq)) (fun q hq => f q (List.mem_cons_of_mem _ hq)) fun q hq => h q (List.mem_cons_of_mem _ hq))
theorem Rows.snoc : ∀ {qs : List Addr} {xss : List (List D)} {q : Addr} {vs : List V} {ds : List D}, Rows K cv B F H qs xss → B q = none → F q = none → H q = some (.lst vs) → Dts K cv F vs ds → Rows K cv B F H (qs ++ [q]) (xss ++ [ds])
  | _, _, _, _, _, .nil, h1, h2, h3, h4 => .cons h1 h2 h3 h4 .nil
  | _, _, _, _, _, .cons g1 g2 g3 g4 r, h1, h2, h3, h4 => .cons g1 g2 g3 g4 (r.snoc h1 h2 h3 h4)
theorem Rows.set : ∀ {qs : List Addr} {xss : List (List D)} {q : Addr} {k : Nat} {vs : List V} {ds : List D}, Rows K cv B F H qs xss → qs.Nodup → qs[k]? = some q → Dts K cv F vs ds → Rows K cv B F (upd H q (.lst vs)) qs (xss.set k ds)
  | _, _, _, _, _, _, .nil, _, e, _ => by simp at e
  | _, _, q, 0, vs, ds, .cons g1 g2 g3 g4 r, nd, e, h => by
    simp at e
    subst e
    obtain ⟨n1, n2⟩ := List.nodup_cons.mp nd
    refine .cons g1 g2 upd_same h (r.imp (Same.refl F) (fun q hq => (r.mem hq).1) (fun q hq => (r.mem hq).2.1) fun q hq us e => ?_)
    rw [upd_off hq n1]
    exact e
  | _, _, q, k + 1, vs, ds, .cons g1 g2 g3 g4 r, nd, e, h => by
    obtain ⟨n1, n2⟩ := List.nodup_cons.mp nd
    have e' : _ := (by simpa using e : _)
    refine .cons g1 g2 ?_ g4 (r.set n2 e' h)
    rw [upd_off' (List.mem_of_getElem? e') n1]
    exact g3
theorem Rows.dts : ∀ {qs : List Addr} {xss : List (List D)}, Rows K cv B F H qs xss → Same F F' → (∀ q ∈ qs, F' q = H q) → Dts K cv F' (qs.map V.ref) (xss.map D.lst)
  | _, _, .nil, _, _ => .nil
  | _, _, .cons _ _ h3 h4 r, s, h => .cons (.lst ((h _ List.mem_cons_self).trans h3) (h4.mono s)) (r.dts s fun q hq => h q (List.mem_cons_of_mem _ hq))
theorem Rel.fh (r : Rel K cv F0 B ρ σ F H) : Same F H := r.ex.fh
/-- what is not in F and stands in H is not in F later on -/
theorem Ext.out {F H F' H' : Hp} (e : Ext F H F' H') {p : Addr} {o : HO} (h1 : F p = none) (h2 : H p = some o) : F' p = none := by
  cases q : F' p with
  | none => rfl
  | some o' =>
    rcases e.nw p o' q with ⟨u, z⟩ | z
    · rw [h1] at z
      cases z
    · rw [h2] at z
      cases z
theorem SlV.ext {s : Sl} {o : Option V} (h : SlV K cv B F H s o) (e : Ext F H F' H') : SlV K cv B F' H' s o := by
  cases s with
  | no => trivial
  | al j k => trivial
  | dat d =>
    obtain ⟨v, e1, e2⟩ := h
    exact ⟨v, e1, e2.mono e.ff⟩
  | own ds =>
    obtain ⟨p, vs, e1, e2, e3, e4, e5⟩ := h
    exact ⟨p, vs, e1, e2, e.out e3 e4, e.hh _ _ e4, e5.mono e.ff⟩
  | ins p k fs =>
    obtain ⟨dx, gs, e1, e2, e3, e4, e5, e6⟩ := h
    exact ⟨dx, gs, e1, e2, e.out e3 e4, e.hh _ _ e4, e5, e6.mono e.ff⟩
  | own2 xss =>
    obtain ⟨p, qs, e1, e2, e3, e4, e5, e6⟩ := h
    refine ⟨p, qs, e1, e2, e3, e.out e4 e5, e.hh _ _ e5, e6.imp e.ff (fun q hq => (e6.mem hq).1) (fun q hq => ?_) fun q hq vs z => e.hh _ _ z⟩
    obtain ⟨_, f, vs, z⟩ := e6.mem hq
    exact e.out f z
theorem SlP.ext {s : Sl} {o : Option V} {fp : List Addr} (h : SlV K cv B F H s o) (hp : SlP H s o fp) (e : Same H H') : SlP H' s o fp := by
  cases s with
  | no => trivial
  | al j k => trivial
  | dat d => trivial
  | own ds => exact hp
  | ins p k fs => exact hp
  | own2 xss =>
    obtain ⟨p, qs, rfl, e2, e3, e4, e5, e6⟩ := h
    intro p' qs' e1 z
    cases e1
    rw [e _ _ e5] at z
    simp only [Option.some.injEq, HO.lst.injEq] at z
    have z := refs_inj z
    subst z
    exact hp p qs rfl e5
theorem Rel.ext (r : Rel K cv F0 B ρ σ F H) (e : Ext F H F' H') : Rel K cv F0 B ρ σ F' H' := by
  obtain ⟨fp, w⟩ := r.own
  refine ⟨r.ex.trans e, r.len, ⟨fp, fun i s o h1 h2 => ?_, w.sep, fun i a h => ?_⟩, fun i j k xss h1 h2 => ?_⟩
  · obtain ⟨a, b⟩ := w.sl i s o h1 h2
    exact ⟨a.ext e, b.ext a e.hh⟩
  · obtain ⟨o, z⟩ := w.on i a h
    exact ⟨o, e.hh _ _ z⟩
  · obtain ⟨p, qs, q, a1, a2, a3, a4⟩ := r.al i j k xss h1 h2
    exact ⟨p, qs, q, a1, e.hh _ _ a2, a3, a4⟩
theorem Rel.at (r : Rel K cv F0 B ρ σ F H) {i : Nat} {s : Sl} (h : ρ[i]? = some s) : ∃ o, σ[i]? = some o := by
  obtain ⟨hi, _⟩ := List.getElem?_eq_some_iff.mp h
  have hi2 : i < σ.length := by
    rw [← r.len]
    exact hi
  exact ⟨σ[i], List.getElem?_eq_getElem hi2⟩
theorem Rel.slot (r : Rel K cv F0 B ρ σ F H) {i : Nat} {s : Sl} (h : ρ[i]? = some s) : ∃ o, σ[i]? = some o ∧ SlV K cv B F H s o := by
  obtain ⟨o, ho⟩ := r.at h
  obtain ⟨fp, w⟩ := r.own
  exact ⟨o, ho, (w.sl i s o h ho).1⟩
theorem set_at {α : Type} {l : List α} {i : Nat} {x y : α} (h : (l.set i x)[i]? = some y) : y = x ∧ i < l.length := by
  rw [List.getElem?_set, if_pos rfl] at h
  split at h
  · exact ⟨(Option.some.inj h).symm, by assumption⟩
  · cases h
def NotAl (ρ : Rho) (i : Nat) (s : Sl) : Prop := (∀ j k, s ≠ Sl.al j k) ∧ ∀ xss, s = Sl.own2 xss → ∀ (j k : Nat), ρ[j]? ≠ some (Sl.al i k)
theorem Als.set {s : Sl} {v : Option V} {i : Nat} (h : Als ρ σ H) (n : NotAl ρ i s) : Als (ρ.set i s) (σ.set i v) H := fun a b k xss h1 h2 => by
  by_cases ha : i = a
  · subst ha
    obtain ⟨e, _⟩ := set_at h1
    exact absurd e.symm (n.1 b k)
  · rw [List.getElem?_set_ne ha] at h1
    by_cases hb : i = b
    · subst hb
      obtain ⟨e, _⟩ := set_at h2
      exact absurd h1 (n.2 xss e.symm a k)
    · rw [List.getElem?_set_ne hb] at h2
      rw [List.getElem?_set_ne ha, List.getElem?_set_ne hb]
      exact h a b k xss h1 h2
/-- a slot is given a thing that is new since F1, H1 -/
theorem Rel.putN {F1 H1 : Hp} (r : Rel K cv F0 B ρ σ F1 H1) (e : Ext F1 H1 F H) {v : Option V} {s : Sl} (i : Nat) (h : SlV K cv B F H s v) (fn : List Addr) (hp : SlP H s v fn) (nw : ∀ a ∈ fn, H1 a = none) (on : ∀ a ∈ fn, ∃ o, H a = some o) (na : NotAl ρ i s) :
    Rel K cv F0 B (ρ.set i s) (σ.set i v) F H := by
  have r2 := r.ext e
  obtain ⟨fp, w⟩ := r.own
  have out : ∀ j a, a ∈ fp j → a ∉ fn := fun j a h1 h2 => by
    obtain ⟨o, z⟩ := w.on j a h1
    rw [nw a h2] at z
    cases z
  refine ⟨r2.ex, by rw [List.length_set, List.length_set, r.len], ⟨fun j => if j = i then fn else fp j, fun j t o h1 h2 => ?_, fun j k a hjk h1 h2 => ?_, fun j a h1 => ?_⟩, r2.al.set na⟩
  · by_cases hj : i = j
    · subst hj
      obtain ⟨rfl, _⟩ := set_at h1
      obtain ⟨rfl, _⟩ := set_at h2
      rw [if_pos rfl]
      exact ⟨h, hp⟩
    · rw [List.getElem?_set_ne hj] at h1 h2
      rw [if_neg (Ne.symm hj)]
      obtain ⟨a, b⟩ := w.sl j t o h1 h2
      exact ⟨a.ext e, b.ext a e.hh⟩
  · by_cases hj : j = i
    · rw [if_pos hj] at h1
      rw [if_neg (fun z => hjk (hj.trans z.symm))] at h2
      exact out k a h2 h1
    · rw [if_neg hj] at h1
      by_cases hk : k = i
      · rw [if_pos hk] at h2
        exact out j a h1 h2
      · rw [if_neg hk] at h2
        exact w.sep j k a hjk h1 h2
  · by_cases hj : j = i
    · rw [if_pos hj] at h1
      exact on a h1
    · rw [if_neg hj] at h1
      obtain ⟨o, z⟩ := w.on j a h1
      exact ⟨o, e.hh _ _ z⟩
theorem notAl_dat {d : D} {i : Nat} : NotAl ρ i (.dat d) := ⟨fun _ _ => by simp, fun _ z => by cases z⟩
theorem notAl_own {d : List D} {i : Nat} : NotAl ρ i (.own d) := ⟨fun _ _ => by simp, fun _ z => by cases z⟩
theorem notAl_no {i : Nat} : NotAl ρ i .no := ⟨fun _ _ => by simp, fun _ z => by cases z⟩
theorem Rel.setD (r : Rel K cv F0 B ρ σ F H) {v : V} {d : D} (i : Nat) (h : Dt K cv F v d) : Rel K cv F0 B (ρ.set i (.dat d)) (σ.set i (some v)) F H :=
  r.putN (Ext.refl r.fh) i ⟨v, rfl, h⟩ [] trivial (fun _ z => by cases z) (fun _ z => by cases z) notAl_dat
theorem Rel.setN (r : Rel K cv F0 B ρ σ F H) (i : Nat) (o : Option V) : Rel K cv F0 B (ρ.set i .no) (σ.set i o) F H :=
  r.putN (Ext.refl r.fh) i trivial [] trivial (fun _ z => by cases z) (fun _ z => by cases z) notAl_no
/-- a new list becomes a slot's own -/
theorem Rel.setO {F1 H1 : Hp} (r : Rel K cv F0 B ρ σ F1 H1) (e : Ext F1 H1 F H) {p : Addr} {vs : List V} {ds : List D} (i : Nat) (n1 : H1 p = none) (n2 : F p = none) (h : H p = some (.lst vs)) (d : Dts K cv F vs ds) : Rel K cv F0 B (ρ.set i (.own ds)) (σ.set i (some (.ref p))) F H :=
  r.putN e i ⟨p, vs, rfl, r.ex.hh.free n1, n2, h, d⟩ [p] (fun q z => by cases z; simp) (fun a z => by simp at z; subst z; exact n1) (fun a z => by simp at z; subst z; exact ⟨_, h⟩) notAl_own
/-- a list of new lists -/
def New2 (K : Frag) (cv : Nat → Addr) (H0 F H : Hp) (xss : List (List D)) (v : V) : Prop := ∃ (p : Addr) (qs : List Addr), v = .ref p ∧ (p :: qs).Nodup ∧ H0 p = none ∧ F p = none ∧ H p = some (.lst (qs.map V.ref)) ∧ Rows K cv H0 F H qs xss
theorem Rows.base {qs : List Addr} {xss : List (List D)} (r : Rows K cv B F H qs xss) (h : ∀ q ∈ qs, B' q = none) : Rows K cv B' F H qs xss := r.imp (Same.refl F) h (fun q hq => (r.mem hq).2.1) fun _ _ _ z => z
theorem unAl_get {i j : Nat} {s : Sl} (h : (unAl i ρ)[j]? = some s) : (ρ[j]? = some s ∧ ∀ k, s ≠ .al i k) ∨ (s = .no ∧ ∃ t, ρ[j]? = some t) := by
  unfold unAl at h
  rw [List.getElem?_map] at h
  cases e : ρ[j]? with
  | none => rw [e] at h; cases h
  | some t =>
    rw [e] at h
    cases t with
    | al a b =>
      simp only [Option.map_some, Option.some.injEq] at h
      by_cases c : a = i
      · rw [if_pos c] at h
        exact .inr ⟨h.symm, _, rfl⟩
      · rw [if_neg c] at h
        subst h
        exact .inl ⟨rfl, fun k z => by cases z; exact c rfl⟩
    | _ =>
      simp only [Option.map_some, Option.some.injEq] at h
      subst h
      exact .inl ⟨rfl, fun k z => by cases z⟩
theorem Rel.unAl (r : Rel K cv F0 B ρ σ F H) (i : Nat) : Rel K cv F0 B (unAl i ρ) σ F H := by
  obtain ⟨fp, w⟩ := r.own
  refine ⟨r.ex, by unfold Gy.unAl; rw [List.length_map, r.len], ⟨fp, fun j s o h1 h2 => ?_, w.sep, w.on⟩, fun a b k xss h1 h2 => ?_⟩
  · rcases unAl_get h1 with ⟨h1, _⟩ | ⟨rfl, _⟩
    · exact w.sl j s o h1 h2
    · exact ⟨trivial, trivial⟩
  · rcases unAl_get h1 with ⟨h1, _⟩ | ⟨z, _⟩
    · rcases unAl_get h2 with ⟨h2, _⟩ | ⟨z, _⟩
      · exact r.al a b k xss h1 h2
      · cases z
    · cases z
theorem Rel.set2 {F1 H1 : Hp} (r : Rel K cv F0 B ρ σ F1 H1) (e : Ext F1 H1 F H) {v : V} {xss : List (List D)} (i : Nat) (h : New2 K cv H1 F H xss v) : Rel K cv F0 B ((Gy.unAl i ρ).set i (.own2 xss)) (σ.set i (some v)) F H := by
  obtain ⟨p, qs, rfl, nd, n1, n2, h1, rw1⟩ := h
  refine (r.unAl i).putN e i ⟨p, qs, rfl, nd, r.ex.hh.free n1, n2, h1, rw1.base fun q hq => r.ex.hh.free (rw1.mem hq).1⟩ (p :: qs) (fun p' qs' z1 z2 => ?_) (fun a z => ?_) (fun a z => ?_) ⟨fun _ _ => by simp, fun _ _ j k z => ?_⟩
  · cases z1
    rw [h1] at z2
    simp only [Option.some.injEq, HO.lst.injEq] at z2
    have z2 := refs_inj z2
    subst z2
    exact fun a ha => ha
  · rcases List.mem_cons.mp z with rfl | z
    · exact n1
    · exact (rw1.mem z).1
  · rcases List.mem_cons.mp z with rfl | z
    · exact ⟨_, h1⟩
    · obtain ⟨_, _, vs, hv⟩ := rw1.mem z
      exact ⟨_, hv⟩
  · rcases unAl_get z with ⟨_, n⟩ | ⟨n, _⟩
    · exact n k rfl
    · cases n
/-- a slot's own thing is changed at one address -/
theorem Rel.wr (r : Rel K cv F0 B ρ σ F H) {i : Nat} {s s' : Sl} {o : Option V} {a : Addr} {ob : HO} (hs : ρ[i]? = some s) (ho : σ[i]? = some o) (ha : ∀ fp, SlP H s o fp → a ∈ fp) (hB : B a = none) (hF : F a = none)
    (hv : SlV K cv B F (upd H a ob) s' o) (hp : ∀ fp, SlP H s o fp → SlP (upd H a ob) s' o fp) (al : Als (ρ.set i s') σ (upd H a ob)) : Rel K cv F0 B (ρ.set i s') σ F (upd H a ob) := by
  obtain ⟨fp, w⟩ := r.own
  have hi := ha _ (w.sl i s o hs ho).2
  refine ⟨⟨r.ex.ff, fun b u e => ?_, fun b u e => ?_, r.ex.nw⟩, by rw [List.length_set, r.len], ⟨fp, fun j t u h1 h2 => ?_, w.sep, fun j b h => ?_⟩, al⟩
  · rw [upd_ne (ne_of_none e hF)]
    exact r.ex.fh b u e
  · rw [upd_ne (ne_of_none e hB)]
    exact r.ex.hh b u e
  · by_cases hj : i = j
    · subst hj
      obtain ⟨rfl, _⟩ := set_at h1
      rw [ho] at h2
      cases h2
      exact ⟨hv, hp _ (w.sl i s o hs ho).2⟩
    · rw [List.getElem?_set_ne hj] at h1
      obtain ⟨z1, z2⟩ := w.sl j t u h1 h2
      have nj : a ∉ fp j := w.sep i j a hj hi
      cases t with
      | no => exact ⟨trivial, trivial⟩
      | al _ _ => exact ⟨trivial, trivial⟩
      | dat d => exact ⟨z1, trivial⟩
      | own ys =>
        obtain ⟨q, ws, rfl, c1, c2, c3, c4⟩ := z1
        refine ⟨⟨q, ws, rfl, c1, c2, ?_, c4⟩, z2⟩
        rw [upd_off (z2 q rfl) nj]
        exact c3
      | ins q k fs =>
        obtain ⟨dx, gs, rfl, c1, c2, c3, c4, c5⟩ := z1
        refine ⟨⟨dx, gs, rfl, c1, c2, ?_, c4, c5⟩, z2⟩
        rw [upd_off z2 nj]
        exact c3
      | own2 xss =>
        obtain ⟨q, qs, rfl, c1, c2, c3, c4, c5⟩ := z1
        have inn := z2 q qs rfl c4
        have e4 : upd H a ob q = some (.lst (qs.map V.ref)) := by
          rw [upd_off (inn q List.mem_cons_self) nj]
          exact c4
        refine ⟨⟨q, qs, rfl, c1, c2, c3, e4, c5.imp (Same.refl F) (fun x hx => (c5.mem hx).1) (fun x hx => (c5.mem hx).2.1) fun x hx vs e => ?_⟩, fun q' qs' y1 y2 => ?_⟩
        · rw [upd_off (inn x (List.mem_cons_of_mem _ hx)) nj]
          exact e
        · cases y1
          rw [e4] at y2
          simp only [Option.some.injEq, HO.lst.injEq] at y2
          have y2 := refs_inj y2
          subst y2
          exact inn
  · by_cases hb : b = a
    · subst hb
      exact ⟨_, upd_same⟩
    · rw [upd_ne hb]
      exact w.on j b h
theorem Als.chg {s s' : Sl} {i : Nat} {a : Addr} {ob : HO} (h : Als ρ σ H) (hs : ρ[i]? = some s) (n1 : ∀ j k, s' ≠ Sl.al j k) (n2 : ∀ xss, s' = Sl.own2 xss → ∃ yss, s = Sl.own2 yss) (na : ∀ (j : Nat) (xss : List (List D)) (p : Addr) (qs : List Addr), ρ[j]? = some (.own2 xss) → σ[j]? = some (some (.ref p)) → H p = some (.lst (qs.map V.ref)) → ∃ rs : List Addr, upd H a ob p = some (.lst ((qs ++ rs).map V.ref))) : Als (ρ.set i s') σ (upd H a ob) := fun x b k xss h1 h2 => by
  have h1 : ρ[x]? = some (.al b k) := by
    by_cases hx : i = x
    · subst hx
      obtain ⟨e, _⟩ := set_at h1
      exact absurd e.symm (n1 b k)
    · rw [List.getElem?_set_ne hx] at h1
      exact h1
  have h2 : ∃ yss, ρ[b]? = some (.own2 yss) := by
    by_cases hb : i = b
    · subst hb
      obtain ⟨e, _⟩ := set_at h2
      obtain ⟨yss, z⟩ := n2 xss e.symm
      exact ⟨yss, by rw [hs, z]⟩
    · rw [List.getElem?_set_ne hb] at h2
      exact ⟨_, h2⟩
  obtain ⟨yss, h2⟩ := h2
  obtain ⟨p, qs, q, a1, a2, a3, a4⟩ := h x b k yss h1 h2
  obtain ⟨rs, z⟩ := na b yss p qs h2 a1 a2
  refine ⟨p, qs ++ rs, q, a1, z, ?_, a4⟩
  rw [List.getElem?_append_left (List.getElem?_eq_some_iff.mp a3).1]
  exact a3
/-- an own list's address is no list of lists' -/
theorem Rel.apart (r : Rel K cv F0 B ρ σ F H) {i j : Nat} {s : Sl} {o : Option V} {a p : Addr} {qs : List Addr} {xss : List (List D)} (hs : ρ[i]? = some s) (ho : σ[i]? = some o) (ha : ∀ fp, SlP H s o fp → a ∈ fp) (hj : ρ[j]? = some (.own2 xss)) (hp : σ[j]? = some (some (.ref p))) (hq : H p = some (.lst (qs.map V.ref))) (n : i ≠ j) : p ≠ a := fun z => by
  obtain ⟨fp, w⟩ := r.own
  have m1 := ha _ (w.sl i s o hs ho).2
  have m2 := (w.sl j _ _ hj hp).2 p qs rfl hq p List.mem_cons_self
  subst z
  exact w.sep i j p n m1 m2
/-- a slot's own list is changed -/
theorem Rel.chg (r : Rel K cv F0 B ρ σ F H) {i : Nat} {xs ds : List D} {p : Addr} {vs : List V} (h : ρ[i]? = some (.own xs)) (hp : σ[i]? = some (some (.ref p))) (d : Dts K cv F vs ds) : Rel K cv F0 B (ρ.set i (.own ds)) σ F (upd H p (.lst vs)) := by
  obtain ⟨o, h3, p', vs', e, b1, b2, b3, b4⟩ := r.slot h
  rw [hp] at h3
  cases h3
  cases e
  have fo : ∀ fp, SlP H (.own xs) (some (.ref p)) fp → p ∈ fp := fun fp z => z p rfl
  refine r.wr h hp fo b1 b2 ⟨p, vs, rfl, b1, b2, upd_same, d⟩ (fun fp z => z) (r.al.chg h (fun _ _ => by simp) (fun _ z => by cases z) fun j xss q qs g1 g2 g3 => ⟨[], ?_⟩)
  have n : i ≠ j := fun z => by
    subst z
    rw [h] at g1
    cases g1
  rw [upd_ne (r.apart h hp fo g1 g2 g3 n), List.append_nil]
  exact g3
/-- an own instance is changed -/
theorem Rel.chgI (r : Rel K cv F0 B ρ σ F H) {i k : Nat} {fs fs' : List (Str × D)} {p dx : Addr} {gs' : List (Str × V)} (h : ρ[i]? = some (.ins p k fs)) (hp : σ[i]? = some (some (.ref p))) (e1 : gs'.map (·.1) = fs'.map (·.1)) (d : Dts K cv F (gs'.map (·.2)) (fs'.map (·.2))) : Rel K cv F0 B (ρ.set i (.ins p k fs')) σ F (upd H p (.ins (cv k) dx gs')) := by
  obtain ⟨o, h3, dx', gs, e, b1, b2, b3, b4⟩ := r.slot h
  rw [hp] at h3
  cases h3
  have fo : ∀ fp, SlP H (.ins p k fs) (some (.ref p)) fp → p ∈ fp := fun fp z => z
  refine r.wr h hp fo b1 b2 ⟨dx, gs', rfl, b1, b2, upd_same, e1, d⟩ (fun fp z => z) (r.al.chg h (fun _ _ => by simp) (fun _ z => by cases z) fun j xss q qs g1 g2 g3 => ⟨[], ?_⟩)
  have n : i ≠ j := fun z => by
    subst z
    rw [h] at g1
    cases g1
  rw [upd_ne (r.apart h hp fo g1 g2 g3 n), List.append_nil]
  exact g3
/-- a row of a list of lists is changed -/
theorem Rel.chgR (r : Rel K cv F0 B ρ σ F H) {i k : Nat} {xss : List (List D)} {ds : List D} {p q : Addr} {qs : List Addr} {vs : List V} (h : ρ[i]? = some (.own2 xss)) (hp : σ[i]? = some (some (.ref p))) (hq : H p = some (.lst (qs.map V.ref))) (hk : qs[k]? = some q) (d : Dts K cv F vs ds) : Rel K cv F0 B (ρ.set i (.own2 (xss.set k ds))) σ F (upd H q (.lst vs)) := by
  obtain ⟨o, h3, p', qs', e, nd, b1, b2, b3, b4⟩ := r.slot h
  rw [hp] at h3
  cases h3
  cases e
  rw [hq] at b3
  simp only [Option.some.injEq, HO.lst.injEq] at b3
  have b3 := refs_inj b3
  subst b3
  have mq : q ∈ qs := List.mem_of_getElem? hk
  obtain ⟨c1, c2, us, c3⟩ := b4.mem mq
  obtain ⟨n1, n2⟩ := List.nodup_cons.mp nd
  have pq : p ≠ q := fun z => n1 (z ▸ mq)
  have fo : ∀ fp, SlP H (.own2 xss) (some (.ref p)) fp → q ∈ fp := fun fp z => z p qs rfl hq q (List.mem_cons_of_mem _ mq)
  have hq' : upd H q (.lst vs) p = some (.lst (qs.map V.ref)) := by
    rw [upd_ne pq]
    exact hq
  refine r.wr h hp fo c1 c2 ⟨p, qs, rfl, nd, b1, b2, hq', b4.set n2 hk d⟩ (fun fp z p2 qs2 z1 z2 => ?_) (r.al.chg h (fun _ _ => by simp) (fun _ z => ⟨_, rfl⟩) fun j yss p2 qs2 g1 g2 g3 => ⟨[], ?_⟩)
  · cases z1
    rw [hq'] at z2
    simp only [Option.some.injEq, HO.lst.injEq] at z2
    have z2 := refs_inj z2
    subst z2
    exact z p qs rfl hq
  · rw [List.append_nil]
    by_cases n : i = j
    · subst n
      rw [hp] at g2
      cases g2
      rw [upd_ne pq]
      exact g3
    · rw [upd_ne (r.apart h hp fo g1 g2 g3 n)]
      exact g3
/-- a list of lists gets one more -/
theorem Rel.chgA {F1 H1 : Hp} (r : Rel K cv F0 B ρ σ F1 H1) (e : Ext F1 H1 F H) {i : Nat} {xss : List (List D)} {ds : List D} {p q : Addr} {qs : List Addr} {vs : List V} (h : ρ[i]? = some (.own2 xss)) (hp : σ[i]? = some (some (.ref p))) (hq : H1 p = some (.lst (qs.map V.ref))) (n1 : H1 q = none) (n2 : F q = none) (n3 : H q = some (.lst vs)) (d : Dts K cv F vs ds) :
    Rel K cv F0 B (ρ.set i (.own2 (xss ++ [ds]))) σ F (upd H p (.lst ((qs ++ [q]).map V.ref))) := by
  have r2 := r.ext e
  obtain ⟨fp, w⟩ := r.own
  have hqq := e.hh _ _ hq
  obtain ⟨o, h3, p', qs', e', nd, b1, b2, b3, b4⟩ := r2.slot h
  rw [hp] at h3
  cases h3
  cases e'
  rw [hqq] at b3
  simp only [Option.some.injEq, HO.lst.injEq] at b3
  have b3 := refs_inj b3
  subst b3
  have inn := (w.sl i _ _ h hp).2 p qs rfl hq
  have nq : ∀ j, q ∉ fp j := fun j z => by
    obtain ⟨o, y⟩ := w.on j q z
    rw [n1] at y
    cases y
  have pq : p ≠ q := fun z => nq i (z ▸ inn p List.mem_cons_self)
  have ep : upd H p (.lst ((qs ++ [q]).map V.ref)) p = some (.lst ((qs ++ [q]).map V.ref)) := upd_same
  obtain ⟨m1, m2⟩ := List.nodup_cons.mp nd
  have hB : B q = none := r.ex.hh.free n1
  refine ⟨⟨r2.ex.ff, fun b u z => ?_, fun b u z => ?_, r2.ex.nw⟩, by rw [List.length_set, r.len], ⟨fun j => if j = i then q :: fp i else fp j, fun j t u h1 h2 => ?_, fun j k a hjk h1 h2 => ?_, fun j a h1 => ?_⟩, r2.al.chg h (fun _ _ => by simp) (fun _ _ => ⟨_, rfl⟩) fun j yss p2 qs2 g1 g2 g3 => ?_⟩
  · rw [upd_ne (ne_of_none z b2)]
    exact r2.ex.fh b u z
  · rw [upd_ne (ne_of_none z b1)]
    exact r2.ex.hh b u z
  · by_cases hj : i = j
    · subst hj
      obtain ⟨rfl, _⟩ := set_at h1
      rw [hp] at h2
      cases h2
      rw [if_pos rfl]
      refine ⟨⟨p, qs ++ [q], rfl, ?_, b1, b2, ep, ?_⟩, fun p2 qs2 z1 z2 a ha => ?_⟩
      · refine List.nodup_cons.mpr ⟨fun z => ?_, List.nodup_append.mpr ⟨m2, List.nodup_cons.mpr ⟨List.not_mem_nil, List.nodup_nil⟩, fun a ha b hb z => ?_⟩⟩
        · rcases List.mem_append.mp z with z | z
          · exact m1 z
          · exact pq (by simpa using z)
        · have hb : b = q := by simpa using hb
          subst z hb
          exact nq i (inn a (List.mem_cons_of_mem _ ha))
      · have b5 : Rows K cv B F (upd H p (.lst ((qs ++ [q]).map V.ref))) qs xss := b4.imp (Same.refl F) (fun x hx => (b4.mem hx).1) (fun x hx => (b4.mem hx).2.1) fun x hx us z => by
          rw [upd_off hx m1]
          exact z
        exact b5.snoc hB n2 (by rw [upd_ne (Ne.symm pq)]; exact n3) d
      · cases z1
        rw [ep] at z2
        simp only [Option.some.injEq, HO.lst.injEq] at z2
        have z2 := refs_inj z2
        subst z2
        rcases List.mem_cons.mp ha with rfl | ha
        · exact List.mem_cons_of_mem _ (inn _ List.mem_cons_self)
        · rcases List.mem_append.mp ha with ha | ha
          · exact List.mem_cons_of_mem _ (inn _ (List.mem_cons_of_mem _ ha))
          · have : a = q := by simpa using ha
            subst this
            exact List.mem_cons_self
    · rw [List.getElem?_set_ne hj] at h1
      rw [if_neg (Ne.symm hj)]
      obtain ⟨z1, z2⟩ := w.sl j t u h1 h2
      have z3 := z1.ext e
      have z4 := z2.ext z1 e.hh
      have nj : p ∉ fp j := w.sep i j p hj (inn p List.mem_cons_self)
      cases t with
      | no => exact ⟨trivial, trivial⟩
      | al _ _ => exact ⟨trivial, trivial⟩
      | dat d => exact ⟨z3, trivial⟩
      | own ys =>
        obtain ⟨q', ws, rfl, c1, c2, c3, c4⟩ := z3
        refine ⟨⟨q', ws, rfl, c1, c2, ?_, c4⟩, z4⟩
        rw [upd_off (z4 q' rfl) nj]
        exact c3
      | ins q' k fs =>
        obtain ⟨dx, gs, rfl, c1, c2, c3, c4, c5⟩ := z3
        refine ⟨⟨dx, gs, rfl, c1, c2, ?_, c4, c5⟩, z4⟩
        rw [upd_off z4 nj]
        exact c3
      | own2 yss =>
        obtain ⟨q', qs', rfl, c1, c2, c3, c4, c5⟩ := z3
        have inn' := z4 q' qs' rfl c4
        have e4 : upd H p (.lst ((qs ++ [q]).map V.ref)) q' = some (.lst (qs'.map V.ref)) := by
          rw [upd_off (inn' q' List.mem_cons_self) nj]
          exact c4
        refine ⟨⟨q', qs', rfl, c1, c2, c3, e4, c5.imp (Same.refl F) (fun x hx => (c5.mem hx).1) (fun x hx => (c5.mem hx).2.1) fun x hx vs e => ?_⟩, fun q2 qs2 y1 y2 => ?_⟩
        · rw [upd_off (inn' x (List.mem_cons_of_mem _ hx)) nj]
          exact e
        · cases y1
          rw [e4] at y2
          simp only [Option.some.injEq, HO.lst.injEq] at y2
          have y2 := refs_inj y2
          subst y2
          exact inn'
  · by_cases hj : j = i
    · rw [if_pos hj] at h1
      rw [if_neg fun z => hjk (hj.trans z.symm)] at h2
      rcases List.mem_cons.mp h1 with rfl | h1
      · exact nq k h2
      · exact w.sep i k a (fun z => hjk (hj.trans z)) h1 h2
    · rw [if_neg hj] at h1
      by_cases hk : k = i
      · rw [if_pos hk] at h2
        rcases List.mem_cons.mp h2 with rfl | h2
        · exact nq j h1
        · exact w.sep j i a hj h1 h2
      · rw [if_neg hk] at h2
        exact w.sep j k a hjk h1 h2
  · by_cases ha : a = p
    · subst ha
      exact ⟨_, upd_same⟩
    · rw [upd_ne ha]
      by_cases hj : j = i
      · rw [if_pos hj] at h1
        rcases List.mem_cons.mp h1 with rfl | h1
        · exact ⟨_, n3⟩
        · obtain ⟨o, z⟩ := w.on i a h1
          exact ⟨o, e.hh _ _ z⟩
      · rw [if_neg hj] at h1
        obtain ⟨o, z⟩ := w.on j a h1
        exact ⟨o, e.hh _ _ z⟩
  · by_cases n : i = j
    · subst n
      rw [hp] at g2
      cases g2
      rw [hqq] at g3
      simp only [Option.some.injEq, HO.lst.injEq] at g3
      have g3 := refs_inj g3
      subst g3
      exact ⟨[q], ep⟩
    · refine ⟨[], ?_⟩
      have fo : ∀ fp, SlP H (.own2 xss) (some (.ref p)) fp → p ∈ fp := fun fp z => z p qs rfl hqq p List.mem_cons_self
      rw [upd_ne (r2.apart h hp fo g1 g2 g3 n), List.append_nil]
      exact g3
/-- own things become data -/
theorem Rel.frzG (r : Rel K cv F0 B ρ σ F H) {i : Nat} {s : Sl} {o : Option V} {v : V} {d : D} {fz : List Addr} (hs : ρ[i]? = some s) (ho : σ[i]? = some o) (hv : o = some v) (hf : ∀ fp, SlP H s o fp → ∀ a ∈ fz, a ∈ fp) (hB : ∀ a ∈ fz, B a = none) (s1 : Same F F') (s2 : Same F' H) (nw : ∀ a u, F' a = some u → (∃ u', F a = some u') ∨ a ∈ fz) (hd : Dt K cv F' v d) :
    Rel K cv F0 B (ρ.set i (.dat d)) σ F' H := by
  obtain ⟨fp, w⟩ := r.own
  have hi := hf _ (w.sl i s o hs ho).2
  have out : ∀ j a, i ≠ j → a ∈ fp j → F a = none → F' a = none := fun j a hj ha hF => by
    cases e : F' a with
    | none => rfl
    | some u =>
      rcases nw a u e with ⟨u', z⟩ | z
      · rw [hF] at z
        cases z
      · exact absurd ha (w.sep i j a hj (hi a z))
  refine ⟨⟨r.ex.ff.trans s1, s2, r.ex.hh, fun a u e => ?_⟩, by rw [List.length_set, r.len], ⟨fp, fun j t u h1 h2 => ?_, w.sep, w.on⟩, ?_⟩
  · rcases nw a u e with ⟨u', z⟩ | z
    · exact r.ex.nw a u' z
    · exact .inr (hB a z)
  · by_cases hj : i = j
    · subst hj
      obtain ⟨rfl, _⟩ := set_at h1
      rw [ho] at h2
      cases h2
      exact ⟨⟨v, hv, hd⟩, trivial⟩
    · rw [List.getElem?_set_ne hj] at h1
      obtain ⟨z1, z2⟩ := w.sl j t u h1 h2
      refine ⟨?_, z2⟩
      cases t with
      | no => trivial
      | al _ _ => trivial
      | dat d =>
        obtain ⟨x, e1, e2⟩ := z1
        exact ⟨x, e1, e2.mono s1⟩
      | own ys =>
        obtain ⟨q, ws, rfl, c1, c2, c3, c4⟩ := z1
        exact ⟨q, ws, rfl, c1, out j q hj (z2 q rfl) c2, c3, c4.mono s1⟩
      | ins q k fs =>
        obtain ⟨dx, gs, rfl, c1, c2, c3, c4, c5⟩ := z1
        exact ⟨dx, gs, rfl, c1, out j q hj z2 c2, c3, c4, c5.mono s1⟩
      | own2 yss =>
        obtain ⟨q, qs, rfl, c1, c2, c3, c4, c5⟩ := z1
        have inn := z2 q qs rfl c4
        exact ⟨q, qs, rfl, c1, c2, out j q hj (inn q List.mem_cons_self) c3, c4, c5.imp s1 (fun x hx => (c5.mem hx).1) (fun x hx => out j x hj (inn x (List.mem_cons_of_mem _ hx)) (c5.mem hx).2.1) fun _ _ _ z => z⟩
  · have z := r.al.set (i := i) (s := .dat d) (v := o) notAl_dat
    have e : σ.set i o = σ := by
      refine List.ext_getElem? fun j => ?_
      by_cases hj : i = j
      · subst hj
        rw [List.getElem?_set_self (List.getElem?_eq_some_iff.mp ho).1, ho]
      · rw [List.getElem?_set_ne hj]
    rw [e] at z
    exact z
/-- a slot's own list becomes data -/
theorem Rel.frz (r : Rel K cv F0 B ρ σ F H) {i : Nat} {xs : List D} (h : ρ[i]? = some (.own xs)) : ∃ p vs, σ[i]? = some (some (.ref p)) ∧ F p = none ∧ H p = some (.lst vs) ∧ Dts K cv F vs xs ∧ Rel K cv F0 B (ρ.set i (.dat (.lst xs))) σ (upd F p (.lst vs)) H := by
  obtain ⟨o, h3, p, vs, rfl, b1, b2, b3, b4⟩ := r.slot h
  have s1 : Same F (upd F p (.lst vs)) := same_upd b2
  refine ⟨p, vs, h3, b2, b3, b4, r.frzG h h3 rfl (fz := [p]) (fun fp z a ha => by simp at ha; subst ha; exact z _ rfl) (fun a ha => by simp at ha; subst ha; exact b1) s1 (fun a o e => ?_) (fun a o e => ?_) (.lst upd_same (b4.mono s1))⟩
  · by_cases ha : a = p
    · subst ha
      rw [upd_same] at e
      rw [b3]
      exact e
    · rw [upd_ne ha] at e
      exact r.ex.fh a o e
  · by_cases ha : a = p
    · subst ha
      exact .inr (by simp)
    · rw [upd_ne ha] at e
      exact .inl ⟨_, e⟩
/-- F and what stands in H at these -/
def also (F H : Hp) (fz : List Addr) : Hp := fun a => if a ∈ fz then H a else F a
theorem also_in {fz : List Addr} {a : Addr} (h : a ∈ fz) : also F H fz a = H a := if_pos h
theorem also_out {fz : List Addr} {a : Addr} (h : a ∉ fz) : also F H fz a = F a := if_neg h
theorem also_same {fz : List Addr} (h : ∀ a ∈ fz, F a = none) : Same F (also F H fz) := fun b u e => by
  by_cases hb : b ∈ fz
  · rw [h b hb] at e
    cases e
  · rw [also_out hb]
    exact e
theorem also_le {fz : List Addr} (s : Same F H) : Same (also F H fz) H := fun b u e => by
  by_cases hb : b ∈ fz
  · rw [also_in hb] at e
    exact e
  · rw [also_out hb] at e
    exact s _ _ e
theorem also_nw {fz : List Addr} (a : Addr) (u : HO) (e : also F H fz a = some u) : (∃ u', F a = some u') ∨ a ∈ fz := by
  by_cases hb : a ∈ fz
  · exact .inr hb
  · rw [also_out hb] at e
    exact .inl ⟨_, e⟩
theorem Rel.frz2 (r : Rel K cv F0 B ρ σ F H) {i : Nat} {xss : List (List D)} (h : ρ[i]? = some (.own2 xss)) : ∃ F', Same F F' ∧ Rel K cv F0 B (ρ.set i (.dat (.lst (xss.map .lst)))) σ F' H := by
  obtain ⟨o, h3, p, qs, rfl, nd, b1, b2, b3, b4⟩ := r.slot h
  have fa : ∀ a ∈ p :: qs, F a = none := fun a ha => by
    rcases List.mem_cons.mp ha with rfl | ha
    · exact b2
    · exact (b4.mem ha).2.1
  have s1 : Same F (also F H (p :: qs)) := also_same fa
  refine ⟨_, s1, r.frzG h h3 rfl (fz := p :: qs) (fun fp z => z p qs rfl b3) (fun a ha => ?_) s1 (also_le r.ex.fh) also_nw (.lst ((also_in List.mem_cons_self).trans b3) (b4.dts s1 fun q hq => also_in (List.mem_cons_of_mem _ hq)))⟩
  rcases List.mem_cons.mp ha with rfl | ha
  · exact b1
  · exact (b4.mem ha).1
end
end Gy

end

section
set_option Elab.async false
set_option linter.all false
set_option maxRecDepth 100000
set_option maxHeartbeats 4000000
/-! GyE: expressions. -/
namespace Gy
open PySem PySem.Spec PyProof.Rows L2

/-! ### what an expression comes to -/
def ExcOk (K : Frag) (cv : Nat → Addr) (F : Hp) : D → Value → Option Addr → Prop
  | .exc k [], cls, d => cls = .ref (cv k) ∧ d = none
  | .exc k [.str n, x], cls, d => cls = .ref (cv k) ∧ ∃ dd v, d = some dd ∧ F dd = some (.xd [(n, v)]) ∧ Dt K cv F v x
  | _, _, _ => False
theorem ExcOk.mono {K : Frag} {cv : Nat → Addr} {F F' : Hp} (s : Same F F') {e : D} {cls : Value} {d : Option Addr} (h : ExcOk K cv F e cls d) : ExcOk K cv F' e cls d := by
  unfold ExcOk at h ⊢
  split at h
  · exact h
  · obtain ⟨h1, dd, v, h2, h3, h4⟩ := h
    exact ⟨h1, dd, v, h2, s _ _ h3, h4.mono s⟩
  · exact h.elim
/-- what is held of a result: the heap ahead, the data, the thing, F and H behind -/
abbrev Hld (α β : Type) := Hp → α → β → Hp → Hp → Prop
def Anti {α β : Type} (h : Hld α β) : Prop := ∀ H H1 a b F' H', Same H H1 → h H1 a b F' H' → h H a b F' H'
def wR (K : Frag) (cv : Nat → Addr) (W : WX) (σ : L2.St) (F H : Hp) {α β : Type} (r : R α) (hold : Hld α β) (Q : β → Hp → Prop) : Prop :=
  match r with
  | .ok a => ∀ b F' H', Ext F H F' H' → hold H a b F' H' → Q b H'
  | .err e => ∀ cls d F' H', Ext F H F' H' → ExcOk K cv F' e cls d → W cls d σ H'
  | .bad => False
def hD (K : Frag) (cv : Nat → Addr) : Hld D V := fun _ d v F' _ => Dt K cv F' v d
def Lk (K : Frag) (cv : Nat → Addr) (F H : Hp) (v : V) (d : D) : Prop := Dt K cv F v d ∨ ∃ p vs ds, v = .ref p ∧ d = .lst ds ∧ H p = some (.lst vs) ∧ Dts K cv F vs ds
def hL (K : Frag) (cv : Nat → Addr) : Hld D V := fun _ d v F' H' => Lk K cv F' H' v d
def hN (K : Frag) (cv : Nat → Addr) : Hld (List D) V := fun H ds v F' H' => ∃ p vs, v = .ref p ∧ H p = none ∧ F' p = none ∧ H' p = some (.lst vs) ∧ Dts K cv F' vs ds
def hB {α : Type} : Hld α α := fun _ a b _ _ => a = b
def hA (K : Frag) (cv : Nat → Addr) : Hld (List D) (List V) := fun _ ds vs F' _ => Dts K cv F' vs ds
section
variable {K : Frag} {cv : Nat → Addr} {W : WX} {σ : L2.St} {F H F' H' : Hp} {α β γ δ : Type}
theorem an_D : Anti (hD K cv) := fun _ _ _ _ _ _ _ h => h
theorem an_L : Anti (hL K cv) := fun _ _ _ _ _ _ _ h => h
theorem an_N : Anti (hN K cv) := fun _ _ _ _ _ _ s ⟨p, vs, e, n, r⟩ => ⟨p, vs, e, s.free n, r⟩
theorem an_B : Anti (hB (α := α)) := fun _ _ _ _ _ _ _ h => h
theorem an_A : Anti (hA K cv) := fun _ _ _ _ _ _ _ h => h
theorem wR.mono {r : R α} {hold : Hld α β} {Q : β → Hp → Prop} (an : Anti hold) (e : Ext F H F' H') (h : wR K cv W σ F H r hold Q) : wR K cv W σ F' H' r hold Q := by
  cases r with
  | ok a => exact fun b F2 H2 e2 h2 => h b F2 H2 (e.trans e2) (an _ _ _ _ _ _ e.hh h2)
  | err d => exact fun cls dd F2 H2 e2 h2 => h cls dd F2 H2 (e.trans e2) h2
  | bad => exact h
theorem wR_bind {r : R α} {g : α → R γ} {hA : Hld α β} {hC : Hld γ δ} {Q : δ → Hp → Prop} {Q' : β → Hp → Prop} (an : Anti hC) (h : wR K cv W σ F H (r.bind g) hC Q)
    (k : ∀ a b F' H', Ext F H F' H' → hA H a b F' H' → wR K cv W σ F' H' (g a) hC Q → Q' b H') : wR K cv W σ F H r hA Q' := by
  cases r with
  | ok a => exact fun b F' H' e hh => k a b F' H' e hh (wR.mono an e h)
  | err d => exact h
  | bad => exact h
/-- a result that makes nothing -/
theorem wR_ok {a : α} {b : β} {hold : Hld α β} {Q : β → Hp → Prop} (s : Same F H) (h : wR K cv W σ F H (.ok a) hold Q) (hh : hold H a b F H) : Q b H := h b F H (Ext.refl s) hh
theorem Lk.ext {v : V} {d : D} (h : Lk K cv F H v d) (e : Ext F H F' H') : Lk K cv F' H' v d := by
  rcases h with h | ⟨p, vs, ds, e1, e2, e3, e4⟩
  · exact .inl (h.mono e.ff)
  · exact .inr ⟨p, vs, ds, e1, e2, e.hh _ _ e3, e4.mono e.ff⟩
theorem Lk.list (s : Same F H) {v : V} {ds : List D} (h : Lk K cv F H v (.lst ds)) : ∃ p vs, v = .ref p ∧ H p = some (.lst vs) ∧ Dts K cv F vs ds := by
  rcases h with h | ⟨p, vs, ds', e1, e2, e3, e4⟩
  · cases h with
    | lst h r => exact ⟨_, _, rfl, s _ _ h, r⟩
  · cases e2
    exact ⟨p, vs, e1, e3, e4⟩
theorem Lk.int {v : V} {i : Int} (h : Lk K cv F H v (.int i)) : v = .int i := by
  rcases h with h | ⟨p, vs, ds', e1, e2, e3, e4⟩
  · cases h; rfl
  · cases e2
theorem Lk.bl {v : V} {i : Bool} (h : Lk K cv F H v (.bl i)) : v = .bl i := by
  rcases h with h | ⟨p, vs, ds', e1, e2, e3, e4⟩
  · cases h; rfl
  · cases e2
theorem Lk.str {v : V} {i : Str} (h : Lk K cv F H v (.str i)) : v = .str i := by
  rcases h with h | ⟨p, vs, ds', e1, e2, e3, e4⟩
  · cases h; rfl
  · cases e2
theorem Lk.tup {v : V} {ds : List D} (s : Same F H) (h : Lk K cv F H v (.tup ds)) : ∃ a vs, v = .ref a ∧ SqT K H a vs ∧ SqT K F a vs ∧ Dts K cv F vs ds := by
  rcases h with h | ⟨p, vs, ds', e1, e2, e3, e4⟩
  · cases h with
    | tup h r => exact ⟨_, _, rfl, Same.tup s h, h, r⟩
  · cases e2
theorem Lk.scr {v : V} {ns : List Int} (s : Same F H) (h : Lk K cv F H v (.scr ns)) : ∃ a, v = .ref a ∧ SqL K H a (ns.map V.int) := by
  rcases h with h | ⟨p, vs, ds', e1, e2, e3, e4⟩
  · cases h with
    | scr h => exact ⟨_, rfl, s.seq h⟩
  · cases e2
theorem Lk.flat {v : V} {d : D} (h : Lk K cv F H v d) (hd : ∀ ds, d ≠ .lst ds) : Dt K cv F v d := by
  rcases h with h | ⟨p, vs, ds', e1, e2, e3, e4⟩
  · exact h
  · exact absurd e2 (hd ds')
end

/-- e comes to what f says, by the heap's look hold -/
def RP (X : Cx) (cv : Nat → Addr) (W : WX) {α : Type} (hold : Hld α V) (e : Expr) (f : Rho → R α) : Prop :=
  ∃ t, PE X e t ∧ ∀ {F0 B : Hp} {ρ : Rho} {σ : L2.St} {F H : Hp} {Q : VK}, Rel X.K cv F0 B ρ σ F H → wR X.K cv W σ F H (f ρ) hold Q → t σ H Q
abbrev RE (X : Cx) (cv : Nat → Addr) (W : WX) := RP X cv W (hD X.K cv)
abbrev RL (X : Cx) (cv : Nat → Addr) (W : WX) := RP X cv W (hL X.K cv)
abbrev RN (X : Cx) (cv : Nat → Addr) (W : WX) := RP X cv W (hN X.K cv)
def RA (X : Cx) (cv : Nat → Addr) (W : WX) (es : List Expr) (f : XA) : Prop :=
  ∃ t, PA X es t ∧ ∀ {F0 B : Hp} {ρ : Rho} {σ : L2.St} {F H : Hp} {Q : List V → Hp → Prop}, Rel X.K cv F0 B ρ σ F H → wR X.K cv W σ F H (f ρ) (hA X.K cv) Q → t σ H Q
def RT (X : Cx) (cv : Nat → Addr) (W : WX) (e : Expr) (f : XT) : Prop :=
  ∃ t, PT X e t ∧ ∀ {F0 B : Hp} {ρ : Rho} {σ : L2.St} {F H : Hp} {Q : Bool → Hp → Prop}, Rel X.K cv F0 B ρ σ F H → wR X.K cv W σ F H (f ρ) hB Q → t σ H Q
def RW (X : Cx) (cv : Nat → Addr) (W : WX) (e : Expr) (f : XT) : Prop :=
  ∃ t, PW X e t ∧ ∀ {F0 B : Hp} {ρ : Rho} {σ : L2.St} {F H : Hp} {Q : Bool → Hp → Prop}, Rel X.K cv F0 B ρ σ F H → wR X.K cv W σ F H (f ρ) hB Q → t σ H Q
def RO (X : Cx) (cv : Nat → Addr) (W : WX) (e : Option Expr) (f : Rho → R (Option Int)) : Prop :=
  ∃ t, PO X e t ∧ ∀ {F0 B : Hp} {ρ : Rho} {σ : L2.St} {F H : Hp} {Q : Option Int → Hp → Prop}, Rel X.K cv F0 B ρ σ F H → wR X.K cv W σ F H (f ρ) hB Q → t σ H Q

section
variable {X : Cx} {cv : Nat → Addr} {W : WX} {a b c e : Expr} {fa fb fc : XE} {pos : Pos}
/-- data may be looked at -/
theorem RP.rl (h : RE X cv W e fa) : RL X cv W e fa := by
  obtain ⟨t, h1, h2⟩ := h
  refine ⟨t, h1, fun {F0 B ρ σ F H Q} r w => h2 r ?_⟩
  cases q : fa ρ with
  | ok d =>
    rw [q] at w
    exact fun v F' H' e hh => w v F' H' e (.inl hh)
  | err d =>
    rw [q] at w
    exact w
  | bad =>
    rw [q] at w
    exact w
/-- a new list is data -/
theorem RP.re {f : XA} (h : RN X cv W e f) : RE X cv W e (xNew f) := by
  obtain ⟨t, h1, h2⟩ := h
  refine ⟨t, h1, fun {F0 B ρ σ F H Q} r w => h2 r ?_⟩
  have w : wR X.K cv W σ F H ((f ρ).map D.lst) (hD X.K cv) Q := w
  cases q : f ρ with
  | ok ds =>
    rw [q] at w
    intro v F' H' e ⟨p, vs, e1, e2, e3, e4, e5⟩
    subst e1
    have s1 : Same F' (upd F' p (.lst vs)) := same_upd e3
    refine w (.ref p) (upd F' p (.lst vs)) H' ⟨e.ff.trans s1, fun a o z => ?_, e.hh, fun a o z => ?_⟩ (.lst upd_same (e5.mono s1))
    · by_cases ha : a = p
      · subst ha
        rw [upd_same] at z
        rw [e4]
        exact z
      · rw [upd_ne ha] at z
        exact e.fh a o z
    · by_cases ha : a = p
      · subst ha
        exact .inr e2
      · rw [upd_ne ha] at z
        exact e.nw a o z
  | err d =>
    rw [q] at w
    exact w
  | bad =>
    rw [q] at w
    exact w

/-! ### names and constants -/
theorem re_var (i : Nat) {x : Str} (h : PE X (.Name x pos) (tVar i)) : RE X cv W (.Name x pos) (xVar i) := by
  refine ⟨_, h, fun {F0 B ρ σ F H Q} r w => ?_⟩
  unfold xVar at w
  split at w
  · rename_i d hd
    obtain ⟨o, h1, v, rfl, h2⟩ := r.slot hd
    exact ⟨v, h1, wR_ok r.fh w h2⟩
  · exact w.elim
theorem rl_look (i : Nat) {x : Str} (h : PE X (.Name x pos) (tVar i)) : RL X cv W (.Name x pos) (xLook i) := by
  refine ⟨_, h, fun {F0 B ρ σ F H Q} r w => ?_⟩
  unfold xLook at w
  split at w
  · rename_i d hd
    obtain ⟨o, h1, v, rfl, h2⟩ := r.slot hd
    exact ⟨v, h1, wR_ok r.fh w (.inl h2)⟩
  · rename_i xs hd
    obtain ⟨o, h1, p, vs, rfl, _, h3, h4, h5⟩ := r.slot hd
    exact ⟨_, h1, wR_ok r.fh w (.inr ⟨p, vs, xs, rfl, rfl, h4, h5⟩)⟩
  · exact w.elim
theorem re_c {d : D} {v : V} (h : PE X e (tC v)) (hd : ∀ F, Dt X.K cv F v d) : RE X cv W e (xC d) :=
  ⟨_, h, fun r w => wR_ok r.fh w (hd _)⟩
theorem re_int {i : Int} {j} : RE X cv W (.Constant (.int i) j pos) (xC (.int i)) := re_c pe_int fun _ => .int i
theorem re_bl {i : Bool} {j} : RE X cv W (.Constant (.bool i) j pos) (xC (.bl i)) := re_c pe_bl fun _ => .bl i
theorem re_non {j} : RE X cv W (.Constant .none j pos) (xC .non) := re_c pe_non fun _ => .non
theorem re_str {x y : Str} {j} (h : x = y) : RE X cv W (.Constant (.str x) j pos) (xC (.str y)) := by
  subst h
  exact re_c pe_str fun _ => .str x
theorem re_globI {x : Str} {i : Int} (hm : ∃ t, X.mg x = some (.int i t)) (hg : Gl X x := by rfl) (hd : (x == ("__debug__" : Str)) = false := by decide) : RE X cv W (.Name x pos) (xC (.int i)) :=
  let ⟨t, hm⟩ := hm
  re_c (v := .int i) (pe_glob hg hm (show RelV (.int i) (.int i t) from ⟨t, rfl⟩) hd) fun _ => .int i

/-! ### operators -/
theorem re_bin {op : Operator} {r : R2} {g : D → D → R D} (ho : OpR X (binaryOp op) r)
    (hr : ∀ {σ : L2.St} {F H : Hp} {x y : V} {dx dy : D} {Q : VK}, Same F H → Lk X.K cv F H x dx → Lk X.K cv F H y dy → wR X.K cv W σ F H (g dx dy) (hD X.K cv) Q → r x y H Q)
    (ha : RL X cv W a fa) (hb : RL X cv W b fb) : RE X cv W (.BinOp a op b pos) (xBin g fa fb) := by
  obtain ⟨ta, pa, qa⟩ := ha
  obtain ⟨tb, pb, qb⟩ := hb
  refine ⟨_, pe_op ho pa pb, fun {F0 B ρ σ F H Q} R w => ?_⟩
  refine qa R (wR_bind an_D w fun dx x F1 H1 e1 h1 w1 => ?_)
  refine qb (R.ext e1) (wR_bind an_D w1 fun dy y F2 H2 e2 h2 w2 => ?_)
  exact hr e2.fh (Lk.ext h1 e2) h2 w2
theorem re_cmp {op : CmpOp} {r : R2} {g : D → D → R D} (ho : OpR X (compareOp op) r)
    (hr : ∀ {σ : L2.St} {F H : Hp} {x y : V} {dx dy : D} {Q : VK}, Same F H → Lk X.K cv F H x dx → Lk X.K cv F H y dy → wR X.K cv W σ F H (g dx dy) (hD X.K cv) Q → r x y H Q)
    (hm : behindInMarks op b = false) (ha : RL X cv W a fa) (hb : RL X cv W b fb) : RE X cv W (.Compare a [op] [b] pos) (xBin g fa fb) := by
  obtain ⟨ta, pa, qa⟩ := ha
  obtain ⟨tb, pb, qb⟩ := hb
  refine ⟨_, pe_cmpR ho pa pb hm, fun {F0 B ρ σ F H Q} R w => ?_⟩
  refine qa R (wR_bind an_D w fun dx x F1 H1 e1 h1 w1 => ?_)
  refine qb (R.ext e1) (wR_bind an_D w1 fun dy y F2 H2 e2 h2 w2 => ?_)
  exact hr e2.fh (Lk.ext h1 e2) h2 w2
theorem rt_cmp {op : CmpOp} {r : R2} {g : D → D → R D} (ho : OpR X (compareOp op) r)
    (hr : ∀ {σ : L2.St} {F H : Hp} {x y : V} {dx dy : D} {Q : VK}, Same F H → Lk X.K cv F H x dx → Lk X.K cv F H y dy → wR X.K cv W σ F H (g dx dy) (hD X.K cv) Q → r x y H Q)
    (hm : behindInMarks op b = false) (ha : RL X cv W a fa) (hb : RL X cv W b fb) : RT X cv W (.Compare a [op] [b] pos) (tB (xBin g fa fb)) := by
  obtain ⟨ta, pa, qa⟩ := ha
  obtain ⟨tb, pb, qb⟩ := hb
  refine ⟨_, pt_cmpR ho pa pb hm, fun {F0 B ρ σ F H Q} R w => ?_⟩
  have w : wR X.K cv W σ F H ((xBin g fa fb ρ).bind dAsB) hB Q := w
  show tOp r ta tb σ H fun x H' => ∃ k, x = .bl k ∧ Q k H'
  have w' : wR X.K cv W σ F H (xBin g fa fb ρ) (hD X.K cv) (fun x H' => ∃ k, x = .bl k ∧ Q k H') := wR_bind an_B w fun d v F1 H1 e1 h1 w1 => by
    cases d <;> try exact False.elim w1
    rename_i k
    cases h1
    exact ⟨k, rfl, wR_ok e1.fh w1 rfl⟩
  refine qa R (wR_bind an_D w' fun dx x F1 H1 e1 h1 w1 => ?_)
  refine qb (R.ext e1) (wR_bind an_D w1 fun dy y F2 H2 e2 h2 w2 => ?_)
  exact hr e2.fh (Lk.ext h1 e2) h2 w2

end
/-! ### the operators' own rules -/
section
variable {X : Cx} {cv : Nat → Addr} {W : WX}
/-- an operator by its data -/
def Opd (X : Cx) (cv : Nat → Addr) (W : WX) (f : Value → Value → Sem Value) (g : D → D → R D) : Prop :=
  ∃ r : R2, OpR X f r ∧ ∀ {σ : L2.St} {F H : Hp} {x y : V} {dx dy : D} {Q : VK}, Same F H → Lk X.K cv F H x dx → Lk X.K cv F H y dy → wR X.K cv W σ F H (g dx dy) (hD X.K cv) Q → r x y H Q
theorem od_ii {f : Value → Value → Sem Value} {k : Int → Int → D} {v : Int → Int → V} (hv : ∀ F i j, Dt X.K cv F (v i j) (k i j)) (ho : OpR X f (rI0 v)) : Opd X cv W f (fun a b => match a, b with | .int i, .int j => .ok (k i j) | _, _ => .bad) := by
  refine ⟨_, ho, fun {σ F H x y dx dy Q} s hx hy w => ?_⟩
  dsimp only at w
  split at w
  · exact ⟨_, _, hx.int, hy.int, wR_ok s w (hv _ _ _)⟩
  · exact w.elim
theorem od_iiC {f : Value → Value → Sem Value} {k : Int → Int → D} {v : Int → Int → V} {C C' : Int → Int → Prop} [∀ i j, Decidable (C i j)] (hC : ∀ i j, C i j → C' i j) (hv : ∀ F i j, Dt X.K cv F (v i j) (k i j)) (ho : OpR X f (rI C' v)) :
    Opd X cv W f (fun a b => match a, b with | .int i, .int j => if C i j then .ok (k i j) else .bad | _, _ => .bad) := by
  refine ⟨_, ho, fun {σ F H x y dx dy Q} s hx hy w => ?_⟩
  dsimp only at w
  split at w
  · split at w
    · exact ⟨_, _, hx.int, hy.int, hC _ _ (by assumption), wR_ok s w (hv _ _ _)⟩
    · exact w.elim
  · exact w.elim
theorem Opd.of {f : Value → Value → Sem Value} {g g' : D → D → R D} (h : Opd X cv W f g) (e : ∀ a b, g' a b = g a b) : Opd X cv W f g' := by
  obtain ⟨r, h1, h2⟩ := h
  exact ⟨r, h1, fun {σ F H x y dx dy Q} s hx hy w => h2 s hx hy (by rw [← e]; exact w)⟩
theorem od_sub : Opd X cv W (binaryOp .Sub) dSub := (od_ii (k := fun i j => .int (i - j)) (fun _ _ _ => .int _) op_sub).of fun a b => by cases a <;> cases b <;> rfl
theorem od_lt : Opd X cv W (compareOp .Lt) dLt := (od_ii (k := fun i j => .bl (decide (i < j))) (fun _ _ _ => .bl _) op_lt).of fun a b => by cases a <;> cases b <;> rfl
theorem od_le : Opd X cv W (compareOp .LtE) dLe := (od_ii (k := fun i j => .bl (decide (i ≤ j))) (fun _ _ _ => .bl _) op_le).of fun a b => by cases a <;> cases b <;> rfl
theorem od_gt : Opd X cv W (compareOp .Gt) dGt := (od_ii (k := fun i j => .bl (decide (j < i))) (fun _ _ _ => .bl _) op_gt).of fun a b => by cases a <;> cases b <;> rfl
theorem od_ge : Opd X cv W (compareOp .GtE) dGe := (od_ii (k := fun i j => .bl (decide (j ≤ i))) (fun _ _ _ => .bl _) op_ge).of fun a b => by cases a <;> cases b <;> rfl
theorem od_mod : Opd X cv W (binaryOp .Mod) dMod := (od_iiC (C := fun _ j => 0 < j) (k := fun i j => .int (i % j)) (fun _ _ h => h) (fun _ _ _ => .int _) op_mod).of fun a b => by cases a <;> cases b <;> rfl
theorem od_pow : Opd X cv W (binaryOp .Pow) dPow := (od_iiC (C := fun i j => Pw i j) (C' := CPow) (k := fun i j => .int (i ^ j.toNat)) (fun _ _ h => ⟨h.lo, h.hi, h.h⟩) (fun _ _ _ => .int _) op_pow).of fun a b => by cases a <;> cases b <;> rfl
theorem od_div : Opd X cv W (binaryOp .FloorDiv) dDiv := (od_iiC (C := fun _ j => Dv j) (C' := CDivW) (k := fun i j => .int (i / j)) (fun _ _ h => ⟨h.pos, Nat.lt_trans h.h (by decide)⟩) (fun _ _ _ => .int _) op_fdivW).of fun a b => by cases a <;> cases b <;> rfl
theorem ln_le {n : Nat} (h : Ln n) : n ≤ sizeLine := by
  rw [sizeLine_eq]
  exact Nat.le_trans h.h (by decide)
theorem ln_lt {n : Nat} (h : Ln n) : n < sizeLine := by
  rw [sizeLine_eq]
  exact Nat.lt_of_le_of_lt h.h (by decide)
theorem od_add : Opd X cv W (binaryOp .Add) dAdd := by
  refine ⟨_, op_add.or (op_add_str.or (op_catA.or op_cat)), fun {σ F H x y dx dy Q} s hx hy w => ?_⟩
  unfold dAdd at w
  split at w
  · exact .inl ⟨_, _, hx.int, hy.int, wR_ok s w (.int _)⟩
  · split at w
    · exact .inr (.inl ⟨_, _, hx.str, hy.str, ln_le (by assumption), wR_ok s w (.str _)⟩)
    · exact w.elim
  · split at w
    · obtain ⟨a, xs, rfl, h1, g1, d1⟩ := hx.tup s
      obtain ⟨b, ys, rfl, h2, g2, d2⟩ := hy.tup s
      refine .inr (.inr (.inl ⟨a, b, xs, ys, rfl, rfl, h1, h2, ?_, fun e => ?_, fun _ e => ?_, fun _ _ p np => ?_⟩))
      · rw [d1.length, d2.length]
        exact ln_le (by assumption)
      · subst e
        cases d1
        exact wR_ok s w (.tup g2 d2)
      · subst e
        cases d2
        refine wR_ok s w (.tup g1 ?_)
        rw [List.append_nil]
        exact d1
      · have n1 := s.free np
        exact w _ _ _ (Ext.new s np) (.tup (.inl (.inl upd_same)) ((d1.append d2).mono (same_upd n1)))
    · exact w.elim
  · split at w
    · obtain ⟨a, xs, rfl, h1, d1⟩ := hx.list s
      obtain ⟨b, ys, rfl, h2, d2⟩ := hy.list s
      refine .inr (.inr (.inr ⟨a, b, xs, ys, rfl, rfl, h1, h2, ?_, fun p np => ?_⟩))
      · rw [d1.length, d2.length]
        exact ln_le (by assumption)
      · have n1 := s.free np
        exact w _ _ _ (Ext.new s np) (.lst upd_same ((d1.append d2).mono (same_upd n1)))
    · exact w.elim
  · exact w.elim
theorem sm_mul {i j : Int} (h : Sm i ∧ Sm j) : CMulW i j := by
  have h1 : i.natAbs.log2 < 400000 := h.1.h
  have h2 : j.natAbs.log2 < 400000 := h.2.h
  unfold CMulW
  omega
theorem od_mul : Opd X cv W (binaryOp .Mult) dMul := by
  refine ⟨_, op_mulW.or op_rep, fun {σ F H x y dx dy Q} s hx hy w => ?_⟩
  unfold dMul at w
  split at w
  · split at w
    · exact .inl ⟨_, _, hx.int, hy.int, sm_mul (by assumption), wR_ok s w (.int _)⟩
    · exact w.elim
  · rename_i xs k
    split at w
    · rename_i hk
      obtain ⟨a, vs, rfl, h1, d1⟩ := hx.list s
      refine .inr ⟨a, k, vs, rfl, hy.int, h1, by have := hk.lo; omega, by have := hk.hi; omega, ?_, fun p np => ?_⟩
      · rw [d1.length]
        exact ln_le ⟨hk.h⟩
      · exact w _ _ _ (Ext.new s np) (.lst upd_same ((d1.rep _).mono (same_upd (s.free np))))
    · exact w.elim
  · exact w.elim
end
end Gy

end

section
set_option Elab.async false
set_option linter.all false
set_option maxRecDepth 100000
set_option maxHeartbeats 4000000
/-! GyE2: comparisons, places, parts, calls of built-ins. -/
namespace Gy
open PySem PySem.Spec PyProof.Rows L2

/-! ### data as the library's data -/
mutual
def toPy : D → PyData
  | .non => .none
  | .bl b => .bool b
  | .int i => .int i
  | .str x => .str x
  | .lst xs => .list (toPys xs)
  | .tup xs => .tuple (toPys xs)
  | _ => .none
def toPys : List D → List PyData
  | [] => []
  | x :: xs => toPy x :: toPys xs
end
mutual
theorem lay_py : ∀ d : D, dLay d = true → (toPy d).canLay0 = true ∧ (toPy d).depth = dDeep d
  | .non, _ => ⟨rfl, rfl⟩
  | .bl _, _ => ⟨rfl, rfl⟩
  | .int _, _ => ⟨rfl, rfl⟩
  | .str x, h => ⟨h, rfl⟩
  | .lst xs, h => by
    have ih := lay_pys xs (by simpa [dLay] using h)
    exact ⟨by simpa [toPy, PyData.canLay0] using ih.1, by simp only [toPy, PyData.depth, dDeep, ih.2]⟩
  | .tup xs, h => by
    have ih := lay_pys xs (by simpa [dLay] using h)
    exact ⟨by simpa [toPy, PyData.canLay0] using ih.1, by simp only [toPy, PyData.depth, dDeep, ih.2]⟩
  | .scr _, h => by simp [dLay] at h
  | .obj _ _ _, h => by simp [dLay] at h
  | .exc _ _, h => by simp [dLay] at h
theorem lay_pys : ∀ ds : List D, dLays ds = true → PyData.canLayAll0 (toPys ds) = true ∧ PyData.depthAll (toPys ds) = dDeeps ds
  | [], _ => ⟨rfl, rfl⟩
  | x :: xs, h => by
    have h' : dLay x = true ∧ dLays xs = true := by simpa [dLays] using h
    have a := lay_py x h'.1
    have b := lay_pys xs h'.2
    exact ⟨by simp only [toPys, PyData.canLayAll0, a.1, b.1, Bool.and_self], by simp only [toPys, PyData.depthAll, dDeeps, a.2, b.2]⟩
end
theorem fit_py {d : D} (h : dFit d) : SeqAt.shaped (toPy d) = true := by
  have a := lay_py d h.lay
  show ((toPy d).canLay0 && decide ((toPy d).depth ≤ 64)) = true
  rw [a.1, a.2, decide_eq_true h.deep]
  rfl
mutual
theorem eqv_py : ∀ d e : D, dLay d = true → dLay e = true → PyData.eqv (toPy d) (toPy e) = dEqv d e
  | .lst xs, .lst ys, h, g => by
    have ih := eqv_pys xs ys (by simpa [dLay] using h) (by simpa [dLay] using g)
    simpa [toPy, PyData.eqv, dEqv] using ih
  | .tup xs, .tup ys, h, g => by
    have ih := eqv_pys xs ys (by simpa [dLay] using h) (by simpa [dLay] using g)
    simpa [toPy, PyData.eqv, dEqv] using ih
  | .str x, .str y, _, _ => by simp [toPy, PyData.eqv, dEqv, BEq.beq]
  | .non, e, _, g => by cases e <;> first | (simp [toPy, PyData.eqv, dEqv]; done) | (simp [dLay] at g; done)
  | .bl _, e, _, g => by cases e <;> first | (simp [toPy, PyData.eqv, dEqv]; done) | (simp [dLay] at g; done)
  | .int _, e, _, g => by cases e <;> first | (simp [toPy, PyData.eqv, dEqv]; done) | (simp [dLay] at g; done)
  | .str _, .non, _, g => by simp [toPy, PyData.eqv, dEqv]
  | .str _, .bl _, _, g => by simp [toPy, PyData.eqv, dEqv]
  | .str _, .int _, _, g => by simp [toPy, PyData.eqv, dEqv]
  | .str _, .lst _, _, g => by simp [toPy, PyData.eqv, dEqv]
  | .str _, .tup _, _, g => by simp [toPy, PyData.eqv, dEqv]
  | .str _, .scr _, _, g => by simp [dLay] at g
  | .str _, .obj _ _ _, _, g => by simp [dLay] at g
  | .str _, .exc _ _, _, g => by simp [dLay] at g
  | .lst _, .non, _, g => by simp [toPy, PyData.eqv, dEqv]
  | .lst _, .bl _, _, g => by simp [toPy, PyData.eqv, dEqv]
  | .lst _, .int _, _, g => by simp [toPy, PyData.eqv, dEqv]
  | .lst _, .str _, _, g => by simp [toPy, PyData.eqv, dEqv]
  | .lst _, .tup _, _, g => by simp [toPy, PyData.eqv, dEqv]
  | .lst _, .scr _, _, g => by simp [dLay] at g
  | .lst _, .obj _ _ _, _, g => by simp [dLay] at g
  | .lst _, .exc _ _, _, g => by simp [dLay] at g
  | .tup _, .non, _, g => by simp [toPy, PyData.eqv, dEqv]
  | .tup _, .bl _, _, g => by simp [toPy, PyData.eqv, dEqv]
  | .tup _, .int _, _, g => by simp [toPy, PyData.eqv, dEqv]
  | .tup _, .str _, _, g => by simp [toPy, PyData.eqv, dEqv]
  | .tup _, .lst _, _, g => by simp [toPy, PyData.eqv, dEqv]
  | .tup _, .scr _, _, g => by simp [dLay] at g
  | .tup _, .obj _ _ _, _, g => by simp [dLay] at g
  | .tup _, .exc _ _, _, g => by simp [dLay] at g
  | .scr _, _, h, _ => by simp [dLay] at h
  | .obj _ _ _, _, h, _ => by simp [dLay] at h
  | .exc _ _, _, h, _ => by simp [dLay] at h
theorem eqv_pys : ∀ ds es : List D, dLays ds = true → dLays es = true → PyData.eqvAll (toPys ds) (toPys es) = dEqvs ds es
  | [], [], _, _ => by simp [toPys, PyData.eqvAll, dEqvs]
  | [], _ :: _, _, _ => by simp [toPys, PyData.eqvAll, dEqvs]
  | _ :: _, [], _, _ => by simp [toPys, PyData.eqvAll, dEqvs]
  | x :: xs, y :: ys, h, g => by
    have h' : dLay x = true ∧ dLays xs = true := by simpa [dLays] using h
    have g' : dLay y = true ∧ dLays ys = true := by simpa [dLays] using g
    simp only [toPys, PyData.eqvAll, dEqvs, eqv_py x y h'.1 g'.1, eqv_pys xs ys h'.2 g'.2]
end
section
variable {K : Frag} {cv : Nat → Addr} {F H : Hp}
mutual
theorem Dt.py (s : Same F H) : ∀ {v : V} {d : D}, Dt K cv F v d → dLay d = true → Dp K H v (toPy d)
  | _, _, .non, _ => .non
  | _, _, .bl b, _ => .bl b
  | _, _, .int i, _ => .int i
  | _, _, .str x, _ => .str x
  | _, _, .lst h r, g => .lst (.inl (.inl (s _ _ h))) (Dts.py s r (by simpa [dLay] using g))
  | _, _, .tup h r, g => .tup (Same.tup s h) (Dts.py s r (by simpa [dLay] using g))
  | _, _, .scr _, g => by simp [dLay] at g
  | _, _, .obj _ _, g => by simp [dLay] at g
  | _, _, .exc0 _ _, g => by simp [dLay] at g
  | _, _, .exc1 _ _ _ _, g => by simp [dLay] at g
theorem Dts.py (s : Same F H) : ∀ {vs : List V} {ds : List D}, Dts K cv F vs ds → dLays ds = true → DpAll K H vs (toPys ds)
  | _, _, .nil, _ => .nil
  | _, _, .cons h r, g => by
    have g' := g
    simp only [dLays, Bool.and_eq_true] at g'
    exact .cons (Dt.py s h g'.1) (Dts.py s r g'.2)
end
theorem Lk.py (s : Same F H) {v : V} {d : D} (h : Lk K cv F H v d) (g : dLay d = true) : Dp K H v (toPy d) := by
  rcases h with h | ⟨p, vs, ds, rfl, rfl, e, r⟩
  · exact h.py s g
  · exact .lst (.inl (.inl e)) (r.py s (by simpa [dLay] using g))
end

section
variable {X : Cx} {cv : Nat → Addr} {W : WX}
theorem od_eq (hu : X.A.units + 64 < cLine) : Opd X cv W (compareOp .Eq) dEq := by
  refine ⟨_, op_eqD hu, fun {σ F H x y dx dy Q} s hx hy w => ?_⟩
  unfold dEq at w
  split at w
  · rename_i h
    refine ⟨_, _, hx.py s h.1.lay, hy.py s h.2.lay, fit_py h.1, fit_py h.2, ?_⟩
    rw [eqv_py _ _ h.1.lay h.2.lay]
    exact wR_ok s w (.bl _)
  · exact w.elim
theorem od_ne (hu : X.A.units + 64 < cLine) : Opd X cv W (compareOp .NotEq) dNe := by
  refine ⟨_, op_neD hu, fun {σ F H x y dx dy Q} s hx hy w => ?_⟩
  unfold dNe at w
  split at w
  · rename_i h
    refine ⟨_, _, hx.py s h.1.lay, hy.py s h.2.lay, fit_py h.1, fit_py h.2, ?_⟩
    rw [eqv_py _ _ h.1.lay h.2.lay]
    exact wR_ok s w (.bl _)
  · exact w.elim
theorem flat_v {K : Frag} {F H : Hp} {v : V} {d : D} (h : Lk K cv F H v d) (f : dFlat d = true) : flatV v = true := by
  rcases h with h | ⟨p, vs, ds, rfl, rfl, e, r⟩
  · cases h <;> first | rfl | (simp [dFlat] at f; done)
  · simp [dFlat] at f
theorem eqv_v {K : Frag} {F H : Hp} {v u : V} {d e : D} (h : Lk K cv F H v d) (g : Lk K cv F H u e) (f : dFlat d = true) (f' : dFlat e = true) : eqV v u = dEqv d e := by
  rcases h with h | ⟨p, vs, ds, rfl, rfl, z, r⟩
  · rcases g with g | ⟨p, vs, ds, rfl, rfl, z, r⟩
    · cases h <;> first
        | (simp [dFlat] at f; done)
        | (cases g <;> first | (simp [dFlat] at f'; done) | (simp [eqV, dEqv]; done) | rfl)
    · simp [dFlat] at f'
  · simp [dFlat] at f
theorem flats_v {K : Frag} {F : Hp} : ∀ {vs : List V} {ds : List D}, Dts K cv F vs ds → ds.all dFlat = true → vs.all flatV = true
  | _, _, .nil, _ => rfl
  | _, _, .cons h r, f => by
    simp only [List.all_cons, Bool.and_eq_true] at f ⊢
    exact ⟨flat_v (H := F) (.inl h) f.1, flats_v r f.2⟩
theorem any_v {K : Frag} {F H : Hp} {v : V} {d : D} (h : Lk K cv F H v d) (f : dFlat d = true) : ∀ {vs : List V} {ds : List D}, Dts K cv F vs ds → ds.all dFlat = true → inV v vs = ds.any fun y => dEqv y d
  | _, _, .nil, _ => rfl
  | _, _, .cons g r, z => by
    simp only [List.all_cons, Bool.and_eq_true] at z
    have ih := any_v h f r z.2
    unfold inV at ih ⊢
    rw [List.any_cons, List.any_cons, ih, eqv_v (.inl g) h z.1 f]
theorem od_inSeq {neg : Bool} {f : Value → Value → Sem Value} (ho : OpR X f (rIn X.K neg)) : Opd X cv W f (dInN neg) := by
  refine ⟨_, ho, fun {σ F H x y dx dy Q} s hx hy w => ?_⟩
  unfold dInN dIn at w
  split at w
  · split at w
    · rename_i h
      obtain ⟨a, vs, rfl, h1, h2, h3⟩ := hy.tup s
      refine ⟨a, vs, rfl, .inr h1, flat_v hx h.1, flats_v h3 h.2, ?_⟩
      rw [any_v hx h.1 h3 h.2]
      exact wR_ok s w (.bl _)
    · exact w.elim
  · split at w
    · rename_i h
      obtain ⟨a, vs, rfl, h1, h3⟩ := hy.list s
      refine ⟨a, vs, rfl, .inl (.inl (.inl h1)), flat_v hx h.1, flats_v h3 h.2, ?_⟩
      rw [any_v hx h.1 h3 h.2]
      exact wR_ok s w (.bl _)
    · exact w.elim
  · exact w.elim
theorem od_in : Opd X cv W (compareOp .In) (dInN false) := od_inSeq op_in_seq
theorem od_nin : Opd X cv W (compareOp .NotIn) (dInN true) := od_inSeq op_notIn_seq
theorem isN_v {K : Frag} {F H : Hp} {v : V} {d : D} (h : Lk K cv F H v d) : decide (v = .non) = isNon d := by
  rcases h with h | ⟨p, vs, ds, rfl, rfl, z, r⟩
  · cases h <;> rfl
  · rfl
theorem od_isN : Opd X cv W (compareOp .Is) dIsN := by
  refine ⟨_, op_isN, fun {σ F H x y dx dy Q} s hx hy w => ?_⟩
  unfold dIsN at w
  split at w
  · refine ⟨?_, ?_⟩
    · rcases hy with h | ⟨_, _, _, _, e, _⟩
      · cases h; rfl
      · cases e
    · rw [isN_v hx]
      exact wR_ok s w (.bl _)
  · exact w.elim
theorem od_notN : Opd X cv W (compareOp .IsNot) dNotN := by
  refine ⟨_, op_notN, fun {σ F H x y dx dy Q} s hx hy w => ?_⟩
  unfold dNotN at w
  split at w
  · refine ⟨?_, ?_⟩
    · rcases hy with h | ⟨_, _, _, _, e, _⟩
      · cases h; rfl
      · cases e
    · rw [isN_v hx]
      exact wR_ok s w (.bl _)
  · exact w.elim
end

/-! ### the same as rules -/
section
variable {X : Cx} {cv : Nat → Addr} {W : WX} {a b c e : Expr} {fa fb fc : XE} {pos : Pos}
theorem re_op {op : Operator} {g : D → D → R D} (o : Opd X cv W (binaryOp op) g) (ha : RL X cv W a fa) (hb : RL X cv W b fb) : RE X cv W (.BinOp a op b pos) (xBin g fa fb) := by
  obtain ⟨r, h1, h2⟩ := o
  exact re_bin h1 h2 ha hb
theorem re_cp {op : CmpOp} {g : D → D → R D} (o : Opd X cv W (compareOp op) g) (hm : behindInMarks op b = false) (ha : RL X cv W a fa) (hb : RL X cv W b fb) : RE X cv W (.Compare a [op] [b] pos) (xBin g fa fb) := by
  obtain ⟨r, h1, h2⟩ := o
  exact re_cmp h1 h2 hm ha hb
theorem rt_cp {op : CmpOp} {g : D → D → R D} (o : Opd X cv W (compareOp op) g) (hm : behindInMarks op b = false) (ha : RL X cv W a fa) (hb : RL X cv W b fb) : RT X cv W (.Compare a [op] [b] pos) (tB (xBin g fa fb)) := by
  obtain ⟨r, h1, h2⟩ := o
  exact rt_cmp h1 h2 hm ha hb
/-- a < b < c -/
theorem chain_w {r r' : R2} {g h : D → D → R D}
    (hr : ∀ {σ : L2.St} {F H : Hp} {x y : V} {dx dy : D} {Q : VK}, Same F H → Lk X.K cv F H x dx → Lk X.K cv F H y dy → wR X.K cv W σ F H (g dx dy) (hD X.K cv) Q → r x y H Q)
    (hr' : ∀ {σ : L2.St} {F H : Hp} {x y : V} {dx dy : D} {Q : VK}, Same F H → Lk X.K cv F H x dx → Lk X.K cv F H y dy → wR X.K cv W σ F H (h dx dy) (hD X.K cv) Q → r' x y H Q)
    {ta tb tc : TE} (qa : ∀ {F0 B : Hp} {ρ : Rho} {σ : L2.St} {F H : Hp} {Q : VK}, Rel X.K cv F0 B ρ σ F H → wR X.K cv W σ F H (fa ρ) (hL X.K cv) Q → ta σ H Q)
    (qb : ∀ {F0 B : Hp} {ρ : Rho} {σ : L2.St} {F H : Hp} {Q : VK}, Rel X.K cv F0 B ρ σ F H → wR X.K cv W σ F H (fb ρ) (hL X.K cv) Q → tb σ H Q)
    (qc : ∀ {F0 B : Hp} {ρ : Rho} {σ : L2.St} {F H : Hp} {Q : VK}, Rel X.K cv F0 B ρ σ F H → wR X.K cv W σ F H (fc ρ) (hL X.K cv) Q → tc σ H Q)
    {F0 B : Hp} {ρ : Rho} {σ : L2.St} {F H : Hp} {Q : VK} (R : Rel X.K cv F0 B ρ σ F H) (w : wR X.K cv W σ F H (xChain g h fa fb fc ρ) (hD X.K cv) Q) : tChain r r' ta tb tc σ H Q := by
  refine qa R (wR_bind an_D w fun dx x F1 H1 e1 h1 w1 => ?_)
  refine qb (R.ext e1) (wR_bind an_D w1 fun dy y F2 H2 e2 h2 w2 => ?_)
  refine hr e2.fh (Lk.ext h1 e2) h2 (wR_bind an_D w2 fun dz z F3 H3 e3 h3 w3 => ?_)
  cases dz <;> try exact False.elim w3
  rename_i k
  cases h3
  refine ⟨k, rfl, ?_⟩
  cases k with
  | true =>
    have w4 : wR X.K cv W σ F3 H3 ((fc ρ).bind fun w => h dy w) (hD X.K cv) Q := w3
    rw [if_pos rfl]
    refine qc (((R.ext e1).ext e2).ext e3) (wR_bind an_D w4 fun dw v F4 H4 e4 h4 w5 => ?_)
    exact hr' e4.fh ((Lk.ext h2 e3).ext e4) h4 w5
  | false =>
    rw [if_neg Bool.false_ne_true]
    exact wR_ok e3.fh w3 (.bl _)
theorem re_chain {op op' : CmpOp} {g h : D → D → R D} (o : Opd X cv W (compareOp op) g) (o' : Opd X cv W (compareOp op') h) (hm : lastMarks [op, op'] [b, c] = false) (ha : RL X cv W a fa) (hb : RL X cv W b fb) (hc : RL X cv W c fc) :
    RE X cv W (.Compare a [op, op'] [b, c] pos) (xChain g h fa fb fc) := by
  obtain ⟨r, h1, h2⟩ := o
  obtain ⟨r', h1', h2'⟩ := o'
  obtain ⟨ta, pa, qa⟩ := ha
  obtain ⟨tb, pb, qb⟩ := hb
  obtain ⟨tc, pc, qc⟩ := hc
  exact ⟨_, pe_chain h1 h1' pa pb pc hm, fun {F0 B ρ σ F H Q} R w => chain_w h2 h2' qa qb qc R w⟩
theorem rt_chain {op op' : CmpOp} {g h : D → D → R D} (o : Opd X cv W (compareOp op) g) (o' : Opd X cv W (compareOp op') h) (hm : lastMarks [op, op'] [b, c] = false) (ha : RL X cv W a fa) (hb : RL X cv W b fb) (hc : RL X cv W c fc) :
    RT X cv W (.Compare a [op, op'] [b, c] pos) (tB (xChain g h fa fb fc)) := by
  obtain ⟨r, h1, h2⟩ := o
  obtain ⟨r', h1', h2'⟩ := o'
  obtain ⟨ta, pa, qa⟩ := ha
  obtain ⟨tb, pb, qb⟩ := hb
  obtain ⟨tc, pc, qc⟩ := hc
  refine ⟨_, pt_chain h1 h1' pa pb pc hm, fun {F0 B ρ σ F H Q} R w => ?_⟩
  have w : wR X.K cv W σ F H ((xChain g h fa fb fc ρ).bind dAsB) hB Q := w
  refine chain_w h2 h2' qa qb qc (Q := fun x H' => ∃ k, x = .bl k ∧ Q k H') R (wR_bind an_B w fun d v F1 H1 e1 h1 w1 => ?_)
  cases d <;> try exact False.elim w1
  rename_i k
  cases h1
  exact ⟨k, rfl, wR_ok e1.fh w1 rfl⟩

/-! ### tests -/
theorem Dts.emp {K : Frag} {F : Hp} {vs : List V} {ds : List D} (h : Dts K cv F vs ds) : vs.isEmpty = ds.isEmpty := by cases h <;> rfl
/-- an expression that gives a truth (a call, a name ..) -/
theorem rt_val (he : RE X cv W e fa) (hp : ∀ whole, isTrue e X.env whole = (do let v ← whole; standAt e.pos; holding [v] (truthy v)) := by intro _; rfl) : RT X cv W e (tB fa) := by
  obtain ⟨t, p, q⟩ := he
  refine ⟨_, pt_val p hp, fun {F0 B ρ σ F H Q} R w => ?_⟩
  refine q R (wR_bind an_B w fun d v F1 H1 e1 h1 w1 => ?_)
  cases d <;> try exact False.elim w1
  rename_i k
  cases h1
  exact ⟨k, rfl, wR_ok e1.fh w1 rfl⟩
theorem rt_tru (he : RL X cv W e fa) (hp : ∀ whole, isTrue e X.env whole = (do let v ← whole; standAt e.pos; holding [v] (truthy v)) := by intro _; rfl) : RT X cv W e (tTru fa) := by
  obtain ⟨t, p, q⟩ := he
  refine ⟨_, pt_truth p hp, fun {F0 B ρ σ F H Q} R w => ?_⟩
  refine q R (wR_bind an_B w fun d v F1 H1 e1 h1 w1 => ?_)
  unfold dTru at w1
  split at w1
  · have e := h1.flat (fun _ => by simp)
    cases e
    exact ⟨_, rfl, wR_ok e1.fh w1 rfl⟩
  · have e := h1.bl
    subst e
    exact ⟨_, rfl, wR_ok e1.fh w1 rfl⟩
  · have e := h1.int
    subst e
    exact ⟨_, rfl, wR_ok e1.fh w1 rfl⟩
  · split at w1
    · have e := h1.str
      subst e
      exact ⟨_, ⟨ln_le (by assumption), rfl⟩, wR_ok e1.fh w1 rfl⟩
    · exact w1.elim
  · obtain ⟨a, vs, rfl, g1, g2, g3⟩ := h1.tup e1.fh
    refine ⟨_, .inr (.inl ⟨vs, g1, rfl⟩), ?_⟩
    rw [g3.emp]
    exact wR_ok e1.fh w1 rfl
  · obtain ⟨a, vs, rfl, g1, g3⟩ := h1.list e1.fh
    refine ⟨_, .inl ⟨vs, .inl (.inl g1), rfl⟩, ?_⟩
    rw [g3.emp]
    exact wR_ok e1.fh w1 rfl
  · rename_i ns
    obtain ⟨a, rfl, g1⟩ := h1.scr e1.fh
    refine ⟨_, .inl ⟨_, g1, rfl⟩, ?_⟩
    have e : (ns.map V.int).isEmpty = ns.isEmpty := by cases ns <;> rfl
    rw [e]
    exact wR_ok e1.fh w1 rfl
  · exact w1.elim
variable {ga gb : XT}
theorem rt_not (h : RT X cv W a ga) : RT X cv W (.UnaryOp .Not a pos) (tNot ga) := by
  obtain ⟨t, p, q⟩ := h
  refine ⟨_, pt_not p, fun {F0 B ρ σ F H Q} R w => ?_⟩
  exact q R (wR_bind an_B w fun d v F1 H1 e1 h1 w1 => by
    cases h1
    exact wR_ok e1.fh w1 rfl)
theorem rw_and1 (h : RT X cv W a ga) : RW X cv W (.BoolOp .And [a] pos) ga := by
  obtain ⟨t, p, q⟩ := h
  exact ⟨_, pw_and1 p, q⟩
theorem rw_or1 (h : RT X cv W a ga) : RW X cv W (.BoolOp .Or [a] pos) ga := by
  obtain ⟨t, p, q⟩ := h
  exact ⟨_, pw_or1 p, q⟩
theorem rw_and {rest : List Expr} (h : RT X cv W a ga) (h' : RW X cv W (.BoolOp .And (b :: rest) pos) gb) : RW X cv W (.BoolOp .And (a :: b :: rest) pos) (tAnd ga gb) := by
  obtain ⟨t, p, q⟩ := h
  obtain ⟨t', p', q'⟩ := h'
  refine ⟨_, pw_and p p', fun {F0 B ρ σ F H Q} R w => ?_⟩
  refine q R (wR_bind an_B w fun d v F1 H1 e1 h1 w1 => ?_)
  cases h1
  cases d with
  | true => exact q' (R.ext e1) w1
  | false => exact wR_ok e1.fh w1 rfl
theorem rw_or {rest : List Expr} (h : RT X cv W a ga) (h' : RW X cv W (.BoolOp .Or (b :: rest) pos) gb) : RW X cv W (.BoolOp .Or (a :: b :: rest) pos) (tOr ga gb) := by
  obtain ⟨t, p, q⟩ := h
  obtain ⟨t', p', q'⟩ := h'
  refine ⟨_, pw_or p p', fun {F0 B ρ σ F H Q} R w => ?_⟩
  refine q R (wR_bind an_B w fun d v F1 H1 e1 h1 w1 => ?_)
  cases h1
  cases d with
  | true => exact wR_ok e1.fh w1 rfl
  | false => exact q' (R.ext e1) w1
theorem rt_w (h : RW X cv W e ga) : RT X cv W e ga := by
  obtain ⟨t, p, q⟩ := h
  exact ⟨_, p.pt, q⟩
theorem re_if (hc : RT X cv W c ga) (ha : RE X cv W a fa) (hb : RE X cv W b fb) : RE X cv W (.IfExp c a b pos) (xIf ga fa fb) := by
  obtain ⟨t, p, q⟩ := hc
  obtain ⟨ta, pa, qa⟩ := ha
  obtain ⟨tb, pb, qb⟩ := hb
  refine ⟨_, pe_ifExp p pa pb, fun {F0 B ρ σ F H Q} R w => ?_⟩
  refine q R (wR_bind an_D w fun d v F1 H1 e1 h1 w1 => ?_)
  cases h1
  cases d with
  | true => exact qa (R.ext e1) w1
  | false => exact qb (R.ext e1) w1
/-- and, or, not as values of truths -/
theorem re_one {op} (h : RE X cv W a fa) : RE X cv W (.BoolOp op [a] pos) fa := by
  obtain ⟨t, p, q⟩ := h
  exact ⟨_, pe_one p, q⟩
theorem re_and {rest : List Expr} (h : RE X cv W a fa) (h' : RE X cv W (.BoolOp .And (b :: rest) pos) fb) : RE X cv W (.BoolOp .And (a :: b :: rest) pos) (xAnd fa fb) := by
  obtain ⟨t, p, q⟩ := h
  obtain ⟨t', p', q'⟩ := h'
  refine ⟨_, pe_and p p', fun {F0 B ρ σ F H Q} R w => ?_⟩
  refine q R (wR_bind an_D w fun d v F1 H1 e1 h1 w1 => ?_)
  cases d <;> try exact False.elim w1
  rename_i k
  cases h1
  refine ⟨k, rfl, ?_⟩
  cases k with
  | true => exact q' (R.ext e1) w1
  | false => exact wR_ok e1.fh w1 (.bl _)
theorem re_or {rest : List Expr} (h : RE X cv W a fa) (h' : RE X cv W (.BoolOp .Or (b :: rest) pos) fb) : RE X cv W (.BoolOp .Or (a :: b :: rest) pos) (xOr fa fb) := by
  obtain ⟨t, p, q⟩ := h
  obtain ⟨t', p', q'⟩ := h'
  refine ⟨_, pe_or p p', fun {F0 B ρ σ F H Q} R w => ?_⟩
  refine q R (wR_bind an_D w fun d v F1 H1 e1 h1 w1 => ?_)
  cases d <;> try exact False.elim w1
  rename_i k
  cases h1
  refine ⟨k, rfl, ?_⟩
  cases k with
  | true => exact wR_ok e1.fh w1 (.bl _)
  | false => exact q' (R.ext e1) w1
theorem re_not (h : RE X cv W a fa) : RE X cv W (.UnaryOp .Not a pos) (xUn dNot fa) := by
  obtain ⟨t, p, q⟩ := h
  refine ⟨_, pe_not p, fun {F0 B ρ σ F H Q} R w => ?_⟩
  refine q R (wR_bind an_D w fun d v F1 H1 e1 h1 w1 => ?_)
  cases d <;> try exact False.elim w1
  rename_i k
  cases h1
  exact ⟨k, rfl, wR_ok e1.fh w1 (.bl _)⟩
theorem re_neg (h : RL X cv W a fa) : RE X cv W (.UnaryOp .USub a pos) (xUn dNeg fa) := by
  obtain ⟨t, p, q⟩ := h
  refine ⟨_, pe_un un_neg p, fun {F0 B ρ σ F H Q} R w => ?_⟩
  refine q R (wR_bind an_D w fun d v F1 H1 e1 h1 w1 => ?_)
  cases d <;> try exact False.elim w1
  exact ⟨_, h1.int, wR_ok e1.fh w1 (.int _)⟩

/-! ### argument lists, tuples, lists -/
variable {es : List Expr} {fr : XA}
theorem ra_nil : RA X cv W [] xNil := ⟨_, pa_nil, fun {F0 B ρ σ F H Q} R w => wR_ok R.fh w .nil⟩
theorem ra_cons (h : RE X cv W a fa) (h' : RA X cv W es fr) (hs : starEach (a :: es) X.env = (false, eval a X.env) :: starEach es X.env := by rfl) : RA X cv W (a :: es) (xCons fa fr) := by
  obtain ⟨t, p, q⟩ := h
  obtain ⟨t', p', q'⟩ := h'
  refine ⟨_, pa_cons p p' hs, fun {F0 B ρ σ F H Q} R w => ?_⟩
  refine q R (wR_bind an_A w fun d v F1 H1 e1 h1 w1 => ?_)
  refine q' (R.ext e1) (wR_bind an_A w1 fun ds vs F2 H2 e2 h2 w2 => ?_)
  exact wR_ok e2.fh w2 (.cons (Dt.mono e2.ff h1) h2)
theorem re_tup {x1} (h : RA X cv W es fr) : RE X cv W (.Tuple es x1 pos) (xTup fr) := by
  obtain ⟨t, p, q⟩ := h
  refine ⟨_, pe_tup p, fun {F0 B ρ σ F H Q} R w => ?_⟩
  refine q R (wR_bind an_D w fun ds vs F1 H1 e1 h1 w1 => ?_)
  have h1 : Dts X.K cv F1 vs ds := h1
  split at w1
  · rename_i hl
    refine ⟨?_, fun p np => ?_⟩
    · rw [h1.length]
      exact ln_le hl
    · exact w1 _ _ _ (Ext.new e1.fh np) (.tup (.inl (.inl upd_same)) (h1.mono (same_upd (e1.fh.free np))))
  · exact w1.elim
theorem rn_lst (h : RA X cv W es fr) : RN X cv W (.List es pos) (xLst fr) := by
  obtain ⟨t, p, q⟩ := h
  refine ⟨_, pe_lst p, fun {F0 B ρ σ F H Q} R w => ?_⟩
  refine q R (wR_bind an_N w fun ds vs F1 H1 e1 h1 w1 => ?_)
  have h1 : Dts X.K cv F1 vs ds := h1
  split at w1
  · rename_i hl
    refine ⟨?_, fun p np => ?_⟩
    · rw [h1.length]
      exact ln_le hl
    · exact w1 _ _ _ (Ext.hid e1.fh np) ⟨p, vs, rfl, np, e1.fh.free np, upd_same, h1⟩
  · exact w1.elim

/-! ### places and parts -/
theorem atI_eq {α : Type} (xs : List α) (i : Int) : L2.atI xs i = getAt xs i := rfl
theorem Dts.at {K : Frag} {F : Hp} {vs : List V} {ds : List D} {i : Int} {d : D} (h : Dts K cv F vs ds) (e : getAt ds i = some d) : ∃ v, L2.atI vs i = some v ∧ Dt K cv F v d := by
  unfold getAt at e
  cases q : ixAt ds.length i with
  | none =>
    rw [q] at e
    cases e
  | some j =>
    rw [q] at e
    obtain ⟨v, h1, h2⟩ := h.get e
    refine ⟨v, ?_, h2⟩
    rw [atI_eq]
    unfold getAt
    rw [h.length, q]
    exact h1
theorem re_ix (ha : RL X cv W a fa) (hb : RL X cv W b fb) (hs : PlainIx b := by exact fun _ _ => rfl) : RE X cv W (.Subscript a b pos) (xBin dIx fa fb) := by
  obtain ⟨ta, pa, qa⟩ := ha
  obtain ⟨tb, pb, qb⟩ := hb
  refine ⟨_, pe_ix ix_seq pa pb hs, fun {F0 B ρ σ F H Q} R w => ?_⟩
  refine qa R (wR_bind an_D w fun dx x F1 H1 e1 h1 w1 => ?_)
  refine qb (R.ext e1) (wR_bind an_D w1 fun dy y F2 H2 e2 h2 w2 => ?_)
  have h1' := Lk.ext h1 e2
  unfold dIx at w2
  split at w2
  · split at w2
    · rename_i d hd
      obtain ⟨p, vs, rfl, g1, g2, g3⟩ := h1'.tup e2.fh
      obtain ⟨v, k1, k2⟩ := g3.at hd
      exact .inr (.inl ⟨p, vs, _, v, rfl, h2.int, g1, k1, wR_ok e2.fh w2 k2⟩)
    · exact w2.elim
  · split at w2
    · rename_i d hd
      obtain ⟨p, vs, rfl, g1, g3⟩ := h1'.list e2.fh
      obtain ⟨v, k1, k2⟩ := g3.at hd
      exact .inl ⟨p, vs, _, v, rfl, h2.int, .inl (.inl g1), k1, wR_ok e2.fh w2 k2⟩
    · exact w2.elim
  · split at w2
    · rename_i ns i _ n hn
      obtain ⟨p, rfl, g1⟩ := h1'.scr e2.fh
      refine .inl ⟨p, _, _, .int n, rfl, h2.int, g1, ?_, wR_ok e2.fh w2 (.int _)⟩
      rw [atI_eq]
      unfold getAt at hn ⊢
      rw [List.length_map]
      cases q : ixAt ns.length i with
      | none =>
        rw [q] at hn
        cases hn
      | some j =>
        rw [q] at hn
        show (ns.map V.int)[j]? = _
        rw [List.getElem?_map, show ns[j]? = some n from hn]
        rfl
    · exact w2.elim
  · split at w2
    · rename_i hl
      split at w2
      · rename_i z hz
        have e := h1'.str
        subst e
        exact .inr (.inr ⟨_, _, _, rfl, h2.int, ln_le hl, hz, wR_ok e2.fh w2 (.str _)⟩)
      · exact w2.elim
    · exact w2.elim
  · exact w2.elim
theorem clip_sIx (n d : Nat) (o : Option Int) : HT.sIx n d o = clipAt n d o := by
  cases o with
  | none => rfl
  | some v =>
    have h := HT.clip_eq v n d
    show _ = if v < 0 then (max (v + (n : Int)) 0).toNat else (min v (n : Int)).toNat
    split at h
    · rename_i hv
      rw [if_pos hv]
      omega
    · rename_i hv
      rw [if_neg hv]
      omega
theorem cutV_eq (xs : List V) (lo hi : Option Int) : cutV xs lo hi = cutAt xs lo hi := by
  unfold cutV cutAt
  rw [clip_sIx, clip_sIx]
theorem Dts.cut {K : Frag} {F : Hp} {vs : List V} {ds : List D} (h : Dts K cv F vs ds) (lo hi : Option Int) : Dts K cv F (cutV vs lo hi) (cutAt ds lo hi) := by
  rw [cutV_eq]
  unfold cutAt
  rw [h.length]
  exact (h.drop _).take _
theorem ro_none : RO X cv W none xNoPart := ⟨_, po_none, fun {F0 B ρ σ F H Q} R w => wR_ok R.fh w rfl⟩
theorem ro_some (h : RL X cv W a fa) : RO X cv W (some a) (xPart fa) := by
  obtain ⟨t, p, q⟩ := h
  refine ⟨_, po_some p, fun {F0 B ρ σ F H Q} R w => ?_⟩
  refine q R (wR_bind an_B w fun d v F1 H1 e1 h1 w1 => ?_)
  cases d <;> try exact False.elim w1
  exact ⟨_, h1.int, wR_ok e1.fh w1 rfl⟩
variable {lo hi : Option Expr} {fl fh : Rho → R (Option Int)} {p2 : Pos}
theorem re_cut (ha : RL X cv W a fa) (hl : RO X cv W lo fl) (hh : RO X cv W hi fh) : RE X cv W (.Subscript a (.Slice lo hi none p2) pos) (xCut fa fl fh) := by
  obtain ⟨ta, pa, qa⟩ := ha
  obtain ⟨tl, pl, ql⟩ := hl
  obtain ⟨th, ph, qh⟩ := hh
  refine ⟨_, pe_slice (sl_list.or (sl_tupA.or sl_str)) pa pl ph, fun {F0 B ρ σ F H Q} R w => ?_⟩
  refine qa R (wR_bind an_D w fun dx x F1 H1 e1 h1 w1 => ?_)
  refine ql (R.ext e1) (wR_bind an_D w1 fun l l' F2 H2 e2 h2 w2 => ?_)
  cases h2
  refine qh ((R.ext e1).ext e2) (wR_bind an_D w2 fun u u' F3 H3 e3 h3 w3 => ?_)
  cases h3
  have h1' := (Lk.ext h1 e2).ext e3
  unfold dCut at w3
  split at w3
  · obtain ⟨p, vs, rfl, g1, g2, g3⟩ := h1'.tup e3.fh
    refine .inr (.inl ⟨p, vs, rfl, g1, fun hw => ?_, fun _ p np => ?_⟩)
    · refine wR_ok e3.fh w3 (.tup g2 ?_)
      have z := g3.cut l u
      have e : cutV vs l u = vs := by
        unfold cutV
        rw [hw.1, hw.2]
        simp
      rw [e] at z
      exact z
    · exact w3 _ _ _ (Ext.new e3.fh np) (.tup (.inl (.inl upd_same)) ((g3.cut l u).mono (same_upd (e3.fh.free np))))
  · obtain ⟨p, vs, rfl, g1, g3⟩ := h1'.list e3.fh
    refine .inl ⟨p, vs, rfl, .inl (.inl g1), fun p np => ?_⟩
    exact w3 _ _ _ (Ext.new e3.fh np) (.lst upd_same ((g3.cut l u).mono (same_upd (e3.fh.free np))))
  · split at w3
    · rename_i x hl
      have e := h1'.str
      subst e
      refine .inr (.inr ⟨_, rfl, ln_le hl, ?_⟩)
      have e : cutS x l u = ⟨(cutAt x.cps.toList l u).toArray⟩ := by
        unfold cutS cutAt
        rw [clip_sIx, clip_sIx]
        rfl
      rw [e]
      exact wR_ok e3.fh w3 (.str _)
    · exact w3.elim
  · exact w3.elim
/-- a part of a list, the def's own -/
theorem rn_cut (ha : RL X cv W a fa) (hl : RO X cv W lo fl) (hh : RO X cv W hi fh) : RN X cv W (.Subscript a (.Slice lo hi none p2) pos) (xCutL fa fl fh) := by
  obtain ⟨ta, pa, qa⟩ := ha
  obtain ⟨tl, pl, ql⟩ := hl
  obtain ⟨th, ph, qh⟩ := hh
  refine ⟨_, pe_slice sl_list pa pl ph, fun {F0 B ρ σ F H Q} R w => ?_⟩
  refine qa R (wR_bind an_N w fun dx x F1 H1 e1 h1 w1 => ?_)
  refine ql (R.ext e1) (wR_bind an_N w1 fun l l' F2 H2 e2 h2 w2 => ?_)
  cases h2
  refine qh ((R.ext e1).ext e2) (wR_bind an_N w2 fun u u' F3 H3 e3 h3 w3 => ?_)
  cases h3
  have h1' := (Lk.ext h1 e2).ext e3
  cases dx <;> try exact False.elim w3
  obtain ⟨p, vs, rfl, g1, g3⟩ := h1'.list e3.fh
  refine ⟨p, vs, rfl, .inl (.inl g1), fun p np => ?_⟩
  exact w3 _ _ _ (Ext.hid e3.fh np) ⟨p, _, rfl, np, e3.fh.free np, upd_same, g3.cut l u⟩
theorem rn_cat (ha : RL X cv W a fa) (hb : RL X cv W b fb) : RN X cv W (.BinOp a .Add b pos) (xCat fa fb) := by
  obtain ⟨ta, pa, qa⟩ := ha
  obtain ⟨tb, pb, qb⟩ := hb
  refine ⟨_, pe_op op_cat pa pb, fun {F0 B ρ σ F H Q} R w => ?_⟩
  refine qa R (wR_bind an_N w fun dx x F1 H1 e1 h1 w1 => ?_)
  refine qb (R.ext e1) (wR_bind an_N w1 fun dy y F2 H2 e2 h2 w2 => ?_)
  have h1' := Lk.ext h1 e2
  cases dx <;> try exact False.elim w2
  cases dy <;> try exact False.elim w2
  rename_i xs ys
  have w3 : wR X.K cv W σ F2 H2 (if Ln (xs.length + ys.length) then Gy.R.ok (xs ++ ys) else Gy.R.bad) (hN X.K cv) Q := w2
  split at w3
  · rename_i hl
    obtain ⟨p, vs, rfl, g1, g3⟩ := h1'.list e2.fh
    obtain ⟨q, ws, rfl, k1, k3⟩ := h2.list e2.fh
    refine ⟨p, q, vs, ws, rfl, rfl, g1, k1, ?_, fun p np => ?_⟩
    · rw [g3.length, k3.length]
      exact ln_le hl
    · exact w3 _ _ _ (Ext.hid e2.fh np) ⟨p, _, rfl, np, e2.fh.free np, upd_same, g3.append k3⟩
  · exact w3.elim
theorem rn_rep (ha : RL X cv W a fa) (hb : RL X cv W b fb) : RN X cv W (.BinOp a .Mult b pos) (xRep fa fb) := by
  obtain ⟨ta, pa, qa⟩ := ha
  obtain ⟨tb, pb, qb⟩ := hb
  refine ⟨_, pe_op op_rep pa pb, fun {F0 B ρ σ F H Q} R w => ?_⟩
  refine qa R (wR_bind an_N w fun dx x F1 H1 e1 h1 w1 => ?_)
  refine qb (R.ext e1) (wR_bind an_N w1 fun dy y F2 H2 e2 h2 w2 => ?_)
  have h1' := Lk.ext h1 e2
  cases dx <;> try exact False.elim w2
  cases dy <;> try exact False.elim w2
  rename_i xs k
  have w3 : wR X.K cv W σ F2 H2 (if Rp xs.length k then Gy.R.ok (List.replicate k.toNat xs).flatten else Gy.R.bad) (hN X.K cv) Q := w2
  split at w3
  · rename_i hl
    obtain ⟨p, vs, rfl, g1, g3⟩ := h1'.list e2.fh
    refine ⟨p, k, vs, rfl, h2.int, g1, by have := hl.lo; omega, by have := hl.hi; omega, ?_, fun p np => ?_⟩
    · rw [g3.length]
      exact ln_le ⟨hl.h⟩
    · exact w3 _ _ _ (Ext.hid e2.fh np) ⟨p, _, rfl, np, e2.fh.free np, upd_same, g3.rep _⟩
  · exact w3.elim
end
end Gy

end

section
set_option Elab.async false
set_option linter.all false
set_option maxRecDepth 100000
set_option maxHeartbeats 4000000
/-! GyS: calls, comprehensions, statements, defs. -/
namespace Gy
open PySem PySem.Spec PyProof.Rows L2

/-! ### a def's promise: it does with data what sem says -/
def hS (K : Frag) (cv : Nat → Addr) : Hld Sl V := fun H s v F' H' => match s with
  | .dat d => Dt K cv F' v d
  | .own ds => hN K cv H ds v F' H'
  | .own2 xss => New2 K cv H F' H' xss v
  | _ => False
theorem New2.anti {K : Frag} {cv : Nat → Addr} {H H1 F' H' : Hp} {xss : List (List D)} {v : V} (s : Same H H1) (h : New2 K cv H1 F' H' xss v) : New2 K cv H F' H' xss v := by
  obtain ⟨p, qs, e, nd, n1, n2, h1, r⟩ := h
  exact ⟨p, qs, e, nd, s.free n1, n2, h1, r.base fun q hq => s.free (r.mem hq).1⟩
/-- all of it becomes data; its rows alone -/
theorem New2.dat {K : Frag} {cv : Nat → Addr} {H F F' H' : Hp} {xss : List (List D)} {v : V} (e : Ext F H F' H') (h : New2 K cv H F' H' xss v) : ∃ F2, Ext F H F2 H' ∧ Dt K cv F2 v (.lst (xss.map .lst)) := by
  obtain ⟨p, qs, rfl, nd, n1, n2, h1, r⟩ := h
  have fa : ∀ a ∈ p :: qs, F' a = none ∧ H a = none := fun a ha => by
    rcases List.mem_cons.mp ha with rfl | ha
    · exact ⟨n2, n1⟩
    · exact ⟨(r.mem ha).2.1, (r.mem ha).1⟩
  have s1 : Same F' (also F' H' (p :: qs)) := also_same fun a ha => (fa a ha).1
  refine ⟨also F' H' (p :: qs), ⟨e.ff.trans s1, also_le e.fh, e.hh, fun a o z => ?_⟩, .lst ((also_in List.mem_cons_self).trans h1) (r.dts s1 fun q hq => also_in (List.mem_cons_of_mem _ hq))⟩
  rcases also_nw a o z with ⟨u, z⟩ | z
  · exact e.nw a u z
  · exact .inr (fa a z).2
theorem New2.rows {K : Frag} {cv : Nat → Addr} {H F F' H' : Hp} {xss : List (List D)} {v : V} (e : Ext F H F' H') (h : New2 K cv H F' H' xss v) : ∃ F2, Ext F H F2 H' ∧ hN K cv H (xss.map .lst) v F2 H' := by
  obtain ⟨p, qs, rfl, nd, n1, n2, h1, r⟩ := h
  have np := (List.nodup_cons.mp nd).1
  have s1 : Same F' (also F' H' qs) := also_same fun a ha => (r.mem ha).2.1
  refine ⟨also F' H' qs, ⟨e.ff.trans s1, also_le e.fh, e.hh, fun a o z => ?_⟩, p, qs.map V.ref, rfl, n1, by rw [also_out np]; exact n2, h1, r.dts s1 fun q hq => also_in hq⟩
  rcases also_nw a o z with ⟨u, z⟩ | z
  · exact e.nw a u z
  · exact .inr (r.mem z).1
theorem an_S {K : Frag} {cv : Nat → Addr} : Anti (hS K cv) := fun _ _ s _ _ _ e h => by
  cases s with
  | no => exact h
  | al _ _ => exact h
  | ins _ _ _ => exact h
  | dat d => exact h
  | own ds => exact an_N _ _ _ _ _ _ e h
  | own2 xss => exact New2.anti e h
def spD (K : Frag) (cv : Nat → Addr) (n : Nat) (sem : List D → R Sl) : Sp := fun vs H Q E => ∃ F ds, Same F H ∧ Dts K cv F vs ds ∧ ds.length = n ∧ wR K cv (fun cls d _ H' => E cls d H') [] F H (sem ds) (hS K cv) Q
/-- the def named x, of n parameters, keeps it, by k calls in one another -/
def Fn (P : Program) (w : World) (K : Frag) (mg : Str → Option Value) (base : Heap) (cv : Nat → Addr) (k : Nat) (x : Str) (n : Nat) (sem : List D → R Sl) : Prop :=
  ∃ (f : Addr) (fd : FuncData) (ps : List Str), FnOk P w K mg base (L2.CX P w) k f fd ps (spD K cv n sem) ∧ mg x = some (.ref f) ∧ PySem.W.keepIn K (.ref f) = true ∧ Binds K fd ps []
theorem wR_at {K : Frag} {cv : Nat → Addr} {W : WX} {σ σ' : L2.St} {F H : Hp} {α β : Type} {r : R α} {hold : Hld α β} {Q : β → Hp → Prop} (h : wR K cv W σ F H r hold Q) : wR K cv (fun cls d _ H' => W cls d σ H') σ' F H r hold Q := by
  cases r <;> exact h
theorem wR_to {K : Frag} {cv : Nat → Addr} {W : WX} {σ σ' : L2.St} {F H : Hp} {α β : Type} {r : R α} {hold : Hld α β} {Q : β → Hp → Prop} (h : wR K cv (fun cls d _ H' => W cls d σ H') σ' F H r hold Q) : wR K cv W σ F H r hold Q := by
  cases r <;> exact h

section
variable {X : Cx} {cv : Nat → Addr} {W : WX} {a b c e : Expr} {fa fb fc : XE} {pos p : Pos} {es : List Expr} {fr : XA} {x : Str} {k n : Nat} {sem : List D → R Sl}
theorem rp_call (G : Fn X.prog X.w X.K X.mg X.base cv k x n sem) (hr : Room k X.A) (tk : Takes X W) (ha : RA X cv W (e :: es) fr) (hg : Gl X x := by rfl) (hdb : (x == ("__debug__" : Str)) = false := by decide)
    (he : starEach (e :: es) X.env = (false, eval e X.env) :: starEach es X.env := by rfl) (hpl : (backTo pos (starEach es X.env)).any (·.1) = false := by rfl) (hn : (e :: es).length = n := by rfl) :
    RP X cv W (hS X.K cv) (.Call (.Name x p) (e :: es) [] pos) (fun ρ => (fr ρ).bind fun ds => if ds.length = n then sem ds else .bad) := by
  obtain ⟨f, fd, ps, F, hm, hk, hb⟩ := G
  obtain ⟨t, pa, qa⟩ := ha
  refine ⟨_, pe_callS F hr hg hm hk hb (fun σ => passAt tk σ) pa hdb he hpl, fun {F0 B ρ σ F H Q} R w => ?_⟩
  refine qa R (wR_bind an_S w fun ds vs F1 H1 e1 h1 w1 => ?_)
  split at w1
  · exact ⟨F1, ds, e1.fh, h1, by assumption, wR_at w1⟩
  · exact w1.elim
/-- its answer as data -/
theorem RP.asD {f : Rho → R Sl} (h : RP X cv W (hS X.K cv) e f) : RE X cv W e (fun ρ => Gy.asD (f ρ)) := by
  obtain ⟨t, h1, h2⟩ := h
  refine ⟨t, h1, fun {F0 B ρ σ F H Q} r w => h2 r ?_⟩
  have w : wR X.K cv W σ F H (Gy.asD (f ρ)) (hD X.K cv) Q := w
  cases q : f ρ with
  | ok s =>
    rw [q] at w
    cases s with
    | no => exact w.elim
    | al _ _ => exact w.elim
    | ins _ _ _ => exact w.elim
    | dat d => exact w
    | own2 xss =>
      intro v F' H' e hh
      obtain ⟨F2, e2, h2⟩ := New2.dat e hh
      exact w v F2 H' e2 h2
    | own ds =>
      intro v F' H' e ⟨p, vs, e1, e2, e3, e4, e5⟩
      subst e1
      have s1 : Same F' (upd F' p (.lst vs)) := same_upd e3
      refine w (.ref p) (upd F' p (.lst vs)) H' ⟨e.ff.trans s1, fun a o z => ?_, e.hh, fun a o z => ?_⟩ (.lst upd_same (e5.mono s1))
      · by_cases ha : a = p
        · subst ha
          rw [upd_same] at z
          rw [e4]
          exact z
        · rw [upd_ne ha] at z
          exact e.fh a o z
      · by_cases ha : a = p
        · subst ha
          exact .inr e2
        · rw [upd_ne ha] at z
          exact e.nw a o z
  | err d =>
    rw [q] at w
    exact w
  | bad =>
    rw [q] at w
    exact w
theorem RP.asO {f : Rho → R Sl} (h : RP X cv W (hS X.K cv) e f) : RN X cv W e (fun ρ => Gy.asO (f ρ)) := by
  obtain ⟨t, h1, h2⟩ := h
  refine ⟨t, h1, fun {F0 B ρ σ F H Q} r w => h2 r ?_⟩
  have w : wR X.K cv W σ F H (Gy.asO (f ρ)) (hN X.K cv) Q := w
  cases q : f ρ with
  | ok s =>
    rw [q] at w
    cases s with
    | no => exact w.elim
    | al _ _ => exact w.elim
    | ins _ _ _ => exact w.elim
    | dat d => exact w.elim
    | own ds => exact w
    | own2 xss =>
      intro v F' H' e hh
      obtain ⟨F2, e2, h2⟩ := New2.rows e hh
      exact w v F2 H' e2 h2
  | err d =>
    rw [q] at w
    exact w
  | bad =>
    rw [q] at w
    exact w
theorem re_call (G : Fn X.prog X.w X.K X.mg X.base cv k x n sem) (hr : Room k X.A) (tk : Takes X W) (ha : RA X cv W (e :: es) fr) (hg : Gl X x := by rfl) (hdb : (x == ("__debug__" : Str)) = false := by decide)
    (he : starEach (e :: es) X.env = (false, eval e X.env) :: starEach es X.env := by rfl) (hpl : (backTo pos (starEach es X.env)).any (·.1) = false := by rfl) (hn : (e :: es).length = n := by rfl) :
    RE X cv W (.Call (.Name x p) (e :: es) [] pos) (xCall (atN n sem) fr) := (rp_call G hr tk ha hg hdb he hpl hn).asD
theorem rn_call (G : Fn X.prog X.w X.K X.mg X.base cv k x n sem) (hr : Room k X.A) (tk : Takes X W) (ha : RA X cv W (e :: es) fr) (hg : Gl X x := by rfl) (hdb : (x == ("__debug__" : Str)) = false := by decide)
    (he : starEach (e :: es) X.env = (false, eval e X.env) :: starEach es X.env := by rfl) (hpl : (backTo pos (starEach es X.env)).any (·.1) = false := by rfl) (hn : (e :: es).length = n := by rfl) :
    RN X cv W (.Call (.Name x p) (e :: es) [] pos) (xCallN (atN n sem) fr) := (rp_call G hr tk ha hg hdb he hpl hn).asO
end

/-! ### built-ins -/
inductive Lks (K : Frag) (cv : Nat → Addr) (F H : Hp) : List V → List D → Prop
  | nil : Lks K cv F H [] []
  | cons {v : V} {vs : List V} {d : D} {ds : List D} : Lk K cv F H v d → Lks K cv F H vs ds → Lks K cv F H (v :: vs) (d :: ds)
theorem Lks.ext {K : Frag} {cv : Nat → Addr} {F H F' H' : Hp} (e : Ext F H F' H') : ∀ {vs : List V} {ds : List D}, Lks K cv F H vs ds → Lks K cv F' H' vs ds
  | _, _, .nil => .nil
  | _, _, .cons h r => .cons (h.ext e) (Lks.ext e r)
def hAL (K : Frag) (cv : Nat → Addr) : Hld (List D) (List V) := fun _ ds vs F' H' => Lks K cv F' H' vs ds
theorem an_AL {K : Frag} {cv : Nat → Addr} : Anti (hAL K cv) := fun _ _ _ _ _ _ _ h => h
def RAL (X : Cx) (cv : Nat → Addr) (W : WX) (es : List Expr) (f : XA) : Prop :=
  ∃ t, PA X es t ∧ ∀ {F0 B : Hp} {ρ : Rho} {σ : L2.St} {F H : Hp} {Q : List V → Hp → Prop}, Rel X.K cv F0 B ρ σ F H → wR X.K cv W σ F H (f ρ) (hAL X.K cv) Q → t σ H Q
/-- a built-in by its data -/
def Cld (X : Cx) (cv : Nat → Addr) (W : WX) (f : Value) {α : Type} (hold : Hld α V) (g : List D → R α) : Prop :=
  ∃ r, CallR X f r ∧ ∀ {σ : L2.St} {F H : Hp} {vs : List V} {ds : List D} {Q : VK}, Same F H → Lks X.K cv F H vs ds → wR X.K cv W σ F H (g ds) hold Q → r vs H Q
section
variable {X : Cx} {cv : Nat → Addr} {W : WX} {a b c e : Expr} {fa fb fc : XE} {pos p : Pos} {es : List Expr} {fr : XA} {x : Str} {id T : String}
theorem ral_nil : RAL X cv W [] xNil := ⟨_, pa_nil, fun {F0 B ρ σ F H Q} R w => wR_ok R.fh w .nil⟩
theorem ral_cons (h : RL X cv W a fa) (h' : RAL X cv W es fr) (hs : starEach (a :: es) X.env = (false, eval a X.env) :: starEach es X.env := by rfl) : RAL X cv W (a :: es) (xCons fa fr) := by
  obtain ⟨t, p, q⟩ := h
  obtain ⟨t', p', q'⟩ := h'
  refine ⟨_, pa_cons p p' hs, fun {F0 B ρ σ F H Q} R w => ?_⟩
  refine q R (wR_bind an_AL w fun d v F1 H1 e1 h1 w1 => ?_)
  refine q' (R.ext e1) (wR_bind an_AL w1 fun ds vs F2 H2 e2 h2 w2 => ?_)
  exact wR_ok e2.fh w2 (.cons (Lk.ext h1 e2) h2)
theorem rp_fun {α : Type} {hold : Hld α V} {g : List D → R α} (an : Anti hold) (o : Cld X cv W (.builtin id) hold g) (hm : X.mg x = none) (hv : bootBuiltins x = some (.builtin id)) (ha : RAL X cv W (e :: es) fr) (hg : Gl X x := by rfl) (hn : x ≠ "__name__" := by decide) (hdb : (x == ("__debug__" : Str)) = false := by decide)
    (he : starEach (e :: es) X.env = (false, eval e X.env) :: starEach es X.env := by rfl) (hpl : (backTo pos (starEach es X.env)).any (·.1) = false := by rfl) : RP X cv W hold (.Call (.Name x p) (e :: es) [] pos) (fun ρ => (fr ρ).bind g) := by
  obtain ⟨r, h1, h2⟩ := o
  obtain ⟨t, pa, qa⟩ := ha
  refine ⟨_, pe_callB h1 hg hm hv pa hn hdb he hpl, fun {F0 B ρ σ F H Q} R w => ?_⟩
  exact qa R (wR_bind an w fun ds vs F1 H1 e1 k1 w1 => h2 e1.fh k1 w1)
theorem rp_ty {α : Type} {hold : Hld α V} {g : List D → R α} (an : Anti hold) (o : Cld X cv W (.type T) hold g) (hm : X.mg x = none) (hv : bootBuiltins x = some (.type T)) (ha : RAL X cv W (e :: es) fr) (hg : Gl X x := by rfl) (hn : x ≠ "__name__" := by decide) (hdb : (x == ("__debug__" : Str)) = false := by decide)
    (he : starEach (e :: es) X.env = (false, eval e X.env) :: starEach es X.env := by rfl) (hpl : (backTo pos (starEach es X.env)).any (·.1) = false := by rfl) : RP X cv W hold (.Call (.Name x p) (e :: es) [] pos) (fun ρ => (fr ρ).bind g) := by
  obtain ⟨r, h1, h2⟩ := o
  obtain ⟨t, pa, qa⟩ := ha
  refine ⟨_, pe_callTy h1 hg hm hv pa hn hdb he hpl, fun {F0 B ρ σ F H Q} R w => ?_⟩
  exact qa R (wR_bind an w fun ds vs F1 H1 e1 k1 w1 => h2 e1.fh k1 w1)
end
end Gy

end

section
set_option Elab.async false
set_option linter.all false
set_option maxRecDepth 100000
set_option maxHeartbeats 4000000
/-! GyT: built-ins, comprehensions, statements, defs. -/
namespace Gy
open PySem PySem.Spec PyProof.Rows L2
section
variable {X : Cx} {cv : Nat → Addr} {W : WX}
theorem ints_v {K : Frag} {F : Hp} : ∀ {vs : List V} {ds : List D} {ns : List Int}, Dts K cv F vs ds → dInts ds = some ns → vs = ns.map V.int
  | _, _, _, .nil, e => by
    cases e
    rfl
  | _, _, ns, .cons h r, e => by
    cases h <;> try (cases e; done)
    rename_i vs ds i
    have e : (dInts ds).map (fun l => i :: l) = some ns := e
    obtain ⟨l, q, rfl⟩ := Option.map_eq_some_iff.mp e
    rw [ints_v r q]
    rfl
theorem bls_v {K : Frag} {F : Hp} : ∀ {vs : List V} {ds : List D} {ns : List Bool}, Dts K cv F vs ds → dBls ds = some ns → vs = ns.map V.bl
  | _, _, _, .nil, e => by
    cases e
    rfl
  | _, _, ns, .cons h r, e => by
    cases h <;> try (cases e; done)
    rename_i vs ds i
    have e : (dBls ds).map (fun l => i :: l) = some ns := e
    obtain ⟨l, q, rfl⟩ := Option.map_eq_some_iff.mp e
    rw [bls_v r q]
    rfl
theorem strs_v {K : Frag} {F : Hp} : ∀ {vs : List V} {ds : List D} {ns : List Str}, Dts K cv F vs ds → dStrs ds = some ns → vs = ns.map V.str
  | _, _, _, .nil, e => by
    cases e
    rfl
  | _, _, ns, .cons h r, e => by
    cases h <;> try (cases e; done)
    rename_i vs ds i
    have e : (dStrs ds).map (fun l => i :: l) = some ns := e
    obtain ⟨l, q, rfl⟩ := Option.map_eq_some_iff.mp e
    rw [strs_v r q]
    rfl
theorem cl_one {f : Value} {g : D → R D} {r : List V → Hp → VK → Prop} (ho : CallR X f r) (h : ∀ {σ : L2.St} {F H : Hp} {v : V} {d : D} {Q : VK}, Same F H → Lk X.K cv F H v d → wR X.K cv W σ F H (g d) (hD X.K cv) Q → r [v] H Q) : Cld X cv W f (hD X.K cv) (one g) := by
  refine ⟨r, ho, fun {σ F H vs ds Q} s l w => ?_⟩
  cases l with
  | nil => exact w.elim
  | cons l1 l2 =>
    cases l2 with
    | nil => exact h s l1 w
    | cons _ _ => exact w.elim
theorem cl_two {f : Value} {g : D → D → R D} {r : List V → Hp → VK → Prop} (ho : CallR X f r) (h : ∀ {σ : L2.St} {F H : Hp} {v u : V} {d e : D} {Q : VK}, Same F H → Lk X.K cv F H v d → Lk X.K cv F H u e → wR X.K cv W σ F H (g d e) (hD X.K cv) Q → r [v, u] H Q) : Cld X cv W f (hD X.K cv) (two g) := by
  refine ⟨r, ho, fun {σ F H vs ds Q} s l w => ?_⟩
  cases l with
  | nil => exact w.elim
  | cons l1 l2 =>
    cases l2 with
    | nil => exact w.elim
    | cons l3 l4 =>
      cases l4 with
      | nil => exact h s l1 l3 w
      | cons _ _ => exact w.elim
theorem cd_len : Cld X cv W (.builtin "len") (hD X.K cv) (one dLen) := cl_one call_len fun {σ F H v d Q} s l w => by
  unfold dLen at w
  split at w
  · obtain ⟨a, vs, rfl, h1, _, h3⟩ := l.tup s
    refine ⟨_, _, rfl, .inr ⟨vs, h1, rfl⟩, ?_⟩
    rw [h3.length]
    exact wR_ok s w (.int _)
  · obtain ⟨a, vs, rfl, h1, h3⟩ := l.list s
    refine ⟨_, _, rfl, .inl ⟨vs, .inl (.inl h1), rfl⟩, ?_⟩
    rw [h3.length]
    exact wR_ok s w (.int _)
  · obtain ⟨a, rfl, h1⟩ := l.scr s
    refine ⟨_, _, rfl, .inl ⟨_, h1, rfl⟩, ?_⟩
    rw [List.length_map]
    exact wR_ok s w (.int _)
  · split at w
    · have e := l.str
      subst e
      exact ⟨_, _, rfl, ⟨ln_le (by assumption), rfl⟩, wR_ok s w (.int _)⟩
    · exact w.elim
  · exact w.elim
theorem cd_abs : Cld X cv W (.builtin "abs") (hD X.K cv) (one bAbs) := cl_one call_abs fun {σ F H v d Q} s l w => by
  unfold bAbs at w
  split at w
  · have e := l.int
    subst e
    exact ⟨_, rfl, wR_ok s w (.int _)⟩
  · exact w.elim
theorem cd_max2 (hc : X.calm = true) : Cld X cv W (.builtin "max") (hD X.K cv) (two bMax) := cl_two (call_max2 hc) fun {σ F H v u d e Q} s l l' w => by
  unfold bMax at w
  split at w
  · have e := l.int
    have e' := l'.int
    subst e e'
    exact ⟨_, _, rfl, wR_ok s w (.int _)⟩
  · exact w.elim
theorem cd_min2 (hc : X.calm = true) : Cld X cv W (.builtin "min") (hD X.K cv) (two bMin) := cl_two (call_min2 hc) fun {σ F H v u d e Q} s l l' w => by
  unfold bMin at w
  split at w
  · have e := l.int
    have e' := l'.int
    subst e e'
    exact ⟨_, _, rfl, wR_ok s w (.int _)⟩
  · exact w.elim
theorem cd_int : Cld X cv W (.type "int") (hD X.K cv) (one bInt) := cl_one call_int1 fun {σ F H v d Q} s l w => by
  unfold bInt at w
  split at w
  · have e := l.int
    subst e
    exact .inl ⟨_, rfl, wR_ok s w (.int _)⟩
  · have e := l.bl
    subst e
    exact .inr ⟨_, rfl, wR_ok s w (.int _)⟩
  · exact w.elim
/-- a list of ints; of truths -/
theorem of_ints {σ : L2.St} {F H : Hp} {v : V} {xs : List D} {Q : VK} {g : List Int → R D} (s : Same F H) (l : Lk X.K cv F H v (.lst xs)) (w : wR X.K cv W σ F H ((R.of (dInts xs)).bind g) (hD X.K cv) Q) :
    ∃ a ns, v = .ref a ∧ SqL X.K H a (ns.map V.int) ∧ wR X.K cv W σ F H (g ns) (hD X.K cv) Q := by
  obtain ⟨a, vs, rfl, h1, h3⟩ := l.list s
  cases q : dInts xs with
  | some ns =>
    rw [q] at w
    have e := ints_v h3 q
    subst e
    exact ⟨a, ns, rfl, .inl (.inl h1), w⟩
  | none =>
    rw [q] at w
    exact w.elim
theorem of_bls {σ : L2.St} {F H : Hp} {v : V} {xs : List D} {Q : VK} {g : List Bool → R D} (s : Same F H) (l : Lk X.K cv F H v (.lst xs)) (w : wR X.K cv W σ F H ((R.of (dBls xs)).bind g) (hD X.K cv) Q) :
    ∃ a ns, v = .ref a ∧ SqL X.K H a (ns.map V.bl) ∧ wR X.K cv W σ F H (g ns) (hD X.K cv) Q := by
  obtain ⟨a, vs, rfl, h1, h3⟩ := l.list s
  cases q : dBls xs with
  | some ns =>
    rw [q] at w
    have e := bls_v h3 q
    subst e
    exact ⟨a, ns, rfl, .inl (.inl h1), w⟩
  | none =>
    rw [q] at w
    exact w.elim
theorem cd_sum (hc : X.calm = true) : Cld X cv W (.builtin "sum") (hD X.K cv) (one bSum) := cl_one (cr_sum hc) fun {σ F H v d Q} s l w => by
  unfold bSum at w
  split at w
  · obtain ⟨a, ns, rfl, h, w⟩ := of_ints s l w
    exact ⟨a, ns, rfl, h, wR_ok s w (.int _)⟩
  · exact w.elim
theorem cd_all (hc : X.calm = true) : Cld X cv W (.builtin "all") (hD X.K cv) (one bAll) := cl_one (cr_all hc) fun {σ F H v d Q} s l w => by
  unfold bAll at w
  split at w
  · obtain ⟨a, ns, rfl, h, w⟩ := of_bls s l w
    exact ⟨a, ns, rfl, h, wR_ok s w (.bl _)⟩
  · exact w.elim
theorem cd_any (hc : X.calm = true) : Cld X cv W (.builtin "any") (hD X.K cv) (one bAny) := cl_one (cr_any hc) fun {σ F H v d Q} s l w => by
  unfold bAny at w
  split at w
  · obtain ⟨a, ns, rfl, h, w⟩ := of_bls s l w
    exact ⟨a, ns, rfl, h, wR_ok s w (.bl _)⟩
  · exact w.elim
theorem top_is : ∀ (a : Int) (r : List Int), topOf a r ∈ a :: r ∧ ∀ y ∈ a :: r, y ≤ topOf a r
  | a, [] => ⟨by simp [topOf], fun y h => by
    have e : y = a := by simpa using h
    simp [topOf, e]⟩
  | a, b :: r => by
    have ih := top_is (if a < b then b else a) r
    refine ⟨?_, fun y h => ?_⟩
    · show topOf _ r ∈ _
      rcases List.mem_cons.mp ih.1 with e | e
      · rw [e]
        split <;> simp
      · simp [e]
    · show y ≤ topOf _ r
      have h0 := ih.2 _ List.mem_cons_self
      rcases List.mem_cons.mp h with e | h
      · subst e
        refine Int.le_trans ?_ h0
        split <;> omega
      · rcases List.mem_cons.mp h with e | h
        · subst e
          refine Int.le_trans ?_ h0
          split <;> omega
        · exact ih.2 y (List.mem_cons_of_mem _ h)
theorem bot_is : ∀ (a : Int) (r : List Int), botOf a r ∈ a :: r ∧ ∀ y ∈ a :: r, botOf a r ≤ y
  | a, [] => ⟨by simp [botOf], fun y h => by
    have e : y = a := by simpa using h
    simp [botOf, e]⟩
  | a, b :: r => by
    have ih := bot_is (if b < a then b else a) r
    refine ⟨?_, fun y h => ?_⟩
    · show botOf _ r ∈ _
      rcases List.mem_cons.mp ih.1 with e | e
      · rw [e]
        split <;> simp
      · simp [e]
    · show botOf _ r ≤ y
      have h0 := ih.2 _ List.mem_cons_self
      rcases List.mem_cons.mp h with e | h
      · subst e
        refine Int.le_trans h0 ?_
        split <;> omega
      · rcases List.mem_cons.mp h with e | h
        · subst e
          refine Int.le_trans h0 ?_
          split <;> omega
        · exact ih.2 y (List.mem_cons_of_mem _ h)
theorem cd_maxL (hc : X.calm = true) : Cld X cv W (.builtin "max") (hD X.K cv) (one bMaxL) := cl_one (cr_max hc) fun {σ F H v d Q} s l w => by
  unfold bMaxL at w
  split at w
  · obtain ⟨a, ns, rfl, h, w⟩ := of_ints s l w
    split at w
    · rename_i b r
      refine ⟨a, _, rfl, h, by simp, fun m hm hle => ?_⟩
      have z := top_is b r
      have e : m = topOf b r := Int.le_antisymm (z.2 m hm) (hle _ z.1)
      subst e
      exact wR_ok s w (.int _)
    · exact w.elim
  · exact w.elim
theorem cd_minL (hc : X.calm = true) : Cld X cv W (.builtin "min") (hD X.K cv) (one bMinL) := cl_one (cr_min hc) fun {σ F H v d Q} s l w => by
  unfold bMinL at w
  split at w
  · obtain ⟨a, ns, rfl, h, w⟩ := of_ints s l w
    split at w
    · rename_i b r
      refine ⟨a, _, rfl, h, by simp, fun m hm hle => ?_⟩
      have z := bot_is b r
      have e : m = botOf b r := Int.le_antisymm (hle _ z.1) (z.2 m hm)
      subst e
      exact wR_ok s w (.int _)
    · exact w.elim
  · exact w.elim
/-- list(x), a new list; tuple(x) -/
theorem cd_list : Cld X cv W (.type "list") (hN X.K cv) bList := by
  refine ⟨_, call_list_of, fun {σ F H vs ds Q} s l w => ?_⟩
  cases l with
  | nil => exact w.elim
  | cons l1 l2 =>
    cases l2 with
    | cons _ _ => exact w.elim
    | nil =>
      have w : wR X.K cv W σ F H (dItems _) (hN X.K cv) Q := w
      unfold dItems at w
      split at w
      · obtain ⟨a, vs, rfl, h1, h3⟩ := l1.list s
        exact ⟨a, vs, rfl, .inl (.inl (.inl h1)), fun p np => w _ _ _ (Ext.hid s np) ⟨p, vs, rfl, np, s.free np, upd_same, h3⟩⟩
      · obtain ⟨a, vs, rfl, h1, _, h3⟩ := l1.tup s
        exact ⟨a, vs, rfl, .inr h1, fun p np => w _ _ _ (Ext.hid s np) ⟨p, vs, rfl, np, s.free np, upd_same, h3⟩⟩
      · exact w.elim
theorem cd_tuple : Cld X cv W (.type "tuple") (hD X.K cv) (one dTupOf) := cl_one call_tuple_of fun {σ F H v d Q} s l w => by
  unfold dTupOf dItems at w
  cases d <;> try exact False.elim w
  · obtain ⟨a, vs, rfl, h1, h3⟩ := l.list s
    refine ⟨a, vs, rfl, .inl ⟨.inl (.inl h1), fun p np => ?_⟩⟩
    exact w _ _ _ (Ext.new s np) (.tup (.inl (.inl upd_same)) (h3.mono (same_upd (s.free np))))
  · obtain ⟨a, vs, rfl, h1, h2, h3⟩ := l.tup s
    exact ⟨a, vs, rfl, .inr ⟨h1, wR_ok s w (.tup h2 h3)⟩⟩
end

/-! ### what is walked -/
def ItOk (K : Frag) (cv : Nat → Addr) (F : Hp) (J : It) (ds : List D) : Prop :=
  ∀ (i : Nat) (F' H' : Hp), Same F F' → Same F' H' →
    (∀ d, ds[i]? = some d → J.go i H' ∧ ∀ x H'', J.yld i H' x H'' → ∃ F'', Ext F' H' F'' H'' ∧ Dt K cv F'' x d) ∧ (ds.length ≤ i → J.stop i H')
def hI (K : Frag) (cv : Nat → Addr) : Hld (List D) It := fun _ ds J F' _ => ItOk K cv F' J ds
theorem an_I {K : Frag} {cv : Nat → Addr} : Anti (hI K cv) := fun _ _ _ _ _ _ _ h => h
def RI (X : Cx) (cv : Nat → Addr) (W : WX) (tg iter : Expr) (f : XA) : Prop :=
  ∃ t, PI X tg iter t ∧ ∀ {F0 B : Hp} {ρ : Rho} {σ : L2.St} {F H : Hp} {Q : It → Hp → Prop}, Rel X.K cv F0 B ρ σ F H → wR X.K cv W σ F H (f ρ) (hI X.K cv) Q → t σ H Q
section
variable {X : Cx} {cv : Nat → Addr} {W : WX} {tg a b c e : Expr} {fa fb fc : XE} {pos p : Pos}
theorem PI.or {iter : Expr} {wi wi' : TI} (h : PI X tg iter wi) (h' : PI X tg iter wi') : PI X tg iter (fun σ H R => wi σ H R ∨ wi' σ H R) :=
  ⟨fun pins s σ H R I q => by
    rcases q with q | q
    · exact h.run pins s σ H R I q
    · exact h'.run pins s σ H R I q⟩
theorem ok_list {K : Frag} {F : Hp} {p : Addr} {vs : List V} {ds : List D} (h : F p = some (.lst vs)) (r : Dts K cv F vs ds) : ItOk K cv F (Itl K p) ds := fun i F' H' s1 s2 => by
  have hq : SqL K H' p vs := .inl (.inl (s2 _ _ (s1 _ _ h)))
  refine ⟨fun d hd => ?_, fun hl => ⟨vs, hq, by rw [r.length]; exact hl⟩⟩
  obtain ⟨v, e1, e2⟩ := r.get hd
  refine ⟨⟨vs, v, hq, e1⟩, fun x H'' y => ?_⟩
  obtain ⟨rfl, y⟩ := y
  have z := y vs hq
  rw [e1] at z
  cases z
  exact ⟨F', Ext.refl s2, e2.mono s1⟩
theorem ok_tup {K : Frag} {F : Hp} {p : Addr} {vs : List V} {ds : List D} (h : SqT K F p vs) (r : Dts K cv F vs ds) : ItOk K cv F (Itt K p) ds := fun i F' H' s1 s2 => by
  have hq : SqT K H' p vs := Same.tup s2 (Same.tup s1 h)
  refine ⟨fun d hd => ?_, fun hl => ⟨vs, hq, by rw [r.length]; exact hl⟩⟩
  obtain ⟨v, e1, e2⟩ := r.get hd
  refine ⟨⟨vs, v, hq, e1⟩, fun x H'' y => ?_⟩
  obtain ⟨rfl, y⟩ := y
  have z := y vs hq
  rw [e1] at z
  cases z
  exact ⟨F', Ext.refl s2, e2.mono s1⟩
theorem ri_seq (h : RE X cv W a fa) : RI X cv W tg a (iSeq fa) := by
  obtain ⟨t, p, q⟩ := h
  refine ⟨_, PI.or (pi_list p) (pi_tup p), fun {F0 B ρ σ F H Q} R w => ?_⟩
  have w : wR X.K cv W σ F H ((fa ρ).bind dItems) (hI X.K cv) Q := w
  cases z : fa ρ with
  | bad =>
    rw [z] at w
    exact w.elim
  | err e =>
    rw [z] at w
    exact .inl (q R (by rw [z]; exact w))
  | ok d =>
    rw [z] at w
    cases d <;> try exact False.elim w
    · refine .inl (q R ?_)
      rw [z]
      intro v F' H' e hh
      cases hh with
      | lst h r => exact ⟨_, rfl, ⟨_, .inl (.inl (e.fh _ _ h))⟩, w _ F' H' e (ok_list h r)⟩
    · refine .inr (q R ?_)
      rw [z]
      intro v F' H' e hh
      cases hh with
      | tup h r => exact ⟨_, rfl, ⟨_, Same.tup e.fh h⟩, w _ F' H' e (ok_tup h r)⟩
theorem ok_rng {K : Frag} {F : Hp} (lo : Int) (n : Nat) : ItOk K cv F (Itr lo n) (rng lo n) := fun i F' H' s1 s2 => by
  have hlen : (rng lo n).length = n := by unfold rng; rw [List.length_map, List.length_range]
  refine ⟨fun d hd => ?_, fun hl => ?_⟩
  · have hi : i < n := by
      rw [← hlen]
      exact (List.getElem?_eq_some_iff.mp hd).1
    refine ⟨hi, fun x H'' y => ?_⟩
    obtain ⟨rfl, rfl⟩ := y
    unfold rng at hd
    rw [List.getElem?_map, List.getElem?_range hi] at hd
    cases hd
    exact ⟨F', Ext.refl s2, .int _⟩
  · rw [hlen] at hl
    exact hl
theorem ri_rng1 (hm : X.mg "range" = none) (h : RAL X cv W [a] (xCons fa xNil)) (hg : Gl X "range" := by rfl) (hs : starEach [a] X.env = [(false, eval a X.env)] := by rfl) : RI X cv W tg (.Call (.Name "range" p) [a] [] pos) (iRng1 fa) := by
  obtain ⟨t, p1, q⟩ := h
  refine ⟨_, pi_range1 hg hm p1 hs, fun {F0 B ρ σ F H Q} R w => ?_⟩
  refine q R ?_
  have w : wR X.K cv W σ F H ((fa ρ).bind fun x => (dInt x).bind fun n => if RgN n then .ok (rng 0 n.toNat) else .bad) (hI X.K cv) Q := w
  show wR X.K cv W σ F H ((fa ρ).bind fun x => .ok [x]) _ _
  cases z : fa ρ with
  | bad =>
    rw [z] at w
    exact w.elim
  | err e =>
    rw [z] at w
    exact w
  | ok d =>
    rw [z] at w
    intro vs F' H' e hh
    cases hh with
    | cons l1 l2 =>
      cases l2
      cases d <;> try exact False.elim w
      have e1 := l1.int
      subst e1
      simp only [dInt, Gy.R.bind_ok] at w
      split at w
      · rename_i hb
        exact ⟨_, rfl, hb.lo, hb.hi, w _ F' H' e (ok_rng 0 _)⟩
      · exact w.elim
theorem ri_rng2 (hm : X.mg "range" = none) (h : RAL X cv W [a, b] (xCons fa (xCons fb xNil))) (hg : Gl X "range" := by rfl) (hs : starEach [a, b] X.env = [(false, eval a X.env), (false, eval b X.env)] := by rfl) (hs2 : starEach [b] X.env = [(false, eval b X.env)] := by rfl) : RI X cv W tg (.Call (.Name "range" p) [a, b] [] pos) (iRng2 fa fb) := by
  obtain ⟨t, p1, q⟩ := h
  refine ⟨_, pi_range2 hg hm p1 hs hs2, fun {F0 B ρ σ F H Q} R w => ?_⟩
  refine q R ?_
  have w : wR X.K cv W σ F H ((fa ρ).bind fun x => (fb ρ).bind fun y => (dInt x).bind fun m => (dInt y).bind fun n => if RgN m ∧ RgN n then .ok (rng m (n - m).toNat) else .bad) (hI X.K cv) Q := w
  show wR X.K cv W σ F H ((fa ρ).bind fun x => ((fb ρ).bind fun y => .ok [y]).bind fun xs => .ok (x :: xs)) _ _
  cases z : fa ρ with
  | bad =>
    rw [z] at w
    exact w.elim
  | err e =>
    rw [z] at w
    exact w
  | ok d =>
    rw [z] at w
    simp only [Gy.R.bind_ok] at w ⊢
    cases z' : fb ρ with
    | bad =>
      rw [z'] at w
      exact w.elim
    | err e =>
      rw [z'] at w
      exact w
    | ok d' =>
      rw [z'] at w
      intro vs F' H' e hh
      cases hh with
      | cons l1 l2 =>
        cases l2 with
        | cons l3 l4 =>
          cases l4
          cases d <;> try exact False.elim w
          cases d' <;> try exact False.elim w
          have e1 := l1.int
          have e2 := l3.int
          subst e1 e2
          simp only [dInt, Gy.R.bind_ok] at w
          split at w
          · rename_i hb
            exact ⟨_, _, rfl, ⟨hb.1.lo, hb.1.hi, hb.2.lo, hb.2.hi⟩, w _ F' H' e (ok_rng _ _)⟩
          · exact w.elim
/-- reversed(x) -/
theorem ri_rev (hm : X.mg "reversed" = none) (h : RE X cv W a fa) (hg : Gl X "reversed" := by rfl) (hs : starEach [a] X.env = (false, eval a X.env) :: starEach [] X.env := by rfl) : RI X cv W tg (.Call (.Name "reversed" p) [a] [] pos) (iRev fa) := by
  obtain ⟨t, p1, q⟩ := h
  refine ⟨_, RT.pi_revA hg hm p1 hs, fun {F0 B ρ σ F H Q} R w => ?_⟩
  refine q R (wR_bind an_I w fun d v F1 H1 e1 h1 w1 => ?_)
  have key : ∀ {vs : List V} {ds : List D} (i : Nat) (d : D), Dts X.K cv F1 vs ds → ds.reverse[i]? = some d → i < vs.length ∧ ∃ v, vs[vs.length - 1 - i]? = some v ∧ Dt X.K cv F1 v d := fun {vs ds} i d r hd => by
    have hi : i < ds.length := by
      have z := (List.getElem?_eq_some_iff.mp hd).1
      rwa [List.length_reverse] at z
    rw [List.getElem?_reverse hi] at hd
    obtain ⟨v, k1, k2⟩ := r.get hd
    exact ⟨by rw [r.length]; exact hi, v, by rw [r.length]; exact k1, k2⟩
  cases d <;> try exact False.elim w1
  · cases h1 with
    | lst h r =>
      refine ⟨_, _, rfl, .inl ⟨.inl (.inl (e1.fh _ _ h)), w1 _ F1 H1 (Ext.refl e1.fh) fun i F' H' s1 s2 => ⟨fun d hd => ?_, fun hl => ?_⟩⟩⟩
      · obtain ⟨hi, v, k1, k2⟩ := key i d r hd
        have hq : SqL X.K H' _ _ := .inl (.inl (s2 _ _ (s1 _ _ h)))
        refine ⟨⟨hi, _, v, hq, k1⟩, fun x H'' y => ?_⟩
        obtain ⟨rfl, y⟩ := y
        have z := y _ hq
        rw [k1] at z
        cases z
        exact ⟨F', Ext.refl s2, k2.mono s1⟩
      · show _ ≤ i
        rw [List.length_reverse] at hl
        rw [r.length]
        exact hl
  · cases h1 with
    | tup h r =>
      refine ⟨_, _, rfl, .inr ⟨Same.tup e1.fh h, w1 _ F1 H1 (Ext.refl e1.fh) fun i F' H' s1 s2 => ⟨fun d hd => ?_, fun hl => ?_⟩⟩⟩
      · obtain ⟨hi, v, k1, k2⟩ := key i d r hd
        have hq : SqT X.K H' _ _ := Same.tup s2 (Same.tup s1 h)
        refine ⟨⟨hi, _, v, hq, k1⟩, fun x H'' y => ?_⟩
        obtain ⟨rfl, y⟩ := y
        have z := y _ hq
        rw [k1] at z
        cases z
        exact ⟨F', Ext.refl s2, k2.mono s1⟩
      · show _ ≤ i
        rw [List.length_reverse] at hl
        rw [r.length]
        exact hl
end
end Gy

end

section
set_option Elab.async false
set_option linter.all false
set_option maxRecDepth 100000
set_option maxHeartbeats 4000000
/-! GyU: targets, comprehensions, statements, defs. -/
namespace Gy
open PySem PySem.Spec PyProof.Rows L2

/-! ### targets -/
theorem wipe_get {σ : L2.St} {i : Nat} : ∀ {vs : List Nat}, (wipe σ vs)[i]? = if i ∈ vs then (if i < σ.length then some none else none) else σ[i]?
  | [] => by simp [wipe]
  | v :: vs => by
    unfold wipe
    rw [List.getElem?_set, wipe_get (vs := vs), wipe_length]
    by_cases h : v = i
    · subst h
      simp
    · rw [if_neg h]
      have e : (i ∈ v :: vs) ↔ i ∈ vs := by
        simp only [List.mem_cons]
        exact ⟨fun z => z.elim (fun q => absurd q.symm h) (fun q => q), .inr⟩
      simp only [e]
theorem wipe_eq {σ σ' : L2.St} {vs : List Nat} (hl : σ'.length = σ.length) (h : ∀ i, i ∉ vs → σ'[i]? = σ[i]?) : wipe σ' vs = wipe σ vs := by
  refine List.ext_getElem? fun i => ?_
  rw [wipe_get, wipe_get, hl]
  by_cases hi : i ∈ vs
  · rw [if_pos hi, if_pos hi]
  · rw [if_neg hi, if_neg hi]
    exact h i hi
theorem wipe_wipe {σ : L2.St} {vs : List Nat} : wipe (wipe σ vs) vs = wipe σ vs :=
  wipe_eq (wipe_length _ _) fun i hi => by rw [wipe_get, if_neg hi]
/-- only the slots gs are given -/
def OnlyAt (gs : List Nat) (σ σ' : L2.St) : Prop := σ'.length = σ.length ∧ ∀ i, i ∉ gs → σ'[i]? = σ[i]?
def RG (X : Cx) (cv : Nat → Addr) (tg : Expr) (g : XG) (gs : List Nat) : Prop :=
  ∃ t, PG X tg t ∧ ∀ {F0 B : Hp} {ρ ρ' : Rho} {σ : L2.St} {F H : Hp} {v : V} {d : D} {Q : L2.St → Hp → Prop}, Rel X.K cv F0 B ρ σ F H → Dt X.K cv F v d → g d ρ = .ok ρ' →
    (∀ σ', Rel X.K cv F0 B ρ' σ' F H → OnlyAt gs σ σ' → Q σ' H) → t v σ H Q
def RGs (X : Cx) (cv : Nat → Addr) (tgs : List Expr) (g : XGs) (gs : List Nat) : Prop :=
  ∃ t, PGs X tgs t ∧ ∀ {F0 B : Hp} {ρ ρ' : Rho} {σ : L2.St} {F H : Hp} {vs : List V} {ds : List D} {Q : L2.St → Hp → Prop}, Rel X.K cv F0 B ρ σ F H → Dts X.K cv F vs ds → g ds ρ = .ok ρ' →
    (∀ σ', Rel X.K cv F0 B ρ' σ' F H → OnlyAt gs σ σ' → Q σ' H) → t vs σ H Q
section
variable {X : Cx} {cv : Nat → Addr} {W : WX} {tg a b c e : Expr} {fa fb fc : XE} {pos p : Pos}
theorem rg_nm (i : Nat) {x : Str} (h : PG X (.Name x pos) (gName i)) : RG X cv (.Name x pos) (gNm i) [i] := by
  refine ⟨_, h, fun {F0 B ρ ρ' σ F H v d Q} Z hd e q => ?_⟩
  cases e
  exact q _ (Z.setD i hd) ⟨List.length_set, fun j hj => List.getElem?_set_ne (fun z => hj (by simp [z]))⟩
theorem rgs_nil : RGs X cv [] gNil [] := by
  refine ⟨_, pgs_nil, fun {F0 B ρ ρ' σ F H vs ds Q} Z hd e q => ?_⟩
  cases hd with
  | nil =>
    cases e
    exact ⟨rfl, q _ Z ⟨rfl, fun _ _ => rfl⟩⟩
  | cons _ _ => cases e
theorem rgs_cons {es : List Expr} {g : XG} {r : XGs} {gs gs' : List Nat} (h : RG X cv e g gs) (h' : RGs X cv es r gs') (p2 : ∀ {t u}, PG X e t → PGs X es u → PGs X (e :: es) (L2.gCons t u) := by exact fun a b => pgs_cons a b) : RGs X cv (e :: es) (Gy.gCons g r) (gs ++ gs') := by
  obtain ⟨t, p, q⟩ := h
  obtain ⟨t', p', q'⟩ := h'
  refine ⟨_, p2 p p', fun {F0 B ρ ρ' σ F H vs ds Q} Z hd e k => ?_⟩
  cases hd with
  | nil => cases e
  | cons h1 h2 =>
    rename_i v vs d ds
    have e : (g d ρ).bind (fun ρ' => r ds ρ') = .ok ρ' := e
    cases z : g d ρ with
    | ok ρ1 =>
      rw [z] at e
      refine ⟨v, vs, rfl, q Z h1 z fun σ1 Z1 o1 => ?_⟩
      refine q' Z1 h2 e fun σ2 Z2 o2 => k σ2 Z2 ⟨o2.1.trans o1.1, fun i hi => ?_⟩
      rw [o2.2 i fun m => hi (List.mem_append_right _ m), o1.2 i fun m => hi (List.mem_append_left _ m)]
    | err _ =>
      rw [z] at e
      cases e
    | bad =>
      rw [z] at e
      cases e
theorem rg_tup {es : List Expr} {k : Nat} {g : XGs} {gs : List Nat} (hc : X.calm = true) (h : RGs X cv es g gs) (n : Nat) (hn : (assignEach es X.env).length = n := by rfl) (hl : ∀ ds ρ ρ', g ds ρ = .ok ρ' → ds.length = n)
    (hst : (assignEach es X.env).findIdx? (·.1) = none := by rfl) : RG X cv (.Tuple es k pos) (gTp g) gs := by
  obtain ⟨t, p, q⟩ := h
  refine ⟨_, pg_tup hc p hn hst, fun {F0 B ρ ρ' σ F H v d Q} Z hd e k => ?_⟩
  cases hd <;> try (cases e; done)
  rename_i a vs ds h1 h2
  exact ⟨a, vs, rfl, Same.tup Z.fh h1, by rw [h2.length]; exact hl _ _ _ e, q Z h2 e k⟩
/-- a, b = [..] -/
theorem rg_lst {es : List Expr} {k : Nat} {g : XGs} {gs : List Nat} (hc : X.calm = true) (h : RGs X cv es g gs) (n : Nat) (hn : (assignEach es X.env).length = n := by rfl) (hl : ∀ ds ρ ρ', g ds ρ = .ok ρ' → ds.length = n)
    (hst : (assignEach es X.env).findIdx? (·.1) = none := by rfl) : RG X cv (.Tuple es k pos) (gLs g) gs := by
  obtain ⟨t, p, q⟩ := h
  refine ⟨_, pg_lst hc p hn hst, fun {F0 B ρ ρ' σ F H v d Q} Z hd e k => ?_⟩
  cases hd <;> try (cases e; done)
  rename_i a vs ds h1 h2
  exact ⟨a, vs, rfl, .inl (.inl (Z.fh _ _ h1)), by rw [h2.length]; exact hl _ _ _ e, q Z h2 e k⟩
theorem len_nil {ds : List D} {ρ ρ' : Rho} (h : gNil ds ρ = .ok ρ') : ds.length = 0 := by
  cases ds with
  | nil => rfl
  | cons _ _ => cases h
theorem len_cons {g : XG} {r : XGs} {n : Nat} (hr : ∀ ds ρ ρ', r ds ρ = .ok ρ' → ds.length = n) : ∀ ds ρ ρ', Gy.gCons g r ds ρ = .ok ρ' → ds.length = n + 1 := fun ds ρ ρ' h => by
  cases ds with
  | nil => cases h
  | cons d ds =>
    have h : (g d ρ).bind (fun ρ' => r ds ρ') = .ok ρ' := h
    cases z : g d ρ with
    | ok ρ1 =>
      rw [z] at h
      rw [List.length_cons, hr _ _ _ h]
    | err _ =>
      rw [z] at h
      cases h
    | bad =>
      rw [z] at h
      cases h

/-! ### comprehensions -/
theorem wipes_get {ρ : Rho} {i : Nat} : ∀ {vs : List Nat}, (wipes ρ vs)[i]? = if i ∈ vs then (if i < ρ.length then some .no else none) else ρ[i]?
  | [] => by simp [wipes]
  | v :: vs => by
    have hl : ∀ us : List Nat, (wipes ρ us).length = ρ.length := fun us => by
      induction us with
      | nil => rfl
      | cons u us ih =>
        unfold wipes
        rw [List.length_set, ih]
    unfold wipes
    rw [List.getElem?_set, wipes_get (vs := vs), hl]
    by_cases h : v = i
    · subst h
      simp
    · rw [if_neg h]
      have e : (i ∈ v :: vs) ↔ i ∈ vs := by
        simp only [List.mem_cons]
        exact ⟨fun z => z.elim (fun q => absurd q.symm h) (fun q => q), .inr⟩
      simp only [e]
theorem wipes_len (ρ : Rho) : ∀ us : List Nat, (wipes ρ us).length = ρ.length := fun us => by
  induction us with
  | nil => rfl
  | cons u us ih =>
    unfold wipes
    rw [List.length_set, ih]
theorem Rel.wipe {K : Frag} {F0 B : Hp} {ρ : Rho} {σ : L2.St} {F H : Hp} (r : Rel K cv F0 B ρ σ F H) (vs : List Nat) : Rel K cv F0 B (wipes ρ vs) (L2.wipe σ vs) F H := by
  induction vs with
  | nil => exact r
  | cons v vs ih =>
    unfold wipes L2.wipe
    exact ih.setN v none
/-- nothing is let out -/
def WF : WX := fun _ _ _ _ => False
def RTs (X : Cx) (cv : Nat → Addr) (ifs : List Expr) (f : XT) : Prop :=
  ∃ t, PTs X ifs t ∧ ∀ {F0 B : Hp} {ρ : Rho} {σ : L2.St} {F H : Hp} {Q : Bool → Hp → Prop}, Rel X.K cv F0 B ρ σ F H → wR X.K cv WF σ F H (f ρ) hB Q → t σ H Q
theorem rts_nil : RTs X cv [] tYes := ⟨_, pts_nil, fun {F0 B ρ σ F H Q} Z w => wR_ok Z.fh w rfl⟩
theorem rts_one {f : XT} (h : RT X cv WF c f) : RTs X cv [c] f := by
  obtain ⟨t, p, q⟩ := h
  exact ⟨_, pts_one p, q⟩
theorem wF_imp {K : Frag} {W : WX} {σ : L2.St} {F H : Hp} {α β : Type} {r : R α} {hold : Hld α β} {Q : β → Hp → Prop} (h : wR K cv W σ F H (noErr r) hold Q) : wR K cv WF σ F H r hold Q := by
  cases r with
  | ok a => exact h
  | err e => exact h.elim
  | bad => exact h
/-! the readings, one for all contexts of the same written part -/
def canE (K : Frag) (cv : Nat → Addr) (W : WX) {α : Type} (hold : Hld α V) (f : Rho → R α) : TE := fun σ H Q => ∃ F0 B ρ F, Rel K cv F0 B ρ σ F H ∧ wR K cv W σ F H (f ρ) hold Q
def canTs (K : Frag) (cv : Nat → Addr) (f : XT) : TT := fun σ H Q => ∃ F0 B ρ F, Rel K cv F0 B ρ σ F H ∧ wR K cv WF σ F H (f ρ) hB Q
def canG (K : Frag) (cv : Nat → Addr) (g : XG) (gs : List Nat) : TG := fun v σ H Q => ∃ F0 B ρ ρ' F d, Rel K cv F0 B ρ σ F H ∧ Dt K cv F v d ∧ g d ρ = .ok ρ' ∧ ∀ σ', Rel K cv F0 B ρ' σ' F H → OnlyAt gs σ σ' → Q σ' H
theorem can_e {α : Type} {hold : Hld α V} {f : Rho → R α} (h : RP X cv W hold e f) : PE X e (canE X.K cv W hold f) := by
  obtain ⟨t, p, q⟩ := h
  exact ⟨fun pins s σ H Q I ⟨F0, B, ρ, F, Z, w⟩ => p.run pins s σ H Q I (q Z w)⟩
theorem can_ts {ifs : List Expr} {f : XT} (h : RTs X cv ifs f) : PTs X ifs (canTs X.K cv f) := by
  obtain ⟨t, p, q⟩ := h
  exact ⟨fun pins s σ H Q I ⟨F0, B, ρ, F, Z, w⟩ => p.run pins s σ H Q I (q Z w)⟩
theorem can_g {g : XG} {gs : List Nat} (h : RG X cv tg g gs) : PG X tg (canG X.K cv g gs) := by
  obtain ⟨t, p, q⟩ := h
  exact ⟨fun pins s σ H v u Q I r ⟨F0, B, ρ, ρ', F, d, Z, hd, e, k⟩ => p.run pins s σ H v u Q I r (q Z hd e k)⟩
/-- what a comprehension's reading comes to -/
theorem lc_w {iter : Expr} {it : XA} {g : XG} {gs vs : List Nat} {ft : XT} {fe : XE} {ti : TI}
    (qi : ∀ {F0 B : Hp} {ρ : Rho} {σ : L2.St} {F H : Hp} {Q : It → Hp → Prop}, Rel X.K cv F0 B ρ σ F H → wR X.K cv W σ F H (it ρ) (hI X.K cv) Q → ti σ H Q) (hgs : ∀ i ∈ gs, i ∈ vs)
    {F0 B : Hp} {ρ : Rho} {σ : L2.St} {F H : Hp} {Q : VK} (Z : Rel X.K cv F0 B ρ σ F H) (w : wR X.K cv W σ F H (xLc it g ft fe vs ρ) (hN X.K cv) Q) :
    tLc ti (canG X.K cv g gs) (canTs X.K cv ft) (canE X.K cv WF (hD X.K cv) fe) vs σ H Q := by
  refine qi Z (wR_bind an_N w fun ds J F1 H1 e1 hJ w1 => ?_)
  have hJ : ItOk X.K cv F1 J ds := hJ
  split at w1
  · rename_i hl
    intro Dl hD
    cases q : lcRun g ft fe (wipes ρ vs) ds with
    | err e =>
      rw [q] at w1
      exact w1.elim
    | bad =>
      rw [q] at w1
      exact w1.elim
    | ok res =>
      rw [q] at w1
      have hw := w1
      refine ⟨fun i m H' => ∃ F' us acc rest, m = ds.length - i ∧ i ≤ ds.length ∧ Ext F1 H1 F' H' ∧ F' Dl = none ∧ H' Dl = some (.lst us) ∧ Dts X.K cv F' us acc ∧ acc.length ≤ i ∧ lcRun g ft fe (wipes ρ vs) (ds.drop i) = .ok rest ∧ res = acc ++ rest,
        ⟨ds.length, F1, [], [], res, rfl, Nat.zero_le _, Ext.hid e1.fh hD, e1.fh.free hD, upd_same, .nil, Nat.le_refl _, q, rfl⟩, ?_⟩
      rintro i m H' ⟨F', us, acc, rest, rfl, hi, e2, h1, h2, h3, h4, h5, h6⟩
      obtain ⟨hgo, hst⟩ := hJ i F' H' e2.ff e2.fh
      by_cases hlt : i < ds.length
      · have hd : ds[i]? = some ds[i] := List.getElem?_eq_getElem hlt
        obtain ⟨go, yl⟩ := hgo _ hd
        generalize ds[i] = d at hd yl
        refine .inr ⟨go, fun H'' => ∃ F' us acc rest, Ext F1 H1 F' H'' ∧ F' Dl = none ∧ H'' Dl = some (.lst us) ∧ Dts X.K cv F' us acc ∧ acc.length ≤ i + 1 ∧ lcRun g ft fe (wipes ρ vs) (ds.drop (i + 1)) = .ok rest ∧ res = acc ++ rest, ?_, ?_⟩
        · rintro H'' ⟨F', us, acc, rest, e2, h1, h2, h3, h4, h5, h6⟩
          exact ⟨_, by omega, F', us, acc, rest, rfl, hlt, e2, h1, h2, h3, h4, h5, h6⟩
        · intro x H2 hy
          obtain ⟨F2, e3, hx⟩ := yl x H2 hy
          have hdrop : ds.drop i = d :: ds.drop (i + 1) := by
            rw [List.drop_eq_getElem?_toList_append, hd]
            rfl
          rw [hdrop] at h5
          have h5 : (g d (wipes ρ vs)).bind (fun ρ' => (ft ρ').bind fun k => if k = true then (fe ρ').bind fun y => (lcRun g ft fe (wipes ρ vs) (ds.drop (i + 1))).bind fun r => .ok (y :: r) else lcRun g ft fe (wipes ρ vs) (ds.drop (i + 1))) = .ok rest := h5
          have Z2 : Rel X.K cv F0 B (wipes ρ vs) (L2.wipe σ vs) F2 H2 := (((Z.ext e1).ext e2).ext e3).wipe vs
          cases zg : g d (wipes ρ vs) with
          | err _ =>
            rw [zg] at h5
            cases h5
          | bad =>
            rw [zg] at h5
            cases h5
          | ok ρ' =>
            rw [zg] at h5
            refine ⟨F0, B, wipes ρ vs, ρ', F2, d, Z2, hx, zg, fun σ2 Z3 o3 => ⟨?_, ?_⟩⟩
            · rw [← wipe_wipe (σ := σ) (vs := vs)]
              refine wipe_eq o3.1 fun j hj => o3.2 j fun m => hj (hgs j m)
            · have h5 : (ft ρ').bind (fun k => if k = true then (fe ρ').bind fun y => (lcRun g ft fe (wipes ρ vs) (ds.drop (i + 1))).bind fun r => .ok (y :: r) else lcRun g ft fe (wipes ρ vs) (ds.drop (i + 1))) = .ok rest := h5
              cases zt : ft ρ' with
              | err _ =>
                rw [zt] at h5
                cases h5
              | bad =>
                rw [zt] at h5
                cases h5
              | ok k =>
                rw [zt] at h5
                refine ⟨F0, B, ρ', F2, Z3, ?_⟩
                rw [zt]
                intro k' F3 H3 e4 hk
                cases hk
                have eA : Ext F1 H1 F3 H3 := (e2.trans e3).trans e4
                have nD : F3 Dl = none := by
                  cases z : F3 Dl with
                  | none => rfl
                  | some o =>
                    rcases e4.nw Dl o z with ⟨u, z2⟩ | z2
                    · rcases e3.nw Dl u z2 with ⟨u', z3⟩ | z3
                      · rw [h1] at z3
                        cases z3
                      · rw [h2] at z3
                        cases z3
                    · rw [e3.hh _ _ h2] at z2
                      cases z2
                have hD3 : H3 Dl = some (.lst us) := e4.hh _ _ (e3.hh _ _ h2)
                cases k with
                | false =>
                  rw [if_neg Bool.false_ne_true]
                  have h5 : lcRun g ft fe (wipes ρ vs) (ds.drop (i + 1)) = .ok rest := h5
                  exact ⟨F3, us, acc, rest, eA, nD, hD3, (h3.mono e3.ff).mono e4.ff, by omega, h5, h6⟩
                | true =>
                  rw [if_pos rfl]
                  have h5 : (fe ρ').bind (fun y => (lcRun g ft fe (wipes ρ vs) (ds.drop (i + 1))).bind fun r => .ok (y :: r)) = .ok rest := h5
                  cases ze : fe ρ' with
                  | err _ =>
                    rw [ze] at h5
                    cases h5
                  | bad =>
                    rw [ze] at h5
                    cases h5
                  | ok y =>
                    rw [ze] at h5
                    have h5 : (lcRun g ft fe (wipes ρ vs) (ds.drop (i + 1))).bind (fun r => .ok (y :: r)) = .ok rest := h5
                    cases zr : lcRun g ft fe (wipes ρ vs) (ds.drop (i + 1)) with
                    | err _ =>
                      rw [zr] at h5
                      cases h5
                    | bad =>
                      rw [zr] at h5
                      cases h5
                    | ok r =>
                      rw [zr] at h5
                      cases h5
                      refine ⟨F0, B, ρ', F3, Z3.ext e4, ?_⟩
                      rw [ze]
                      intro v F4 H4 e5 hv
                      have hD4 : H4 Dl = some (.lst us) := e5.hh _ _ hD3
                      have nD4 : F4 Dl = none := by
                        cases z : F4 Dl with
                        | none => rfl
                        | some o =>
                          rcases e5.nw Dl o z with ⟨u, z2⟩ | z2
                          · rw [nD] at z2
                            cases z2
                          · rw [hD3] at z2
                            cases z2
                      have hus : us.length = acc.length := h3.length
                      refine ⟨us, hD4, ?_, F4, us ++ [v], acc ++ [y], r, ?_, nD4, upd_same, (((h3.mono e3.ff).mono e4.ff).mono e5.ff).append (.cons hv .nil), ?_, rfl, ?_⟩
                      · rw [hus]
                        exact ln_lt ⟨Nat.le_trans (Nat.le_of_lt (Nat.lt_of_le_of_lt h4 hlt)) hl.h⟩
                      · have eB := eA.trans e5
                        refine ⟨eB.ff, fun b o z => ?_, fun b o z => ?_, eB.nw⟩
                        · rw [upd_ne (ne_of_none z nD4)]
                          exact eB.fh b o z
                        · rw [upd_ne (ne_of_none z hD)]
                          exact eB.hh b o z
                      · rw [List.length_append]
                        show acc.length + 1 ≤ i + 1
                        omega
                      · rw [h6, List.append_assoc]
                        rfl
      · have hi2 : i = ds.length := by omega
        subst hi2
        refine .inl ⟨hst (Nat.le_refl _), ?_⟩
        rw [List.drop_length] at h5
        cases h5
        rw [List.append_nil] at h6
        subst h6
        exact hw (.ref Dl) F' H' e2 ⟨Dl, us, rfl, hD, h1, h2, h3⟩
  · exact w1.elim
section
variable {elt iter : Expr} {ifs : List Expr} {scope : Scope} {own : List (Str × Nat)} {it : XA} {g : XG} {gs : List Nat} {ft : XT} {fe : XE}
theorem rn_lc (hc : X.calm = true) (hN : X.N.Nodup) (hi : RI X cv W tg iter it) (ok : BlkOk X.N X.env.scope scope own)
    (hg : ∀ (s : Shared) (H : Hp) (C : Addr) (cl : List (Str × Addr)) (fp : List Addr), RG (X.blk s H scope (compEnvC scope cl C X.env) fp) cv tg g gs)
    (ht : ∀ (s : Shared) (H : Hp) (C : Addr) (cl : List (Str × Addr)) (fp : List Addr), RTs (X.blk s H scope (compEnvC scope cl C X.env) fp) cv ifs ft)
    (he : ∀ (s : Shared) (H : Hp) (C : Addr) (cl : List (Str × Addr)) (fp : List Addr), RE (X.blk s H scope (compEnvC scope cl C X.env) fp) cv WF elt fe)
    (hgs : ∀ i ∈ gs, i ∈ own.map (·.2) := by decide) (hs : ∀ x, foldedSetIterable iter X.env x = pure x := by intro _; rfl) :
    RN X cv W (.ListComp elt [⟨tg, iter, ifs, 0⟩] scope pos) (xLc it g ft fe (own.map (·.2))) := by
  obtain ⟨ti, pi, qi⟩ := hi
  exact ⟨_, pe_lc hc hN pi ok (fun s H C cl fp => can_g (hg s H C cl fp)) (fun s H C cl fp => can_ts (ht s H C cl fp)) (fun s H C cl fp => can_e (he s H C cl fp)) hs, fun {F0 B ρ σ F H Q} Z w => lc_w (iter := iter) qi hgs Z w⟩
end
end
end Gy

end

section
set_option Elab.async false
set_option linter.all false
set_option maxRecDepth 100000
set_option maxHeartbeats 4000000
/-! GyV: statements, defs. -/
namespace Gy
open PySem PySem.Spec PyProof.Rows L2

def wO (K : Frag) (cv : Nat → Addr) (W : WX) (F0 B : Hp) (E : Ends) : O → Prop
  | .nx ρ => ∀ σ F H, Rel K cv F0 B ρ σ F H → E.nx σ H
  | .rt s => ∀ v F H, Ext F0 B F H → hS K cv B s v F H → E.rt v H
  | .bk ρ => ∀ σ F H, Rel K cv F0 B ρ σ F H → E.bk σ H
  | .ct ρ => ∀ σ F H, Rel K cv F0 B ρ σ F H → E.ct σ H
  | .er e ρ => ∀ σ F H cls d, Rel K cv F0 B ρ σ F H → ExcOk K cv F e cls d → W cls d σ H
  | .bad => False
def RS (X : Cx) (cv : Nat → Addr) (W : WX) (st : Stmt) (f : XS) : Prop :=
  ∃ t, PS X st t ∧ ∀ {F0 B : Hp} {ρ : Rho} {σ : L2.St} {F H : Hp} {E : Ends}, Rel X.K cv F0 B ρ σ F H → wO X.K cv W F0 B E (f ρ) → t E σ H
def RSs (X : Cx) (cv : Nat → Addr) (W : WX) (st : List Stmt) (f : XS) : Prop :=
  ∃ t, PSs X st t ∧ ∀ {F0 B : Hp} {ρ : Rho} {σ : L2.St} {F H : Hp} {E : Ends}, Rel X.K cv F0 B ρ σ F H → wO X.K cv W F0 B E (f ρ) → t E σ H
section
variable {K : Frag} {cv : Nat → Addr} {W : WX} {F0 B F H : Hp} {ρ : Rho} {σ : L2.St} {E : Ends} {α β : Type}
/-- a value, then what follows -/
theorem wO_bind {r : R α} {hold : Hld α β} {g : α → O} {Q : β → Hp → Prop} (Z : Rel K cv F0 B ρ σ F H) (h : wO K cv W F0 B E (r.thn ρ g))
    (k : ∀ a b F' H', Ext F H F' H' → Rel K cv F0 B ρ σ F' H' → hold H a b F' H' → wO K cv W F0 B E (g a) → Q b H') : wR K cv W σ F H r hold Q := by
  cases r with
  | ok a => exact fun b F' H' e hh => k a b F' H' e (Z.ext e) hh h
  | err d => exact fun cls dd F' H' e hx => h σ F' H' cls dd (Z.ext e) hx
  | bad => exact h
theorem Rel.reb (Z : Rel K cv F0 B ρ σ F H) : Rel K cv F B ρ σ F H := ⟨⟨Same.refl F, Z.ex.fh, Z.ex.hh, fun a o e => .inl ⟨o, e⟩⟩, Z.len, Z.own, Z.al⟩
theorem Ext.two {F1 H1 : Hp} (a : Ext F0 B F H) (b : Ext F B F1 H1) : Ext F0 B F1 H1 := ⟨a.ff.trans b.ff, b.fh, b.hh, fun c o e => by
  rcases b.nw c o e with ⟨u, h⟩ | h
  · exact a.nw c u h
  · exact .inr h⟩
theorem Rel.unreb {ρ' : Rho} {σ' : L2.St} {F' H' : Hp} (a : Ext F0 B F H) (Z : Rel K cv F B ρ' σ' F' H') : Rel K cv F0 B ρ' σ' F' H' := ⟨a.two Z.ex, Z.len, Z.own, Z.al⟩
end

section
variable {X : Cx} {cv : Nat → Addr} {W : WX} {tg a b c e : Expr} {fa fb fc : XE} {pos p : Pos} {st : Stmt} {sts sts' : List Stmt} {f g : XS}
theorem rss_nil : RSs X cv W [] sNil := ⟨_, pss_nil, fun {F0 B ρ σ F H E} Z w => w σ F H Z⟩
theorem rss_cons (h : RS X cv W st f) (h' : RSs X cv W sts g) : RSs X cv W (st :: sts) (sSeq f g) := by
  obtain ⟨t, p, q⟩ := h
  obtain ⟨t', p', q'⟩ := h'
  refine ⟨_, pss_cons p p', fun {F0 B ρ σ F H E} Z w => ?_⟩
  refine q Z ?_
  have w : wO X.K cv W F0 B E ((f ρ).thn g) := w
  cases z : f ρ with
  | nx ρ' =>
    rw [z] at w
    exact fun σ F H Z' => q' Z' w
  | rt s => rw [z] at w; exact w
  | bk ρ' => rw [z] at w; exact w
  | ct ρ' => rw [z] at w; exact w
  | er d ρ' => rw [z] at w; exact w
  | bad => rw [z] at w; exact w
theorem rss_one (h : RS X cv W st f) : RSs X cv W [st] f := by
  obtain ⟨t, p, q⟩ := h
  exact ⟨_, pss_one p, q⟩
/-- ahead of a block a slot's own list becomes data -/
theorem rss_frz (i : Nat) (h : RSs X cv W sts g) : RSs X cv W sts (sSeq (sFrz i) g) := by
  obtain ⟨t, p, q⟩ := h
  refine ⟨_, p, fun {F0 B ρ σ F H E} Z w => ?_⟩
  have w : wO X.K cv W F0 B E ((sFrz i ρ).thn g) := w
  unfold sFrz at w
  split at w
  · rename_i xs hx
    obtain ⟨pp, vs, _, _, _, _, Z'⟩ := Z.frz hx
    exact q Z' w
  · rename_i xss hx
    obtain ⟨F', _, Z'⟩ := Z.frz2 hx
    exact q Z' w
  · exact q Z w
  · exact w.elim
theorem wO_go {K : Frag} {F0 B : Hp} {E : Ends} {r : R Rho} {k : Rho → O} (h : wO K cv W F0 B E (gGo r k)) : ∃ ρ', r = .ok ρ' ∧ wO K cv W F0 B E (k ρ') := by
  cases r with
  | ok ρ' => exact ⟨ρ', rfl, h⟩
  | err d => exact h.elim
  | bad => exact h.elim
theorem rs_asg {gt : XG} {gs : List Nat} (he : RE X cv W e fa) (hg : RG X cv tg gt gs) (hs : swapsWithSole [tg] e pos.line X.env = pure false := by rfl) (hw : swappedStores [tg] e X.env = pure none := by rfl)
    (h1 : List.map (fun x => x.snd) (assignEach [tg] X.env) = [assign tg X.env] := by rfl) : RS X cv W (.Assign [tg] e pos) (sAsg fa gt) := by
  obtain ⟨t, p, q⟩ := he
  obtain ⟨t', p', q'⟩ := hg
  refine ⟨_, ps_asg p p' hs hw h1, fun {F0 B ρ σ F H E} Z w => ?_⟩
  refine q Z (wO_bind Z w fun d v F1 H1 e1 Z1 h1 w1 => ?_)
  obtain ⟨ρ', z, w2⟩ := wO_go w1
  exact q' Z1 h1 z fun σ' Z2 _ => w2 σ' F1 H1 Z2
/-- x = a new list, the def's own from here -/
theorem rs_own (i : Nat) {x : Str} {pos' : Pos} {fl : XA} (he : RN X cv W e fl) (hp : ∀ {t : TE}, PE X e t → PS X (.Assign [.Name x pos'] e pos) (tAsg t (gName i))) : RS X cv W (.Assign [.Name x pos'] e pos) (sOwn i fl) := by
  obtain ⟨t, p, q⟩ := he
  refine ⟨_, hp p, fun {F0 B ρ σ F H E} Z w => ?_⟩
  refine q Z (wO_bind Z w fun ds v F1 H1 e1 Z1 h1 w1 => ?_)
  obtain ⟨l, vs, rfl, n1, n2, n3, n4⟩ := h1
  exact w1 _ F1 H1 (Z.setO e1 i n1 n2 n3 n4)
theorem rs_expr (he : RE X cv W e fa) (hs : swapsWith e none pos.line X.env = pure false := by rfl) : RS X cv W (.Expr e pos) (sDrop fa) := by
  obtain ⟨t, p, q⟩ := he
  refine ⟨_, ps_expr p hs, fun {F0 B ρ σ F H E} Z w => ?_⟩
  exact q Z (wO_bind Z w fun d v F1 H1 e1 Z1 h1 w1 => w1 σ F1 H1 Z1)
theorem rs_ret (he : RE X cv W e fa) : RS X cv W (.Return (some e) pos) (sRet fa) := by
  obtain ⟨t, p, q⟩ := he
  refine ⟨_, ps_ret p, fun {F0 B ρ σ F H E} Z w => ?_⟩
  exact q Z (wO_bind Z w fun d v F1 H1 e1 Z1 h1 w1 => w1 v F1 H1 Z1.ex h1)
theorem rs_retN {fl : XA} (he : RN X cv W e fl) : RS X cv W (.Return (some e) pos) (sRetN fl) := by
  obtain ⟨t, p, q⟩ := he
  refine ⟨_, ps_ret p, fun {F0 B ρ σ F H E} Z w => ?_⟩
  exact q Z (wO_bind Z w fun d v F1 H1 e1 Z1 h1 w1 => w1 v F1 H1 Z1.ex (an_N (K := X.K) (cv := cv) _ _ _ _ _ _ Z.ex.hh h1))
theorem rs_retO (i : Nat) {x : Str} (h : PE X (.Name x p) (tVar i)) : RS X cv W (.Return (some (.Name x p)) pos) (sRetO i) := by
  refine ⟨_, ps_ret h, fun {F0 B ρ σ F H E} Z w => ?_⟩
  unfold sRetO at w
  split at w
  · rename_i xs hx
    obtain ⟨o, h1, l, vs, rfl, n1, n2, n3, n4⟩ := Z.slot hx
    exact ⟨_, h1, w _ F H Z.ex ⟨l, vs, rfl, n1, n2, n3, n4⟩⟩
  · exact w.elim
theorem rs_if {ga : XT} (hc : RT X cv W c ga) (ha : RSs X cv W sts f) (hb : RSs X cv W sts' g) : RS X cv W (.If c sts sts' pos) (sIf ga f g) := by
  obtain ⟨t, p, q⟩ := hc
  obtain ⟨ta, pa, qa⟩ := ha
  obtain ⟨tb, pb, qb⟩ := hb
  refine ⟨_, ps_if p pa pb, fun {F0 B ρ σ F H E} Z w => ?_⟩
  refine q Z (wO_bind Z w fun k k' F1 H1 e1 Z1 h1 w1 => ?_)
  cases h1
  cases k with
  | true => exact qa Z1 w1
  | false => exact qb Z1 w1
theorem rs_bk : RS X cv W (.Break pos) sBk := ⟨_, ps_break, fun {F0 B ρ σ F H E} Z w => w σ F H Z⟩
theorem rs_ct : RS X cv W (.Continue pos) sCt := ⟨_, ps_continue, fun {F0 B ρ σ F H E} Z w => w σ F H Z⟩
theorem rs_pass : RS X cv W (.Pass pos) sNil := ⟨_, ps_pass, fun {F0 B ρ σ F H E} Z w => w σ F H Z⟩
theorem rs_doc {x : Str} {j} {pos' : Pos} : RS X cv W (.Expr (.Constant (.str x) j pos) pos') sNil := ⟨_, ps_doc, fun {F0 B ρ σ F H E} Z w => w σ F H Z⟩
/-- a way that is not taken -/
def sNever : XS := fun _ => .bad
theorem rs_never : RS X cv W st sNever := ⟨_, ps_never, fun {F0 B ρ σ F H E} Z w => w.elim⟩
theorem rss_never : RSs X cv W sts sNever := ⟨_, pss_never, fun {F0 B ρ σ F H E} Z w => w.elim⟩

/-! ### one's own list changed -/
theorem own_at {K : Frag} {F0 B F H : Hp} {E : Ends} {ρ : Rho} {σ : L2.St} {i : Nat} {k : List D → O} (Z : Rel K cv F0 B ρ σ F H) (w : wO K cv W F0 B E (withOwn ρ i k)) :
    ∃ xs l vs, ρ[i]? = some (.own xs) ∧ σ[i]? = some (some (.ref l)) ∧ H l = some (.lst vs) ∧ Dts K cv F vs xs ∧ wO K cv W F0 B E (k xs) := by
  unfold withOwn at w
  split at w
  · rename_i xs hx
    obtain ⟨o, h1, l, vs, rfl, n1, n2, n3, n4⟩ := Z.slot hx
    exact ⟨xs, l, vs, hx, h1, n3, n4, w⟩
  · exact w.elim
/-- the list's change behind its method's arguments -/
theorem Rel.chgU {K : Frag} {F0 B F H : Hp} {ρ : Rho} {σ : L2.St} {i : Nat} {xs ds : List D} {l : Addr} {vs : List V} (Z : Rel K cv F0 B ρ σ F H) (h : ρ[i]? = some (.own xs)) (hp : σ[i]? = some (some (.ref l))) (d : Dts K cv F vs ds) :
    Rel K cv F0 B (ρ.set i (.own ds)) σ F (upd H l (.lst vs)) := Z.chg h hp d
theorem rs_app (i : Nat) {x : Str} {p1 p2 : Pos} (h : PE X (.Name x p1) (tVar i)) (he : RE X cv W e fa)
    (hq : ∀ {to : TE} {t : TA}, PE X (.Name x p1) to → PA X [e] t → PE X (.Call (.Attribute (.Name x p1) "append" p2) [e] [] pos) (tBM X.K "list" rAppend to t) := by exact fun a b => pe_bm PySem.F.plainAttrs_list PySem.F.slot_list_append PySem.F.type_list_append mt_append a b)
    (hs : swapsWith (.Call (.Attribute (.Name x p1) "append" p2) [e] [] pos) none p.line X.env = pure false := by rfl) (hst : starEach (e :: []) X.env = (false, eval e X.env) :: starEach [] X.env := by rfl) :
    RS X cv W (.Expr (.Call (.Attribute (.Name x p1) "append" p2) [e] [] pos) p) (sApp i fa) := by
  obtain ⟨t, pe, q⟩ := he
  refine ⟨_, ps_expr (hq h (pa_cons pe pa_nil hst)) hs, fun {F0 B ρ σ F H E} Z w => ?_⟩
  obtain ⟨xs, l, vs, h1, h2, h3, h4, w⟩ := own_at Z w
  refine ⟨_, h2, .inl ⟨rfl, vs, .inl (.inl h3)⟩, ?_⟩
  refine q Z (wO_bind Z w fun d v F1 H1 e1 Z1 hd w1 => ?_)
  split at w1
  · rename_i hl
    refine ⟨l, vs, v, rfl, rfl, e1.hh _ _ h3, ?_, ?_⟩
    · rw [h4.length]
      exact ln_lt hl
    · exact w1 σ F1 _ (Z1.chg h1 h2 ((h4.mono e1.ff).append (.cons hd .nil)))
  · exact w1.elim
theorem rs_ext (i : Nat) {x : Str} {p1 p2 : Pos} (h : PE X (.Name x p1) (tVar i)) (he : RE X cv W e fa)
    (hq : ∀ {to : TE} {t : TA}, PE X (.Name x p1) to → PA X [e] t → PE X (.Call (.Attribute (.Name x p1) "extend" p2) [e] [] pos) (tBM X.K "list" rExtend to t) := by exact fun a b => pe_bm PySem.F.plainAttrs_list PySem.F.slot_list_extend PySem.F.type_list_extend mt_extend a b)
    (hs : swapsWith (.Call (.Attribute (.Name x p1) "extend" p2) [e] [] pos) none p.line X.env = pure false := by rfl) (hst : starEach (e :: []) X.env = (false, eval e X.env) :: starEach [] X.env := by rfl) :
    RS X cv W (.Expr (.Call (.Attribute (.Name x p1) "extend" p2) [e] [] pos) p) (sExt i fa) := by
  obtain ⟨t, pe, q⟩ := he
  refine ⟨_, ps_expr (hq h (pa_cons pe pa_nil hst)) hs, fun {F0 B ρ σ F H E} Z w => ?_⟩
  obtain ⟨xs, l, vs, h1, h2, h3, h4, w⟩ := own_at Z w
  refine ⟨_, h2, .inl ⟨rfl, vs, .inl (.inl h3)⟩, ?_⟩
  refine q Z (wO_bind Z w fun d v F1 H1 e1 Z1 hd w1 => ?_)
  cases d <;> try exact False.elim w1
  rename_i ys
  have w1 : wO X.K cv W F0 B E (if Ln (xs.length + ys.length) then .nx (ρ.set i (.own (xs ++ ys))) else .bad) := w1
  split at w1
  · rename_i hl
    cases hd with
    | lst g1 g2 =>
      refine ⟨l, _, vs, _, rfl, rfl, e1.hh _ _ h3, Z1.fh _ _ g1, ?_, ?_⟩
      · rw [h4.length, g2.length]
        exact ln_le hl
      · exact w1 σ F1 _ (Z1.chg h1 h2 ((h4.mono e1.ff).append g2))
  · exact w1.elim
def rIns : V → List V → Hp → VK → Prop := fun x vs H Q => ∃ (l : Addr) (xs : List V) (i : Int) (y : V), x = .ref l ∧ vs = [.int i, y] ∧ H l = some (.lst xs) ∧ xs.length < sizeLine ∧ 0 ≤ i ∧ i < 2 ^ 63 ∧
  Q .non (upd H l (.lst (xs.take i.toNat ++ [y] ++ xs.drop i.toNat)))
theorem mt_ins : MtR X "list.insert" rIns := mt_insert
theorem rs_ins (i : Nat) {x : Str} {p1 p2 : Pos} (h : PE X (.Name x p1) (tVar i)) (ha : RE X cv W a fa) (he : RE X cv W e fb)
    (hq : ∀ {to : TE} {t : TA}, PE X (.Name x p1) to → PA X [a, e] t → PE X (.Call (.Attribute (.Name x p1) "insert" p2) [a, e] [] pos) (tBM X.K "list" rIns to t) := by exact fun a b => pe_bm PySem.F.plainAttrs_list PySem.F.slot_list_insert PySem.F.type_list_insert mt_ins a b)
    (hs : swapsWith (.Call (.Attribute (.Name x p1) "insert" p2) [a, e] [] pos) none p.line X.env = pure false := by rfl) (hst : starEach (a :: [e]) X.env = (false, eval a X.env) :: starEach [e] X.env := by rfl) (hst2 : starEach (e :: []) X.env = (false, eval e X.env) :: starEach [] X.env := by rfl) :
    RS X cv W (.Expr (.Call (.Attribute (.Name x p1) "insert" p2) [a, e] [] pos) p) (sIns i fa fb) := by
  obtain ⟨ta, pa, qa⟩ := ha
  obtain ⟨tb, pb, qb⟩ := he
  refine ⟨_, ps_expr (hq h (pa_cons pa (pa_cons pb pa_nil hst2) hst)) hs, fun {F0 B ρ σ F H E} Z w => ?_⟩
  obtain ⟨xs, l, vs, h1, h2, h3, h4, w⟩ := own_at Z w
  refine ⟨_, h2, .inl ⟨rfl, vs, .inl (.inl h3)⟩, ?_⟩
  refine qa Z (wO_bind Z w fun z zv F1 H1 e1 Z1 hz w1 => ?_)
  refine qb Z1 (wO_bind Z1 w1 fun d v F2 H2 e2 Z2 hd w2 => ?_)
  cases z <;> try exact False.elim w2
  rename_i n
  cases hz
  have w2 : wO X.K cv W F0 B E (if Ln xs.length ∧ 0 ≤ n ∧ RgN n then .nx (ρ.set i (.own (xs.take n.toNat ++ d :: xs.drop n.toNat))) else .bad) := w2
  split at w2
  · rename_i hl
    refine ⟨l, vs, n, v, rfl, rfl, e2.hh _ _ (e1.hh _ _ h3), ?_, hl.2.1, by have := hl.2.2.hi; omega, ?_⟩
    · rw [h4.length]
      exact ln_lt hl.1
    · have h5 := (h4.mono e1.ff).mono e2.ff
      have h6 := ((h5.take n.toNat).append (.cons hd .nil)).append (h5.drop n.toNat)
      rw [List.append_assoc (xs.take n.toNat)] at h6
      exact w2 σ F2 _ (Z2.chg h1 h2 h6)
  · exact w2.elim
/-- i[j] = e -/
theorem rs_put (i : Nat) {x : Str} {p1 : Pos} (h : PE X (.Name x p1) (tVar i)) (hj : RL X cv W a fa) (he : RE X cv W e fb)
    (hs : swapsWithSole [.Subscript (.Name x p1) a p] e pos.line X.env = pure false := by rfl) (hw : swappedStores [.Subscript (.Name x p1) a p] e X.env = pure none := by rfl)
    (h1 : List.map (fun x => x.snd) (assignEach [.Subscript (.Name x p1) a p] X.env) = [assign (.Subscript (.Name x p1) a p) X.env] := by rfl)
    (hp : ∀ {to ti : TE}, PE X (.Name x p1) to → PE X a ti → PG X (.Subscript (.Name x p1) a p) (gSub to ti rSetL) := by exact fun a b => pg_sub a b set_list) :
    RS X cv W (.Assign [.Subscript (.Name x p1) a p] e pos) (sPut i fa fb) := by
  obtain ⟨t, pe, q⟩ := he
  obtain ⟨tj, pj, qj⟩ := hj
  refine ⟨_, ps_asg pe (hp h pj) hs hw h1, fun {F0 B ρ σ F H E} Z w => ?_⟩
  refine q Z (wO_bind Z w fun d v F1 H1 e1 Z1 hd w1 => ?_)
  obtain ⟨xs, l, vs, k1, k2, k3, k4, w2⟩ := own_at Z1 w1
  refine ⟨_, k2, ?_⟩
  refine qj Z1 (wO_bind Z1 w2 fun z y F2 H2 e2 Z2 hz w3 => ?_)
  cases z <;> try exact False.elim w3
  rename_i n
  have hz := hz.int
  subst hz
  dsimp only at w3
  split at w3
  · rename_i j hj
    refine ⟨l, vs, n, j, rfl, rfl, e2.hh _ _ k3, ?_, ?_⟩
    · rw [k4.length]
      exact hj
    · exact w3 σ F2 _ (Z2.chg k1 k2 ((k4.mono e2.ff).set j (hd.mono e2.ff)))
  · exact w3.elim

/-! ### loops -/
theorem wO.reb {K : Frag} {F0 B F H : Hp} {E : Ends} (x : Ext F0 B F H) : ∀ {o : O}, wO K cv W F0 B E o → wO K cv W F B E o
  | .nx _, h => fun σ F1 H1 Z => h σ F1 H1 (Z.unreb x)
  | .rt _, h => fun v F1 H1 e hh => h v F1 H1 (x.two e) hh
  | .bk _, h => fun σ F1 H1 Z => h σ F1 H1 (Z.unreb x)
  | .ct _, h => fun σ F1 H1 Z => h σ F1 H1 (Z.unreb x)
  | .er _ _, h => fun σ F1 H1 cls d Z => h σ F1 H1 cls d (Z.unreb x)
  | .bad, h => h
theorem rs_for {iter : Expr} {it : XA} {gt : XG} {gs : List Nat} (hpo : PassesOwn (model X.prog X.w) X.A X.env X.xe) (hc : X.calm = true) (hi : RI X cv W tg iter it) (hg : RG X cv tg gt gs) (hb : RSs X cv W sts f)
    (hs : ∀ x, foldedSetIterable iter X.env x = pure x := by intro _; rfl) : RS X cv W (.For tg iter sts [] pos) (sFor it gt f) := by
  obtain ⟨ti, pi, qi⟩ := hi
  obtain ⟨tg', pg, qg⟩ := hg
  obtain ⟨tb, pb, qb⟩ := hb
  refine ⟨_, ps_for hpo hc pi pg pb hs, fun {F0 B ρ σ F H E} Z w => ?_⟩
  refine qi Z (wO_bind Z w fun ds J F1 H1 e1 Z1 hJ w1 => ?_)
  have hJ : ItOk X.K cv F1 J ds := hJ
  refine ⟨fun i m σ' H' => m = ds.length - i ∧ i ≤ ds.length ∧ ∃ ρ' F', Rel X.K cv F0 B ρ' σ' F' H' ∧ Same F1 F' ∧ wO X.K cv W F0 B E (forRun gt f (ds.drop i) ρ'),
    ⟨ds.length, rfl, Nat.zero_le _, ρ, F1, Z1, Same.refl _, w1⟩, ?_⟩
  rintro i m σ' H' ⟨rfl, hi, ρ', F', Z2, sf, w2⟩
  obtain ⟨hgo, hst⟩ := hJ i F' H' sf Z2.fh
  by_cases hlt : i < ds.length
  · have hd : ds[i]? = some ds[i] := List.getElem?_eq_getElem hlt
    obtain ⟨go, yl⟩ := hgo _ hd
    generalize ds[i] = d at hd yl
    have hdrop : ds.drop i = d :: ds.drop (i + 1) := by
      rw [List.drop_eq_getElem?_toList_append, hd]
      rfl
    rw [hdrop] at w2
    have w2 : wO X.K cv W F0 B E (gGo (gt d ρ') fun ρ' => match f ρ' with
      | .nx ρ2 => forRun gt f (ds.drop (i + 1)) ρ2
      | .ct ρ2 => forRun gt f (ds.drop (i + 1)) ρ2
      | .bk ρ2 => .nx ρ2
      | o => o) := w2
    obtain ⟨ρ1, zg, w3⟩ := wO_go w2
    refine .inr ⟨go, fun σ2 H2 => ∃ ρ2 F2, Rel X.K cv F0 B ρ2 σ2 F2 H2 ∧ Same F1 F2 ∧ wO X.K cv W F0 B E (forRun gt f (ds.drop (i + 1)) ρ2), ?_, ?_⟩
    · rintro σ2 H2 ⟨ρ2, F2, Z3, s3, w4⟩
      exact ⟨_, by omega, rfl, hlt, ρ2, F2, Z3, s3, w4⟩
    · intro x H2 hy
      obtain ⟨F2, e3, hx⟩ := yl x H2 hy
      refine qg (Z2.ext e3) hx zg fun σ2 Z3 _ => ?_
      have x3 := Z3.ex
      refine qb Z3.reb ?_
      have s2 : Same F1 F2 := sf.trans e3.ff
      cases zo : f ρ1 with
      | nx ρ2 =>
        rw [zo] at w3
        exact fun σ3 F3 H3 Z4 => ⟨ρ2, F3, Z4.unreb x3, s2.trans Z4.ex.ff, w3⟩
      | ct ρ2 =>
        rw [zo] at w3
        exact fun σ3 F3 H3 Z4 => ⟨ρ2, F3, Z4.unreb x3, s2.trans Z4.ex.ff, w3⟩
      | bk ρ2 =>
        rw [zo] at w3
        exact fun σ3 F3 H3 Z4 => w3 σ3 F3 H3 (Z4.unreb x3)
      | rt s =>
        rw [zo] at w3
        exact fun v F3 H3 e4 hh => w3 v F3 H3 (x3.two e4) hh
      | er dd ρ2 =>
        rw [zo] at w3
        exact fun σ3 F3 H3 cls d' Z4 hx => w3 σ3 F3 H3 cls d' (Z4.unreb x3) hx
      | bad =>
        rw [zo] at w3
        exact w3.elim
  · have hi2 : i = ds.length := by omega
    subst hi2
    rw [List.drop_length] at w2
    exact .inl ⟨hst (Nat.le_refl _), w2 σ' F' H' Z2⟩
theorem rs_while {ga : XT} (hpo : PassesOwn (model X.prog X.w) X.A X.env X.xe) (hc : RT X cv W c ga) (hb : RSs X cv W sts f) : RS X cv W (.While c sts [] pos) (sWh ga f) := by
  obtain ⟨tc, pc, qc⟩ := hc
  obtain ⟨tb, pb, qb⟩ := hb
  refine ⟨_, ps_while hpo pc pb, fun {F0 B ρ σ F H E} Z w => ?_⟩
  unfold sWh at w
  split at w
  · rename_i hn
    refine ⟨fun m σ' H' => ∃ ρ' F', Rel X.K cv F0 B ρ' σ' F' H' ∧ wO X.K cv W F0 B E (whRun ga f m ρ'), ⟨_, ρ, F, Z, w⟩, ?_⟩
    rintro m σ' H' ⟨ρ', F', Z', w'⟩
    cases m with
    | zero => exact w'.elim
    | succ m =>
      refine qc Z' (wO_bind Z' w' fun k k' F1 H1 e1 Z1 h1 w1 => ?_)
      cases h1
      cases k with
      | false => exact w1 σ' F1 H1 Z1
      | true =>
        rw [if_pos rfl] at w1 ⊢
        refine ⟨fun σ2 H2 => ∃ ρ2 F2, Rel X.K cv F0 B ρ2 σ2 F2 H2 ∧ wO X.K cv W F0 B E (whRun ga f m ρ2), fun σ2 H2 h => ⟨m, Nat.lt_succ_self m, h⟩, ?_⟩
        refine qb Z1 ?_
        cases zo : f ρ' with
        | nx ρ2 =>
          rw [zo] at w1
          exact fun σ3 F3 H3 Z4 => ⟨ρ2, F3, Z4, w1⟩
        | ct ρ2 =>
          rw [zo] at w1
          exact fun σ3 F3 H3 Z4 => ⟨ρ2, F3, Z4, w1⟩
        | bk ρ2 =>
          rw [zo] at w1
          exact w1
        | rt s =>
          rw [zo] at w1
          exact w1
        | er dd ρ2 =>
          rw [zo] at w1
          exact w1
        | bad =>
          rw [zo] at w1
          exact w1.elim
  · exact w.elim
end
end Gy

end

section
set_option Elab.async false
set_option linter.all false
set_option maxRecDepth 100000
set_option maxHeartbeats 4000000
/-! GyX: pairs assigned, raise, defs, the law. -/
namespace Gy
open PySem PySem.Spec PyProof.Rows L2
section
variable {X : Cx} {cv : Nat → Addr} {W : WX} {tg a b c e : Expr} {fa fb fc : XE} {pos p : Pos} {st : Stmt} {sts sts' : List Stmt} {f g : XS} {fr : XA}
theorem rs_par {i j : Nat} {x y : Str} {px py pt : Pos} {kt k2 pt2} (hc : X.calm = true) (hN : X.N.Nodup) (h : RA X cv W [a, b] fr) (hi : X.N[i]? = some x := by rfl) (hj : X.N[j]? = some y := by rfl) (hij : i ≠ j := by decide)
    (hx : X.env.scope.names.lookup x = some .local := by rfl) (hy : X.env.scope.names.lookup y = some .local := by rfl)
    (hw : swappedStores [.Tuple [.Name x px, .Name y py] kt pt] (.Tuple [a, b] k2 pt2) X.env = pure (some [x, y]) := by rfl)
    (hs : swapsWithSole [.Tuple [.Name x px, .Name y py] kt pt] (.Tuple [a, b] k2 pt2) pos.line X.env = pure false := by rfl) :
    RS X cv W (.Assign [.Tuple [.Name x px, .Name y py] kt pt] (.Tuple [a, b] k2 pt2) pos) (sPar i j fr) := by
  obtain ⟨t, p, q⟩ := h
  refine ⟨_, ps_par hc hN hi hj hij hx hy p hw hs, fun {F0 B ρ σ F H E} Z w => ?_⟩
  refine q Z (wO_bind Z w fun ds vs F1 H1 e1 Z1 h1 w1 => ?_)
  have h1 : Dts X.K cv F1 vs ds := h1
  cases h1 with
  | nil => exact w1.elim
  | cons g1 h2 =>
    cases h2 with
    | nil => exact w1.elim
    | cons g2 h3 =>
      cases h3 with
      | cons _ _ => exact w1.elim
      | nil => exact ⟨_, _, rfl, w1 _ F1 H1 ((Z1.setD i g1).setD j g2)⟩
theorem rs_par3 {i j l : Nat} {x y z : Str} {px py pz pt : Pos} {kt k2 pt2} (hc : X.calm = true) (hN : X.N.Nodup) (h : RA X cv W [a, b, c] fr) (hi : X.N[i]? = some x := by rfl) (hj : X.N[j]? = some y := by rfl) (hl : X.N[l]? = some z := by rfl) (hij : i ≠ j := by decide) (hil : i ≠ l := by decide) (hjl : j ≠ l := by decide)
    (hx : X.env.scope.names.lookup x = some .local := by rfl) (hy : X.env.scope.names.lookup y = some .local := by rfl) (hz : X.env.scope.names.lookup z = some .local := by rfl)
    (hw : swappedStores [.Tuple [.Name x px, .Name y py, .Name z pz] kt pt] (.Tuple [a, b, c] k2 pt2) X.env = pure (some [x, y, z]) := by rfl)
    (hs : swapsWithSole [.Tuple [.Name x px, .Name y py, .Name z pz] kt pt] (.Tuple [a, b, c] k2 pt2) pos.line X.env = pure false := by rfl) :
    RS X cv W (.Assign [.Tuple [.Name x px, .Name y py, .Name z pz] kt pt] (.Tuple [a, b, c] k2 pt2) pos) (sPar3 i j l fr) := by
  obtain ⟨t, p, q⟩ := h
  refine ⟨_, ps_par3 hc hN hi hj hl hij hil hjl hx hy hz p hw hs, fun {F0 B ρ σ F H E} Z w => ?_⟩
  refine q Z (wO_bind Z w fun ds vs F1 H1 e1 Z1 h1 w1 => ?_)
  have h1 : Dts X.K cv F1 vs ds := h1
  cases h1 with
  | nil => exact w1.elim
  | cons g1 h2 =>
    cases h2 with
    | nil => exact w1.elim
    | cons g2 h3 =>
      cases h3 with
      | nil => exact w1.elim
      | cons g3 h4 =>
        cases h4 with
        | cons _ _ => exact w1.elim
        | nil => exact ⟨_, _, _, rfl, w1 _ F1 H1 (((Z1.setD i g1).setD j g2).setD l g3)⟩
/-! y = [..] on one line -/
section
variable {elt iter : Expr} {ifs : List Expr} {scope : Scope} {own : List (Str × Nat)} {it : XA} {gt : XG} {gs : List Nat} {ft : XT} {fe : XE} {y : Str} {py spos : Pos}
theorem rs_lcD (i : Nat) (hc : X.calm = true) (hN : X.N.Nodup) (hi : RI X cv W tg iter it) (ok : BlkOk X.N X.env.scope scope own)
    (hg : ∀ (s : Shared) (H : Hp) (C : Addr) (cl : List (Str × Addr)) (fp : List Addr), RG (X.blk s H scope (compEnvC scope cl C X.env) fp) cv tg gt gs)
    (ht : ∀ (s : Shared) (H : Hp) (C : Addr) (cl : List (Str × Addr)) (fp : List Addr), RTs (X.blk s H scope (compEnvC scope cl C X.env) fp) cv ifs ft)
    (he : ∀ (s : Shared) (H : Hp) (C : Addr) (cl : List (Str × Addr)) (fp : List Addr), RE (X.blk s H scope (compEnvC scope cl C X.env) fp) cv WF elt fe)
    (hsw : swapsWith (.ListComp elt [⟨tg, iter, ifs, 0⟩] scope pos) (some (.Name y py)) spos.line X.env = pure true)
    (hgs : ∀ i ∈ gs, i ∈ own.map (·.2) := by decide) (hs : ∀ x, foldedSetIterable iter X.env x = pure x := by intro _; rfl) (hy : X.N[i]? = some y := by rfl) (hyl : X.env.scope.names.lookup y = some .local := by rfl) :
    RS X cv W (.Assign [.Name y py] (.ListComp elt [⟨tg, iter, ifs, 0⟩] scope pos) spos) (sAsg (xNew (xLc it gt ft fe (own.map (·.2)))) (gNm i)) := by
  obtain ⟨ti, pi, qi⟩ := hi
  refine ⟨_, ps_setLc (te := canE X.K cv WF (hD X.K cv) fe) (tt := canTs X.K cv ft) (g := canG X.K cv gt gs) hc hN hy hyl hsw pi ok (fun s H C cl fp => can_g (hg s H C cl fp)) (fun s H C cl fp => can_ts (ht s H C cl fp)) (fun s H C cl fp => can_e (he s H C cl fp)) hs, fun {F0 B ρ σ F H E} Z w => ?_⟩
  have w' : wO X.K cv W F0 B E ((xLc it gt ft fe (own.map (·.2)) ρ).thn ρ fun xs => .nx (ρ.set i (.dat (.lst xs)))) := by
    have w : wO X.K cv W F0 B E (((xLc it gt ft fe (own.map (·.2)) ρ).map D.lst).thn ρ fun d => gGo (gNm i d ρ) .nx) := w
    cases z : xLc it gt ft fe (own.map (·.2)) ρ with
    | ok ds => rw [z] at w; exact w
    | err d => rw [z] at w; exact w
    | bad => rw [z] at w; exact w
  refine lc_w (iter := iter) qi hgs Z (wO_bind Z w' fun ds v F1 H1 e1 Z1 h1 w1 => ?_)
  obtain ⟨l, vs, rfl, n1, n2, n3, n4⟩ := h1
  have Z2 := Z.setO e1 i n1 n2 n3 n4
  have hi : i < ρ.length ∨ ρ.length ≤ i := Nat.lt_or_ge _ _
  rcases hi with hi | hi
  · obtain ⟨p', vs', k1, k2, k3, k4, Z3⟩ := Z2.frz (i := i) (xs := ds) (by rw [List.getElem?_set_self hi])
    rw [List.set_set] at Z3
    exact w1 _ _ H1 Z3
  · have e0 : ρ.set i (.dat (.lst ds)) = ρ := List.set_eq_of_length_le hi
    have e2 : σ.set i (some (V.ref l)) = σ := List.set_eq_of_length_le (by rw [← Z.len]; exact hi)
    rw [e0] at w1
    show E.nx (σ.set i _) H1
    rw [e2]
    exact w1 _ _ H1 Z1
theorem rs_lcO (i : Nat) (hc : X.calm = true) (hN : X.N.Nodup) (hi : RI X cv W tg iter it) (ok : BlkOk X.N X.env.scope scope own)
    (hg : ∀ (s : Shared) (H : Hp) (C : Addr) (cl : List (Str × Addr)) (fp : List Addr), RG (X.blk s H scope (compEnvC scope cl C X.env) fp) cv tg gt gs)
    (ht : ∀ (s : Shared) (H : Hp) (C : Addr) (cl : List (Str × Addr)) (fp : List Addr), RTs (X.blk s H scope (compEnvC scope cl C X.env) fp) cv ifs ft)
    (he : ∀ (s : Shared) (H : Hp) (C : Addr) (cl : List (Str × Addr)) (fp : List Addr), RE (X.blk s H scope (compEnvC scope cl C X.env) fp) cv WF elt fe)
    (hsw : swapsWith (.ListComp elt [⟨tg, iter, ifs, 0⟩] scope pos) (some (.Name y py)) spos.line X.env = pure true)
    (hgs : ∀ i ∈ gs, i ∈ own.map (·.2) := by decide) (hs : ∀ x, foldedSetIterable iter X.env x = pure x := by intro _; rfl) (hy : X.N[i]? = some y := by rfl) (hyl : X.env.scope.names.lookup y = some .local := by rfl) :
    RS X cv W (.Assign [.Name y py] (.ListComp elt [⟨tg, iter, ifs, 0⟩] scope pos) spos) (sOwn i (xLc it gt ft fe (own.map (·.2)))) := by
  obtain ⟨ti, pi, qi⟩ := hi
  refine ⟨_, ps_setLc (te := canE X.K cv WF (hD X.K cv) fe) (tt := canTs X.K cv ft) (g := canG X.K cv gt gs) hc hN hy hyl hsw pi ok (fun s H C cl fp => can_g (hg s H C cl fp)) (fun s H C cl fp => can_ts (ht s H C cl fp)) (fun s H C cl fp => can_e (he s H C cl fp)) hs, fun {F0 B ρ σ F H E} Z w => ?_⟩
  refine lc_w (iter := iter) qi hgs Z (wO_bind Z w fun ds v F1 H1 e1 Z1 h1 w1 => ?_)
  obtain ⟨l, vs, rfl, n1, n2, n3, n4⟩ := h1
  exact w1 _ F1 H1 (Z.setO e1 i n1 n2 n3 n4)
end

/-! ### raise -/
/-- an own error class over ValueError, without its own __init__ -/
structure ExcF (K : Frag) (mg : Str → Option Value) (cv : Nat → Addr) (k : Nat) (x : Str) : Prop where
  q : PySem.W.excIn K (cv k) [.type "ValueError", .type "Exception", .type "BaseException", .type "object"] "ValueError.__new__" = true
  g : mg x = some (.ref (cv k))
  kp : PySem.W.keepIn K (.ref (cv k)) = true
  b : PySem.W.subIn K (.ref (cv k)) (.type "BaseException") = some true
  t : PySem.W.typeIn K (.ref (cv k)) = some (.type "type")
theorem rs_raise {k : Nat} {x m : Str} {j : Nat} {p2 p3 : Pos} (T : ExcF X.K X.mg cv k x) (tk : Takes X W) (hc : X.calm = true) (hg : Gl X x := by rfl) (hdb : (x == ("__debug__" : Str)) = false := by decide) :
    RS X cv W (.Raise (some (.Call (.Name x p) [.Constant (.str m) j p2] [] p3)) none pos) (sRaise k) :=
  ⟨_, ps_raise hc tk (pmk_own PySem.F.excBase_ValueError T.q T.g T.kp (raises_own T.b T.t) hg hdb), fun {F0 B ρ σ F H E} Z w => w σ F H _ _ Z ⟨rfl, rfl⟩⟩
end

/-! ### isinstance -/
def tyS : Ty → String
  | .int => "int"
  | .bool => "bool"
  | .list => "list"
  | .tuple => "tuple"
section
variable {X : Cx} {cv : Nat → Addr} {W : WX} {a : Expr} {fa : XE} {pos p p2 : Pos} {x : Str}
theorem kit_non (t : Ty) : kitB "NoneType" (tyS t) = some false := by cases t <;> decide +kernel
theorem kit_bl (t : Ty) : kitB "bool" (tyS t) = some (t == .int || t == .bool) := by cases t <;> decide +kernel
theorem kit_int (t : Ty) : kitB "int" (tyS t) = some (t == .int) := by cases t <;> decide +kernel
theorem kit_str (t : Ty) : kitB "str" (tyS t) = some false := by cases t <;> decide +kernel
theorem kit_lst (t : Ty) : kitB "list" (tyS t) = some (t == .list) := by cases t <;> decide +kernel
theorem kit_tup (t : Ty) : kitB "tuple" (tyS t) = some (t == .tuple) := by cases t <;> decide +kernel
theorem re_isi (t : Ty) (hm : X.mg "isinstance" = none) (hv : bootBuiltins "isinstance" = some (.builtin "isinstance")) (hmT : X.mg x = none) (hvT : bootBuiltins x = some (.type (tyS t))) (ha : RL X cv W a fa) (hg : Gl X "isinstance" := by rfl) (hgT : Gl X x := by rfl) (hnT : x ≠ "__name__" := by decide) (hdT : (x == ("__debug__" : Str)) = false := by decide)
    (he : starEach (a :: [.Name x p2]) X.env = (false, eval a X.env) :: starEach [.Name x p2] X.env := by rfl) (he2 : starEach (.Name x p2 :: []) X.env = (false, eval (.Name x p2) X.env) :: starEach [] X.env := by rfl) (hpl : (backTo pos (starEach [.Name x p2] X.env)).any (·.1) = false := by rfl) :
    RE X cv W (.Call (.Name "isinstance" p) [a, .Name x p2] [] pos) (xUn (bIs t) fa) := by
  obtain ⟨ta, pa, q⟩ := ha
  have pt : PE X (.Name x p2) (tC (.ty (tyS t))) := pe_bltn hgT hmT hvT (show RelV (.ty (tyS t)) (.type (tyS t)) from rfl) hnT hdT
  refine ⟨_, pe_callB call_isi hg hm hv (pa_cons pa (pa_cons pt pa_nil he2) he) (by decide) (by decide) he hpl, fun {F0 B ρ σ F H Q} Z w => ?_⟩
  refine q Z (wR_bind an_D w fun d v F1 H1 e1 h1 w1 => ?_)
  show rIsi X.K [v, .ty (tyS t)] H1 Q
  unfold bIs at w1
  rcases h1 with h1 | ⟨l, vs, ds, rfl, rfl, k1, k2⟩
  · cases h1 <;> try exact False.elim w1
    · exact ⟨_, _, _, _, _, rfl, .ty _, .base .non, kit_ty (kit_non t), wR_ok e1.fh w1 (.bl _)⟩
    · exact ⟨_, _, _, _, _, rfl, .ty _, .base (.bl _), kit_ty (kit_bl t), wR_ok e1.fh w1 (.bl _)⟩
    · exact ⟨_, _, _, _, _, rfl, .ty _, .base (.int _), kit_ty (kit_int t), wR_ok e1.fh w1 (.bl _)⟩
    · exact ⟨_, _, _, _, _, rfl, .ty _, .base (.str _), kit_ty (kit_str t), wR_ok e1.fh w1 (.bl _)⟩
    · rename_i k1 k2
      exact ⟨_, _, _, _, _, rfl, .ty _, .base (.lst (e1.fh _ _ k1)), kit_ty (kit_lst t), wR_ok e1.fh w1 (.bl _)⟩
    · rename_i k1 k2
      refine ⟨_, _, _, _, _, rfl, .ty _, ?_, kit_ty (kit_tup t), wR_ok e1.fh w1 (.bl _)⟩
      rcases k1 with (h | ⟨o, h⟩) | ⟨o, its, n, h, hc, _⟩
      · exact .base (.tup (e1.fh _ _ h))
      · exact .fTuple (e1.fh _ _ h)
      · exact .kTuple h hc
  · exact ⟨_, _, _, _, _, rfl, .ty _, .base (.lst k1), kit_ty (kit_lst t), wR_ok e1.fh w1 (.bl _)⟩
end

/-! ### defs -/
theorem start_get {ds : List D} {n i : Nat} {t : Sl} (h : (ds.map Sl.dat ++ List.replicate n Sl.no)[i]? = some t) : (∃ d, ds[i]? = some d ∧ t = .dat d) ∨ t = .no := by
  by_cases hi : i < ds.length
  · rw [List.getElem?_append_left (by rw [List.length_map]; exact hi), List.getElem?_map, List.getElem?_eq_getElem hi] at h
    cases h
    exact .inl ⟨_, List.getElem?_eq_getElem hi, rfl⟩
  · rw [List.getElem?_append_right (by rw [List.length_map]; omega), List.getElem?_replicate] at h
    split at h
    · cases h
      exact .inr rfl
    · cases h
theorem rel_start {K : Frag} {cv : Nat → Addr} {F H : Hp} {vs : List V} {ds : List D} {N : List Str} (s : Same F H) (h : Dts K cv F vs ds) : Rel K cv F H (ds.map Sl.dat ++ List.replicate (N.length - ds.length) Sl.no) (L2.start N vs) F H := by
  refine ⟨Ext.refl s, ?_, ⟨fun _ => [], fun i t o h1 h2 => ?_, fun _ _ _ _ z => (by cases z), fun _ _ z => (by cases z)⟩, fun i j k xss h1 => ?_⟩
  · unfold L2.start
    rw [List.length_append, List.length_append, List.length_map, List.length_map, List.length_replicate, List.length_replicate, h.length]
  · rcases start_get h1 with ⟨d, hd, rfl⟩ | rfl
    · obtain ⟨v, k1, k2⟩ := h.get hd
      have hi : i < vs.length := (List.getElem?_eq_some_iff.mp k1).1
      unfold L2.start at h2
      rw [List.getElem?_append_left (by rw [List.length_map]; exact hi), List.getElem?_map, k1] at h2
      cases h2
      exact ⟨⟨v, rfl, k2⟩, trivial⟩
    · exact ⟨trivial, trivial⟩
  · rcases start_get h1 with ⟨d, _, z⟩ | z <;> cases z
theorem run_w {K : Frag} {cv : Nat → Addr} {F H : Hp} {ds : List D} {n : Nat} {fb : XS} {Q : VK} {E : XK} (w : wR K cv (fun cls d _ H' => E cls d H') [] F H (runF n fb ds) (hS K cv) Q) :
    wO K cv (fun cls d _ H' => E cls d H') F H { nx := fun _ H' => Q .non H', rt := Q } (fb (ds.map Sl.dat ++ List.replicate (n - ds.length) Sl.no)) := by
  unfold runF at w
  split at w
  · rename_i h
    rw [h]
    exact fun σ F' H' Z => w .non F' H' Z.ex .non
  · rename_i h
    rw [h]
    exact fun v F' H' e hh => w v F' H' e hh
  · rename_i h
    rw [h]
    exact fun σ F' H' cls d Z hx => w cls d F' H' Z.ex hx
  · exact w.elim
theorem fn_ok {P : Program} {w : World} {K : Frag} {mg : Str → Option Value} {base : Heap} {cv : Nat → Addr} {x qual : Str} {st : Stmt} {f : Addr} {fd : FuncData} {N ps : List Str} {k n : Nat} {fb : XS} (F : Fun K x qual st f fd) (S : FnScope N ps (defScope st)) (hn : ps.length = n)
    (body : ∀ (cdv : Value) (A : Around) (outer : List Env) (s : Shared) (H : Hp) (E : XK), Room k (A.deeper (envOfC qual (defScope st) s.heap.objs.size f cdv)) →
      RSs (cxOf (L2.CX P w) P w K mg base N qual (defScope st) f cdv A outer s H E) cv (fun cls d _ H' => E cls d H') (defBody st) fb) :
    FnOk P w K mg base (L2.CX P w) (k + 1) f fd ps (spD K cv n (runF N.length fb)) := by
  refine F.okX S (fun vs H Q E h => ?_) (fun cdv A outer s H vs Q E hr h => ?_)
  · obtain ⟨F, ds, _, hd, hl, _⟩ := h
    rw [hd.length, hl, hn]
  · obtain ⟨F, ds, sf, hd, hl, w⟩ := h
    obtain ⟨t, p, q⟩ := body cdv A outer s H E hr
    exact ⟨t, p, q (rel_start sf hd) (run_w w)⟩
theorem fn_mk {P : Program} {w : World} {K : Frag} {mg : Str → Option Value} {base : Heap} {cv : Nat → Addr} {x : Str} {st : Stmt} {f : Addr} {fd : FuncData} {N ps : List Str} {k n : Nat} {fb : XS} (F : Fun K x x st f fd) (S : FnScope N ps (defScope st)) (hn : ps.length = n) (hm : mg x = some (.ref f)) (hb : Binds K fd ps [])
    (body : ∀ (cdv : Value) (A : Around) (outer : List Env) (s : Shared) (H : Hp) (E : XK), Room k (A.deeper (envOfC x (defScope st) s.heap.objs.size f cdv)) →
      RSs (cxOf (L2.CX P w) P w K mg base N x (defScope st) f cdv A outer s H E) cv (fun cls d _ H' => E cls d H') (defBody st) fb) :
    Fn P w K mg base cv (k + 1) x n (runF N.length fb) := ⟨f, fd, ps, fn_ok F S hn body, hm, F.kp, hb⟩
/-- the same def, a plainer word of what it does -/
theorem Fn.as {P : Program} {w : World} {K : Frag} {mg : Str → Option Value} {base : Heap} {cv : Nat → Addr} {x : Str} {k n : Nat} {sem sem' : List D → R Sl} (G : Fn P w K mg base cv k x n sem) (h : ∀ ds, ds.length = n → sem' ds ≠ .bad → sem ds = sem' ds) : Fn P w K mg base cv k x n sem' := by
  obtain ⟨f, fd, ps, F, hm, hk, hb⟩ := G
  refine ⟨f, fd, ps, F.imp fun vs H Q E ⟨F', ds, s, hd, hl, w⟩ => ⟨F', ds, s, hd, hl, ?_⟩, hm, hk, hb⟩
  have e : sem ds = sem' ds := h ds hl fun z => by
    rw [z] at w
    exact w.elim
  rw [e]
  exact w
theorem Fn.up {P : Program} {w : World} {K : Frag} {mg : Str → Option Value} {base : Heap} {cv : Nat → Addr} {x : Str} {j k n : Nat} {sem : List D → R Sl} (G : Fn P w K mg base cv j x n sem) (h : j ≤ k) : Fn P w K mg base cv k x n sem := by
  obtain ⟨f, fd, ps, F, hm, hk, hb⟩ := G
  exact ⟨f, fd, ps, F.mono h, hm, hk, hb⟩

/-! ### the law -/
def spLaw (K : Frag) : Sp := fun vs H Q _ => ∃ (a : Addr) (ns : List Int), vs = [.ref a] ∧ SqL K H a (ns.map V.int) ∧ ns.length ≤ 63 ∧ ∀ H', Q (.bl true) H'
theorem law_ok {P : Program} {w : World} {K : Frag} {mg : Str → Option Value} {base : Heap} {cv : Nat → Addr} {x qual : Str} {st : Stmt} {f : Addr} {fd : FuncData} {N : List Str} {s : Str} {k : Nat} {fb : XS} (F : Fun K x qual st f fd) (S : FnScope N [s] (defScope st))
    (body : ∀ (cdv : Value) (A : Around) (outer : List Env) (s : Shared) (H : Hp) (E : XK), Room k (A.deeper (envOfC qual (defScope st) s.heap.objs.size f cdv)) →
      RSs (cxOf CX0 P w K mg base N qual (defScope st) f cdv A outer s H E).nox cv WF (defBody st) fb)
    (pure : ∀ ns : List Int, ns.length ≤ 63 → runF N.length fb [.scr ns] = .ok (.dat (.bl true))) : FnOk P w K mg base CX0 (k + 1) f fd [s] (spLaw K) := by
  refine F.ok S (fun vs H Q E h => ?_) (fun cdv A outer s H vs Q E hr h => ?_)
  · obtain ⟨a, ns, rfl, _⟩ := h
    rfl
  · obtain ⟨a, ns, rfl, hS, hl, q⟩ := h
    obtain ⟨t, p, qt⟩ := body cdv A outer s H E hr
    refine ⟨t, p, qt (rel_start (Same.refl H) (.cons (.scr hS) .nil)) ?_⟩
    have e := pure ns hl
    unfold runF at e
    split at e
    · cases e
    · rename_i h
      cases e
      rw [h]
      intro v F' H' e hh
      have hh : Dt K cv F' v (.bl true) := hh
      cases hh
      exact q H'
    · cases e
    · cases e
end Gy

end

section
set_option Elab.async false
set_option linter.all false
set_option maxRecDepth 100000
set_option maxHeartbeats 4000000
/-! GyY: a tuple backwards, tables of the module, ranges by steps. -/
namespace Gy
open PySem PySem.Spec PyProof.Rows L2
theorem tk0 {X : Cx} : Takes X WF := takes0

/-! ### t[::-1] of a tuple -/
section
variable {prog : Program} {w : World} {A : Around} {E : Value → Shared → Prop} {s : Shared}
theorem back_places (n : Nat) : Builtin.Slice.slicePlaces ((n : Int) - 1) (-1) (-1) = n := by
  unfold Builtin.Slice.slicePlaces
  rw [if_neg (by omega)]
  by_cases h : (n : Int) - 1 > -1
  · rw [if_pos h]
    have : (n : Int) - 1 - -1 - 1 = n - 1 := by omega
    rw [this, show -(-1 : Int) = 1 by omega, Int.ediv_one]
    omega
  · rw [if_neg h]
    omega
theorem pick_ext {α β : Type} {f g : α → Option β} : ∀ {l : List α}, (∀ x ∈ l, f x = g x) → l.filterMap f = l.filterMap g
  | [], _ => rfl
  | x :: l, h => by
    rw [List.filterMap_cons, List.filterMap_cons, h x List.mem_cons_self, pick_ext fun y hy => h y (List.mem_cons_of_mem _ hy)]
theorem back_pick (xs : Array Value) : ((List.range xs.size).filterMap fun (m : Nat) => xs[(((xs.size : Int) - 1) + (m : Int) * -1).toNat]?) = xs.toList.reverse := by
  have e : ∀ m ∈ List.range xs.size, xs[(((xs.size : Int) - 1) + (m : Int) * -1).toNat]? = xs.toList.reverse[m]? := fun m hm => by
    have hm := List.mem_range.mp hm
    rw [List.getElem?_reverse (by simpa using hm), ← Array.getElem?_toList]
    congr 1
    rw [Array.length_toList]
    omega
  have e2 : (List.range xs.size).filterMap (fun (m : Nat) => xs[(((xs.size : Int) - 1) + (m : Int) * -1).toNat]?) = (List.range xs.size).filterMap (fun (m : Nat) => xs.toList.reverse[m]?) := pick_ext e
  rw [e2]
  have e3 := PySem.W.krv_all xs.toList.reverse.toArray
  simpa using e3
theorem back_applied {sl : Addr} {vl vu vs : Value} {n : Nat} {Q : Int × Int × Nat → Shared → Prop} (hs : s.heap.IsSliceOf sl vl vu vs) (pl : IsPart vl none) (pu : IsPart vu none) (ps : IsPart vs (some (-1)))
    (h : Q ((n : Int) - 1, -1, n) s) : wpAny (model prog w) A (Builtin.Slice.sliceApplied (.ref sl) (pure (n : Int))) Q E s := by
  obtain ⟨os, hos, _, hds⟩ := id hs
  unfold Builtin.Slice.sliceApplied Builtin.Slice.sliceFields
  refine wpAny_bind (wpAny_bind (wpAny_field hos hds (x := vl) rfl (wpAny_bind (wpAny_field hos hds (x := vu) rfl (wpAny_bind (wpAny_field hos hds (x := vs) rfl (wpAny_pure ?_)))))))
  refine wpAny_bind (HT.slicePart_ ps ?_)
  show wpAny _ _ (if ((-1 : Int) == 0) = true then _ else _) _ _ s
  rw [if_neg (by decide)]
  refine wpAny_bind (HT.slicePart_ pl (wpAny_bind (HT.slicePart_ pu (wpAny_bind (wpAny_pure ?_)))))
  show wpAny _ _ (pure ((n : Int) - 1, (-1 : Int), Builtin.Slice.slicePlaces ((n : Int) - 1) (-1) (-1))) _ _ s
  rw [back_places]
  exact wpAny_pure h
theorem item_back {t sl : Addr} {items : Array Value} {vl vu vs : Value} {Q : Value → Shared → Prop} (ht : IsTup s.heap t items) (hs : s.heap.IsSliceOf sl vl vu vs) (pl : IsPart vl none) (pu : IsPart vu none) (ps : IsPart vs (some (-1)))
    (h : Q (.ref s.heap.objs.size) { s with heap := s.heap.push { cls := .type "tuple", data := .seq items.toList.reverse.toArray } }) (hz : items.size ≤ sizeLine) : wpAny (model prog w) A (getItem (.ref t) (.ref sl)) Q E s := by
  have ok : sizeOk (.seq items.toList.reverse.toArray) := by
    show items.toList.reverse.toArray.size ≤ sizeLine
    simpa using hz
  obtain ⟨os, hos, hcs, hds⟩ := id hs
  have isS : s.TypeIs (.ref sl) "slice" := ⟨os, hos, hcs⟩
  unfold getItem
  try with_reducible refine wpAny_holding ?_
  first | refine wpAny_bind (wpAny_pure ?_) | skip
  refine wpAny_bind (wpAny_sequenceKey ht.typeIs (by decide) ?_)
  refine wpAny_bind (wpAny_callSpecial?_slot (name := Str.ofString "__getitem__") ht.typeIs PyProof.Rows.slot_tuple_getitem
    (wpAny_call_entry PyProof.Rows.slot_tuple_getitem ht.typeIs entry_tuple_getitem ?_ (args_tuple_getitem _ _)))
  show wpAny _ _ (Builtin.Tuple.tupleItemsOf (.ref t) >>= _) _ _ s
  refine wpAny_bind (tupleItemsOf_ ht ?_)
  refine wpAny_bind (wpAny_typeOf isS ?_)
  rw [if_pos (by decide)]
  refine wpAny_bind (back_applied hs pl pu ps ?_)
  have no : ¬ (((items.size : Int) - 1 == 0 && (-1 : Int) == 1 && items.size == items.size) = true) := by
    intro q
    rw [Bool.and_eq_true, Bool.and_eq_true] at q
    exact absurd q.1.2 (by decide)
  show wpAny _ _ (if ((items.size : Int) - 1 == 0 && (-1 : Int) == 1 && items.size == items.size) = true then _ else _) _ _ s
  rw [if_neg no, back_pick]
  first
    | exact wpAny_bind (m := Builtin.Tuple.tupleExact _) (wpAny_newObj_type (wpAny_pure ⟨_, rfl, wpAny_pure h⟩) ok)
    | exact wpAny_bind (m := Builtin.Tuple.tupleExact _) (wpAny_newObj_type (wpAny_bind (wpAny_pure (wpAny_pure ⟨_, rfl, wpAny_pure h⟩))) ok)
    | exact wpAny_bind (wpAny_bind (m := Builtin.Tuple.tupleExact _) (wpAny_newObj_type (wpAny_pure (wpAny_pure ⟨_, rfl, wpAny_pure h⟩)) ok))
    | exact wpAny_bind (wpAny_bind (m := Builtin.Tuple.tupleExact _) (wpAny_newObj_type (wpAny_pure ⟨_, rfl, wpAny_pure h⟩) ok))
end
section
variable {X : Cx} {cv : Nat → Addr} {W : WX} {a b c e : Expr} {fa fb fc : XE} {pos p p1 p2 p3 : Pos}
/-- a list or a tuple backwards -/
def tBackA (K : Frag) (te : TE) : TE := fun σ H Q => te σ H fun x H1 => ∃ a xs, x = .ref a ∧ ((SqL K H1 a xs ∧ ∀ p, H1 p = none → Q (.ref p) (upd H1 p (.lst xs.reverse))) ∨ (SqT K H1 a xs ∧ ∀ p, H1 p = none → Q (.ref p) (upd H1 p (.tup xs.reverse))))
theorem pe_backA {te : TE} {k : Nat} (he : PE X e te) : PE X (.Subscript e (.Slice none none (some (.UnaryOp .USub (.Constant (.int 1) k p1) p2)) p3) pos) (tBackA X.K te) := by
  refine ⟨fun pins s σ H Q I h => ?_⟩
  refine Subscript_ (thn (he.run pins s σ H _ I h) fun v s1 ⟨x, H1, I1, r1, q1⟩ => ?_)
  obtain ⟨a, xs, ex, q⟩ := q1
  subst ex
  cases r1
  have st : PO X (some (.UnaryOp .USub (.Constant (.int 1) k p1) p2)) (tPart (tUn (rU fun i => .int (-i)) (tC (.int 1)))) := po_some (pe_un un_neg pe_int)
  refine wpAny_Slice (thn (po_none.run pins s1 σ H1 (fun o H2 => o = none ∧ H2 = H1) I1 ⟨rfl, rfl⟩) fun vl s2 ⟨l, H2, I2, pl, el, e2⟩ => ?_)
  subst el e2
  refine thn (po_none.run pins s2 σ H2 (fun o H3 => o = none ∧ H3 = H2) I2 ⟨rfl, rfl⟩) fun vu s3 ⟨u, H3, I3, pu, eu, e3⟩ => ?_
  subst eu e3
  refine thn (st.run pins s3 σ H3 (fun o H4 => o = some (-1) ∧ H4 = H3) I3 ⟨1, rfl, -1, rfl, rfl, rfl⟩) fun vs s4 ⟨o, H4, I4, ps, eo, e4⟩ => ?_
  subst eo e4
  have I5 : Inv X pins σ H4 { s4 with heap := s4.heap.push { cls := .type "slice", data := .fields #[vl, vu, vs] } } := I4.kept (t' := s4.toks) fun b ob q => Heap.get?_push_of_some _ q
  show wpAny (model X.prog X.w) X.A (subscriptTail e (.Slice none none (some (.UnaryOp .USub (.Constant (.int 1) k p1) p2)) p3) (.ref a) (.ref s4.heap.objs.size)) (EP X pins σ Q) X.xe { s4 with heap := s4.heap.push { cls := .type "slice", data := .fields #[vl, vu, vs] } }
  rcases q with ⟨hx, q⟩ | ⟨hx, q⟩
  · obtain ⟨its, r, ht, hz⟩ := I5.list hx
    have hlen := r.length
    refine tail_any (ops := [.ref a, .ref s4.heap.objs.size]) ht.isList.typeIs (PySem.slot_list_getitem.lookup) ?_ (by with_unfolding_all rfl)
    refine wpAny_getItem_list_slice ht.isList (Heap.IsSliceOf.new _ vl vu vs) pl pu ps (by decide) ?_ (by rw [List.size_toArray]; omega)
    rw [PySem.W.krv_pick]
    refine ⟨.ref _, _, I5.laid (t' := s4.toks) (o := .lst xs.reverse) (fun b ob q => Heap.get?_push_of_some _ q) (Nat.le_refl _) ?_, rfl, q _ (I5.hok.fresh (Nat.le_refl _))⟩
    exact ⟨by rw [List.length_reverse]; exact hz, _, 0, r.reverse, Heap.get?_push_size _ rfl⟩
  · obtain ⟨its, r, ht, hz⟩ := I5.tuple hx
    have hlen := r.length
    refine tail_any (ops := [.ref a, .ref s4.heap.objs.size]) ht.typeIs (PyProof.Rows.slot_tuple_getitem.lookup) ?_ (by with_unfolding_all rfl)
    refine item_back ht (Heap.IsSliceOf.new _ vl vu vs) pl pu ps ?_ (by rw [List.size_toArray]; omega)
    refine ⟨.ref _, _, I5.laid (t' := s4.toks) (o := .tup xs.reverse) (fun b ob q => Heap.get?_push_of_some _ q) (Nat.le_refl _) ?_, rfl, q _ (I5.hok.fresh (Nat.le_refl _))⟩
    exact ⟨by rw [List.length_reverse]; exact hz, _, r.reverse, ⟨_, Heap.get?_push_size _ rfl, rfl, 0, rfl⟩⟩
theorem re_back {k : Nat} (he : RL X cv W e fa) : RE X cv W (.Subscript e (.Slice none none (some (.UnaryOp .USub (.Constant (.int 1) k p1) p2)) p3) pos) (xUn dBack fa) := by
  obtain ⟨t, p, q⟩ := he
  refine ⟨_, pe_backA p, fun {F0 B ρ σ F H Q} Z w => ?_⟩
  refine q Z (wR_bind an_D w fun d v F1 H1 e1 h1 w1 => ?_)
  cases d <;> try exact False.elim w1
  · obtain ⟨a, vs, rfl, g1, g3⟩ := Lk.list e1.fh h1
    exact ⟨a, vs, rfl, .inl ⟨.inl (.inl g1), fun p np => w1 _ _ _ (Ext.new e1.fh np) (.lst upd_same (g3.rev.mono (same_upd (e1.fh.free np))))⟩⟩
  · obtain ⟨a, vs, rfl, g1, g2, g3⟩ := Lk.tup e1.fh h1
    exact ⟨a, vs, rfl, .inr ⟨g1, fun p np => w1 _ _ _ (Ext.new e1.fh np) (.tup (.inl (.inl upd_same)) (g3.rev.mono (same_upd (e1.fh.free np))))⟩⟩
end

/-! ### range(a, b, c) -/
section
variable {X : Cx} {cv : Nat → Addr} {W : WX} {tg a b c e : Expr} {fa fb fc : XE} {pos p p1 p2 p3 : Pos}
theorem ok_rngC {K : Frag} {F : Hp} (lo c : Int) (n : Nat) : ItOk K cv F (Itc lo c n) (rngC lo c n) := fun i F' H' s1 s2 => by
  have hlen : (rngC lo c n).length = n := by unfold rngC; rw [List.length_map, List.length_range]
  refine ⟨fun d hd => ?_, fun hl => ?_⟩
  · have hi : i < n := by
      rw [← hlen]
      exact (List.getElem?_eq_some_iff.mp hd).1
    refine ⟨hi, fun x H'' y => ?_⟩
    obtain ⟨rfl, rfl⟩ := y
    unfold rngC at hd
    rw [List.getElem?_map, List.getElem?_range hi] at hd
    cases hd
    exact ⟨F', Ext.refl s2, .int _⟩
  · rw [hlen] at hl
    exact hl
theorem step_size {m n k : Int} (hk : 0 < k) : Builtin.Range.rangeSize m n k = (((if m < n then (n - m - 1) / k + 1 else 0).toNat : Nat) : Int) := by
  unfold Builtin.Range.rangeSize
  rw [if_pos hk]
  have h0 : m < n → 0 ≤ (n - m - 1) / k := fun h => Int.ediv_nonneg (by omega) (by omega)
  split
  · rename_i h
    have := h0 h
    omega
  · omega
theorem step_small {m n k : Int} (h : -(2 ^ 61) ≤ m ∧ m < 2 ^ 61 ∧ -(2 ^ 61) ≤ n ∧ n < 2 ^ 61 ∧ 0 < k ∧ k < 2 ^ 20) : RgC m n k (if m < n then (n - m - 1) / k + 1 else 0).toNat := by
  refine ⟨by omega, by omega, ?_, step_size h.2.2.2.2.1⟩
  unfold Builtin.Range.small
  rw [step_size h.2.2.2.2.1, if_pos (show k > 0 by omega)]
  have h1 : m < n → (n - m - 1) / k ≤ n - m - 1 := fun z => Int.ediv_le_self _ (by omega)
  have h0 : m < n → 0 ≤ (n - m - 1) / k := fun z => Int.ediv_nonneg (by omega) (by omega)
  by_cases hmn : m < n
  · rw [if_pos hmn]
    have h2 := h1 hmn
    have h3 := h0 hmn
    generalize (n - m - 1) / k = z at h2 h3
    simp only [Builtin.Range.rangeFitsLong, Bool.and_eq_true, Bool.or_eq_true, decide_eq_true_eq, beq_iff_eq]
    refine ⟨⟨⟨⟨?_, ?_⟩, ?_⟩, ?_⟩, .inr ?_⟩ <;> omega
  · rw [if_neg hmn]
    simp only [Builtin.Range.rangeFitsLong, Bool.and_eq_true, Bool.or_eq_true, decide_eq_true_eq, beq_iff_eq]
    refine ⟨⟨⟨⟨?_, ?_⟩, ?_⟩, ?_⟩, .inr ?_⟩ <;> omega
theorem ri_rng3 (hm : X.mg "range" = none) (h : RAL X cv W [a, b, c] (xCons fa (xCons fb (xCons fc xNil)))) (hg : Gl X "range" := by rfl) (hs : starEach [a, b, c] X.env = (false, eval a X.env) :: starEach [b, c] X.env := by rfl) (hpl : (backTo pos (starEach [b, c] X.env)).any (·.1) = false := by rfl) : RI X cv W tg (.Call (.Name "range" p) [a, b, c] [] pos) (Gy.iRng3 fa fb fc) := by
  obtain ⟨t, p1, q⟩ := h
  refine ⟨_, pi_range3 hg hm p1 hs hpl, fun {F0 B ρ σ F H Q} Z w => ?_⟩
  refine q Z ?_
  have w : wR X.K cv W σ F H ((fa ρ).bind fun x => (fb ρ).bind fun y => (fc ρ).bind fun z => (dInt x).bind fun m => (dInt y).bind fun n => (dInt z).bind fun k =>
    if Rg3 m n k then .ok (rngC m k (if m < n then (n - m - 1) / k + 1 else 0).toNat) else .bad) (hI X.K cv) Q := w
  show wR X.K cv W σ F H ((fa ρ).bind fun x => ((fb ρ).bind fun y => ((fc ρ).bind fun z => .ok [z]).bind fun zs => .ok (y :: zs)).bind fun xs => .ok (x :: xs)) _ _
  cases z : fa ρ with
  | bad =>
    rw [z] at w
    exact w.elim
  | err e =>
    rw [z] at w
    exact w
  | ok d =>
    rw [z] at w
    simp only [Gy.R.bind_ok] at w ⊢
    cases z' : fb ρ with
    | bad =>
      rw [z'] at w
      exact w.elim
    | err e =>
      rw [z'] at w
      exact w
    | ok d' =>
      rw [z'] at w
      simp only [Gy.R.bind_ok] at w ⊢
      cases z'' : fc ρ with
      | bad =>
        rw [z''] at w
        exact w.elim
      | err e =>
        rw [z''] at w
        exact w
      | ok d'' =>
        rw [z''] at w
        intro vs F' H' e hh
        cases hh with
        | cons l1 l2 =>
          cases l2 with
          | cons l3 l4 =>
            cases l4 with
            | cons l5 l6 =>
              cases l6
              cases d <;> try exact False.elim w
              cases d' <;> try exact False.elim w
              cases d'' <;> try exact False.elim w
              have e1 := l1.int
              have e2 := l3.int
              have e3 := l5.int
              subst e1 e2 e3
              simp only [dInt, Gy.R.bind_ok] at w
              split at w
              · rename_i hb
                exact ⟨_, _, _, _, rfl, step_small hb.h, w _ F' H' e (ok_rngC _ _ _)⟩
              · exact w.elim
end

/-! ### tables of the module: keys that are texts -/
def WKey (K : Frag) (w : World) (p : Addr) (z : Str) (o : Option V) : Prop :=
  ∃ es n, K.lookup p = some ⟨.type "dict", none, .dict es n, #[]⟩ ∧ PySem.W.KeysLit w.params es.toList ∧ (p == sysModules) = false ∧
    ∃ u : Option Value, PySem.W.nsIn K p z = some u ∧ RelO o u
/-- flat data as a value -/
def dV : D → V
  | .int i => .int i
  | .str x => .str x
  | .bl b => .bl b
  | _ => .non
/-- the table of the module named x, as far as t tells -/
def WTab (K : Frag) (w : World) (mg : Str → Option Value) (x : Str) (t : Tab) : Prop := ∃ p, mg x = some (.ref p) ∧ (∃ z o, WKey K w p z o) ∧
  ∀ z o, t.lookup z = some o → WKey K w p z (o.map dV) ∧ ∀ d, o = some d → dFlat d = true
theorem flat_dV {K : Frag} {cv : Nat → Addr} {F : Hp} {d : D} (h : dFlat d = true) : Dt K cv F (dV d) d := by
  cases d <;> first | (simp [dFlat] at h; done) | constructor
section
variable {X : Cx} {cv : Nat → Addr} {W : WX} {a b c e : Expr} {fa fb fc : XE} {pos p p1 p2 p3 : Pos}
theorem pe_getW {td ty : TE} {o e : Expr} {apos cpos : Pos} (ho : PE X o td) (he : PE X e ty) (m : M1 X o "get" apos e cpos) :
    PE X (.Call (.Attribute o "get" apos) [e] [] cpos) (fun σ H Q => td σ H fun x H1 => ∃ a, x = .ref a ∧ (∃ z o, WKey X.K X.w a z o) ∧ ty σ H1 fun y H2 => ∃ z o, y = .str z ∧ WKey X.K X.w a z o ∧ Q (o.getD .non) H2) := by
  refine ⟨fun pins s σ H Q I h => ?_⟩
  refine wpAny_Call_method m.base m.few m.line PySem.F.plainAttrs_dict PySem.F.slot_dict_get PySem.F.type_dict_get (thn (ho.run pins s σ H _ I h) fun u s1 ⟨x, H1, I1, rx, a, ex, ⟨z0, o0, es, n, hl, hk, low, _⟩, q1⟩ => ?_)
  subst ex
  obtain rfl : u = Value.ref a := rx
  have hm1 := PySem.W.mapOf_K (prog := X.prog) (w := X.w) I1.kIn hl hk
  refine ⟨hm1.typeIs, fun b q => ?_, ?_⟩
  · cases q
    exact ⟨_, I1.kIn _ _ hl, rfl⟩
  · rw [m.trees]
    refine Calls.callWith_builtin rfl (Calls.evalArgs_plain (Calls.spliced_cons (thn (he.run pins s1 σ H1 _ I1 q1) fun iv s2 ⟨y, H2, I2, ry, z, o, ey, ⟨es', n', hl', hk', low', u', hf, ru⟩, q2⟩ => Calls.spliced_nil ?_)))
    subst ey
    obtain ⟨t, rfl⟩ := (show ∃ t, iv = Value.str z t from ry)
    have hm2 := PySem.W.mapOf_K (prog := X.prog) (w := X.w) I2.kIn hl' hk'
    refine call_meetsIn PySem.F.slot_dict_get hm2.typeIs PySem.F.entry_dict_get (PySem.F.args_dict_get_2 _ _) (meets_dict_get (strKind X.prog X.w) a (strKind_is X.prog X.w z t) low') ⟨_, hm2, ?_⟩
    rw [PySem.W.find_K hl' hf]
    refine ⟨o.getD .non, H2, I2.tok _, ?_, q2⟩
    cases o with
    | none =>
      cases u' with
      | none => rfl
      | some _ => exact ru.elim
    | some v =>
      cases u' with
      | none => exact ru.elim
      | some u' => exact ru
theorem tab_name {x : Str} {q : Addr} (hm : X.mg x = some (.ref q)) (hg : Gl X x) (hd : (x == ("__debug__" : Str)) = false) : PE X (.Name x p) (tC (.ref q)) := pe_glob hg hm (show RelV (.ref q) (.ref q) from rfl) hd
/-- table.get(e) -/
theorem re_tget {x : Str} {t : Tab} {ap : Pos} (T : WTab X.K X.w X.mg x t) (he : RL X cv W e fa) (m : M1 X (.Name x p) "get" ap e pos) (hg : Gl X x := by rfl) (hd : (x == ("__debug__" : Str)) = false := by decide) :
    RE X cv W (.Call (.Attribute (.Name x p) "get" ap) [e] [] pos) (xUn (dGetT t) fa) := by
  obtain ⟨q, hm, h0, h1⟩ := T
  obtain ⟨te, pe, qe⟩ := he
  refine ⟨_, pe_getW (tab_name hm hg hd) pe m, fun {F0 B ρ σ F H Q} Z w => ?_⟩
  refine ⟨q, rfl, h0, qe Z (wR_bind an_D w fun d v F1 H1 e1 k1 w1 => ?_)⟩
  cases d <;> try exact False.elim w1
  rename_i z
  have ez := k1.str
  subst ez
  have w1 : wR X.K cv W σ F1 H1 (match t.lookup z with | some o => .ok (o.getD .non) | none => .bad) (hD X.K cv) Q := w1
  split at w1
  · rename_i o ho
    obtain ⟨g1, g2⟩ := h1 z o ho
    refine ⟨z, o.map dV, rfl, g1, wR_ok e1.fh w1 ?_⟩
    cases o with
    | none => exact .non
    | some d => exact flat_dV (g2 d rfl)
  · exact w1.elim
/-- table[e] -/
theorem re_tat {x : Str} {t : Tab} (T : WTab X.K X.w X.mg x t) (he : RL X cv W e fa) (hs : PlainIx e := by exact fun _ _ => rfl) (hg : Gl X x := by rfl) (hd : (x == ("__debug__" : Str)) = false := by decide) :
    RE X cv W (.Subscript (.Name x p) e pos) (xUn (dAtT t) fa) := by
  obtain ⟨q, hm, h0, h1⟩ := T
  obtain ⟨te, pe, qe⟩ := he
  refine ⟨_, pe_ix ix_kdict (tab_name hm hg hd) pe hs, fun {F0 B ρ σ F H Q} Z w => ?_⟩
  refine qe Z (wR_bind an_D w fun d v F1 H1 e1 k1 w1 => ?_)
  cases d <;> try exact False.elim w1
  rename_i z
  have ez := k1.str
  subst ez
  have w1 : wR X.K cv W σ F1 H1 (match t.lookup z with | some (some v) => .ok v | _ => .bad) (hD X.K cv) Q := w1
  split at w1
  · rename_i d ho
    obtain ⟨⟨es, n, hl, hk, low, u, hf, ru⟩, g2⟩ := h1 z _ ho
    cases u with
    | none => exact ru.elim
    | some u => exact ⟨q, z, dV d, rfl, rfl, ⟨es, n, u, hl, hk, hf, ru⟩, wR_ok e1.fh w1 (flat_dV (g2 d rfl))⟩
  · exact w1.elim
theorem op_inW : OpR X (compareOp .In) (fun x y H Q => ∃ z q o, x = .str z ∧ y = .ref q ∧ WKey X.K X.w q z o ∧ Q (.bl o.isSome) H) := by
  intro pins s σ H x y v u Q I rx ry h
  obtain ⟨z, q, o, rfl, rfl, ⟨es, n, hl, hk, low, u', hf, ru⟩, k⟩ := h
  obtain rfl : u = Value.ref q := ry
  obtain ⟨t, rfl⟩ := (show ∃ t, v = Value.str z t from rx)
  refine wpAny_in_of (strKind_is X.prog X.w z t) low (PySem.W.mapOf_K (prog := X.prog) (w := X.w) I.kIn hl hk) ?_
  rw [PySem.W.find_K hl hf]
  have e : u'.isSome = o.isSome := by cases o <;> cases u' <;> first | rfl | exact ru.elim
  exact ⟨.bl o.isSome, H, I.tok _, by rw [e]; rfl, k⟩
theorem op_ninW : OpR X (compareOp .NotIn) (fun x y H Q => ∃ z q o, x = .str z ∧ y = .ref q ∧ WKey X.K X.w q z o ∧ Q (.bl !o.isSome) H) := by
  intro pins s σ H x y v u Q I rx ry h
  obtain ⟨z, q, o, rfl, rfl, ⟨es, n, hl, hk, low, u', hf, ru⟩, k⟩ := h
  obtain rfl : u = Value.ref q := ry
  obtain ⟨t, rfl⟩ := (show ∃ t, v = Value.str z t from rx)
  refine wpAny_notIn_of (strKind_is X.prog X.w z t) low (PySem.W.mapOf_K (prog := X.prog) (w := X.w) I.kIn hl hk) ?_
  rw [PySem.W.find_K hl hf]
  have e : u'.isSome = o.isSome := by cases o <;> cases u' <;> first | rfl | exact ru.elim
  exact ⟨.bl !o.isSome, H, I.tok _, by rw [e]; rfl, k⟩
/-- e in table, e not in table: op with its rule, neg -/
theorem in_tab {x : Str} {t : Tab} {op : CmpOp} {neg : Bool} (ho : OpR X (compareOp op) (fun x y H Q => ∃ z q o, x = .str z ∧ y = .ref q ∧ WKey X.K X.w q z o ∧ Q (.bl (if neg then !o.isSome else o.isSome)) H)) (T : WTab X.K X.w X.mg x t) (he : RL X cv W e fa) (hm : behindInMarks op (.Name x p) = false)
    (hg : Gl X x) (hd : (x == ("__debug__" : Str)) = false) : RE X cv W (.Compare e [op] [.Name x p] pos) (xUn (dInT neg t) fa) ∧ RT X cv W (.Compare e [op] [.Name x p] pos) (tB (xUn (dInT neg t) fa)) := by
  obtain ⟨q, hq, h0, h1⟩ := T
  obtain ⟨te, pe, qe⟩ := he
  have key : ∀ {F0 B : Hp} {ρ : Rho} {σ : L2.St} {F H : Hp} {Q : VK}, Rel X.K cv F0 B ρ σ F H → wR X.K cv W σ F H (xUn (dInT neg t) fa ρ) (hD X.K cv) Q →
      tOp (fun x y H Q => ∃ z q o, x = .str z ∧ y = .ref q ∧ WKey X.K X.w q z o ∧ Q (.bl (if neg then !o.isSome else o.isSome)) H) te (tC (.ref q)) σ H Q := fun {F0 B ρ σ F H Q} Z w => by
    refine qe Z (wR_bind an_D w fun d v F1 H1 e1 k1 w1 => ?_)
    cases d <;> try exact False.elim w1
    rename_i z
    have ez := k1.str
    subst ez
    have w1 : wR X.K cv W σ F1 H1 (match t.lookup z with | some o => .ok (.bl (if neg then !o.isSome else o.isSome)) | none => .bad) (hD X.K cv) Q := w1
    split at w1
    · rename_i o hz
      obtain ⟨g1, g2⟩ := h1 z o hz
      have ee : (o.map dV).isSome = o.isSome := by cases o <;> rfl
      refine ⟨z, q, o.map dV, rfl, rfl, g1, ?_⟩
      rw [ee]
      exact wR_ok e1.fh w1 (.bl _)
    · exact w1.elim
  refine ⟨⟨_, pe_cmpR ho pe (tab_name hq hg hd) hm, key⟩, ⟨_, pt_cmpR ho pe (tab_name hq hg hd) hm, fun {F0 B ρ σ F H Q} Z w => ?_⟩⟩
  refine key Z (wR_bind an_B w fun d v F1 H1 e1 h1 w1 => ?_)
  cases d <;> try exact False.elim w1
  rename_i k
  cases h1
  exact ⟨k, rfl, wR_ok e1.fh w1 rfl⟩
theorem re_tin {x : Str} {t : Tab} (T : WTab X.K X.w X.mg x t) (he : RL X cv W e fa) (hm : behindInMarks .In (.Name x p) = false := by rfl) (hg : Gl X x := by rfl) (hd : (x == ("__debug__" : Str)) = false := by decide) : RE X cv W (.Compare e [.In] [.Name x p] pos) (xUn (dInT false t) fa) := (in_tab (neg := false) op_inW T he hm hg hd).1
theorem rt_tin {x : Str} {t : Tab} (T : WTab X.K X.w X.mg x t) (he : RL X cv W e fa) (hm : behindInMarks .In (.Name x p) = false := by rfl) (hg : Gl X x := by rfl) (hd : (x == ("__debug__" : Str)) = false := by decide) : RT X cv W (.Compare e [.In] [.Name x p] pos) (tB (xUn (dInT false t) fa)) := (in_tab (neg := false) op_inW T he hm hg hd).2
/-- not x by truth, as a value -/
theorem re_notT (h : RL X cv W a fa) : RE X cv W (.UnaryOp .Not a pos) (xNotT fa) := by
  obtain ⟨t, p, q⟩ := h
  refine ⟨_, pe_notT p, fun {F0 B ρ σ F H Q} Z w => ?_⟩
  refine q Z (wR_bind an_D w fun d v F1 H1 e1 h1 w1 => ?_)
  unfold dTru at w1
  split at w1
  · have e := h1.flat (fun _ => by simp)
    cases e
    exact ⟨_, rfl, wR_ok e1.fh w1 (.bl _)⟩
  · have e := h1.bl
    subst e
    exact ⟨_, rfl, wR_ok e1.fh w1 (.bl _)⟩
  · have e := h1.int
    subst e
    exact ⟨_, rfl, wR_ok e1.fh w1 (.bl _)⟩
  · split at w1
    · have e := h1.str
      subst e
      exact ⟨_, ⟨ln_le (by assumption), rfl⟩, wR_ok e1.fh w1 (.bl _)⟩
    · exact w1.elim
  · obtain ⟨a, vs, rfl, g1, g2, g3⟩ := h1.tup e1.fh
    refine ⟨_, .inr (.inl ⟨vs, g1, rfl⟩), ?_⟩
    rw [g3.emp]
    exact wR_ok e1.fh w1 (.bl _)
  · obtain ⟨a, vs, rfl, g1, g3⟩ := h1.list e1.fh
    refine ⟨_, .inl ⟨vs, .inl (.inl g1), rfl⟩, ?_⟩
    rw [g3.emp]
    exact wR_ok e1.fh w1 (.bl _)
  · rename_i ns
    obtain ⟨a, rfl, g1⟩ := h1.scr e1.fh
    refine ⟨_, .inl ⟨_, g1, rfl⟩, ?_⟩
    have e : (ns.map V.int).isEmpty = ns.isEmpty := by cases ns <;> rfl
    rw [e]
    exact wR_ok e1.fh w1 (.bl _)
  · exact w1.elim
end
end Gy

end

section
set_option Elab.async false
set_option linter.all false
set_option maxRecDepth 100000
set_option maxHeartbeats 4000000
/-! GyN: lists of lists of the def's own; other names of their items. -/
namespace Gy
open PySem PySem.Spec PyProof.Rows L2
def hN2 (K : Frag) (cv : Nat → Addr) : Hld (List (List D)) V := fun H xss v F' H' => New2 K cv H F' H' xss v
theorem an_N2 {K : Frag} {cv : Nat → Addr} : Anti (hN2 K cv) := fun _ _ _ _ _ _ s h => New2.anti s h
abbrev RN2 (X : Cx) (cv : Nat → Addr) (W : WX) := RP X cv W (hN2 X.K cv)
def hR (K : Frag) (cv : Nat → Addr) : Hld (List (List D)) (List V) := fun H xss vs F' H' => ∃ qs : List Addr, vs = qs.map V.ref ∧ qs.Nodup ∧ Rows K cv H F' H' qs xss
theorem an_R {K : Frag} {cv : Nat → Addr} : Anti (hR K cv) := fun _ _ _ _ _ _ s ⟨qs, e, nd, r⟩ => ⟨qs, e, nd, r.base fun q hq => s.free (r.mem hq).1⟩
def RA2 (X : Cx) (cv : Nat → Addr) (W : WX) (es : List Expr) (f : XA2) : Prop :=
  ∃ t, PA X es t ∧ ∀ {F0 B : Hp} {ρ : Rho} {σ : L2.St} {F H : Hp} {Q : List V → Hp → Prop}, Rel X.K cv F0 B ρ σ F H → wR X.K cv W σ F H (f ρ) (hR X.K cv) Q → t σ H Q
theorem Rows.ext {K : Frag} {cv : Nat → Addr} {B F H F' H' : Hp} {qs : List Addr} {xss : List (List D)} (r : Rows K cv B F H qs xss) (e : Ext F H F' H') : Rows K cv B F' H' qs xss :=
  r.imp e.ff (fun q hq => (r.mem hq).1) (fun q hq => by
    obtain ⟨_, f, vs, z⟩ := r.mem hq
    exact e.out f z) fun q hq vs z => e.hh _ _ z
section
variable {X : Cx} {cv : Nat → Addr} {W : WX} {tg a b c e : Expr} {fa fb fc : XE} {pos p : Pos} {es : List Expr}
/-! ### what is new -/
theorem ra2_nil : RA2 X cv W [] x2Nil := ⟨_, pa_nil, fun {F0 B ρ σ F H Q} R w => wR_ok R.fh w ⟨[], rfl, List.nodup_nil, .nil⟩⟩
theorem ra2_cons {fn : XA} {fr : XA2} (h : RN X cv W a fn) (h' : RA2 X cv W es fr) (hs : starEach (a :: es) X.env = (false, eval a X.env) :: starEach es X.env := by rfl) : RA2 X cv W (a :: es) (x2Cons fn fr) := by
  obtain ⟨t, p, q⟩ := h
  obtain ⟨t', p', q'⟩ := h'
  refine ⟨_, pa_cons p p' hs, fun {F0 B ρ σ F H Q} R w => ?_⟩
  have w : wR X.K cv W σ F H ((fn ρ).bind fun x => (fr ρ).bind fun xs => .ok (x :: xs)) (hR X.K cv) Q := w
  refine q R ?_
  cases hz : fn ρ with
  | bad =>
    rw [hz] at w
    exact w.elim
  | err d =>
    rw [hz] at w
    exact w
  | ok ds =>
    rw [hz] at w
    intro v F1 H1 e1 h1
    obtain ⟨l, vs, rfl, n1, n2, n3, n4⟩ := h1
    refine q' (R.ext e1) ?_
    cases hy : fr ρ with
    | bad =>
      rw [hy] at w
      exact w.elim
    | err d =>
      rw [hy] at w
      exact fun cls dd F2 H2 e2 h2 => w cls dd F2 H2 (e1.trans e2) h2
    | ok xss =>
      rw [hy] at w
      intro us F2 H2 e2 h2
      obtain ⟨qs, rfl, nd, r⟩ := h2
      have nl : l ∉ qs := fun z => by
        have := (r.mem z).1
        rw [n3] at this
        cases this
      exact w _ F2 H2 (e1.trans e2) ⟨l :: qs, rfl, List.nodup_cons.mpr ⟨nl, nd⟩, .cons n1 (e2.out n2 n3) (e2.hh _ _ n3) (n4.mono e2.ff) (r.base fun x hx => e1.hh.free (r.mem hx).1)⟩
theorem rn2_lst {fr : XA2} (h : RA2 X cv W es fr) : RN2 X cv W (.List es pos) (x2Lst fr) := by
  obtain ⟨t, p, q⟩ := h
  refine ⟨_, pe_lst p, fun {F0 B ρ σ F H Q} R w => ?_⟩
  have w : wR X.K cv W σ F H ((fr ρ).bind fun xs => if Ln xs.length then .ok xs else .bad) (hN2 X.K cv) Q := w
  refine q R ?_
  cases hz : fr ρ with
  | bad =>
    rw [hz] at w
    exact w.elim
  | err d =>
    rw [hz] at w
    exact w
  | ok xss =>
    rw [hz] at w
    have w : wR X.K cv W σ F H (if Ln xss.length then .ok xss else .bad) (hN2 X.K cv) Q := w
    intro us F1 H1 e1 h1
    obtain ⟨qs, rfl, nd, r⟩ := h1
    split at w
    · rename_i hl
      refine ⟨?_, fun p np => ?_⟩
      · rw [List.length_map, r.length]
        exact ln_le hl
      · have e2 := Ext.hid (o := .lst (qs.map V.ref)) e1.fh np
        have npq : p ∉ qs := fun z => by
          obtain ⟨_, _, vs, y⟩ := r.mem z
          rw [np] at y
          cases y
        exact w _ _ _ (e1.trans e2) ⟨p, qs, rfl, List.nodup_cons.mpr ⟨npq, nd⟩, e1.hh.free np, e1.fh.free np, upd_same, r.ext e2⟩
    · exact w.elim
theorem RP.asO2 {f : Rho → Gy.R Sl} (h : RP X cv W (hS X.K cv) e f) : RN2 X cv W e (fun ρ => Gy.asO2 (f ρ)) := by
  obtain ⟨t, h1, h2⟩ := h
  refine ⟨t, h1, fun {F0 B ρ σ F H Q} r w => h2 r ?_⟩
  have w : wR X.K cv W σ F H (Gy.asO2 (f ρ)) (hN2 X.K cv) Q := w
  cases q : f ρ with
  | ok s =>
    rw [q] at w
    cases s with
    | own2 xss => exact w
    | _ => exact w.elim
  | err d =>
    rw [q] at w
    exact w
  | bad =>
    rw [q] at w
    exact w
theorem rn2_call {x : Str} {k n : Nat} {sem : List D → Gy.R Sl} {fr : XA} (G : Fn X.prog X.w X.K X.mg X.base cv k x n sem) (hr : Room k X.A) (tk : Takes X W) (ha : RA X cv W (e :: es) fr) (hg : Gl X x := by rfl) (hdb : (x == ("__debug__" : Str)) = false := by decide)
    (he : starEach (e :: es) X.env = (false, eval e X.env) :: starEach es X.env := by rfl) (hpl : (backTo pos (starEach es X.env)).any (·.1) = false := by rfl) (hn : (e :: es).length = n := by rfl) :
    RN2 X cv W (.Call (.Name x p) (e :: es) [] pos) (x2Call (atN n sem) fr) := (rp_call G hr tk ha hg hdb he hpl hn).asO2

/-! ### comprehensions of new lists -/
theorem lc_w2 {iter : Expr} {it : XA} {g : XG} {gs vs : List Nat} {ft : XT} {fe : XA} {ti : TI}
    (qi : ∀ {F0 B : Hp} {ρ : Rho} {σ : L2.St} {F H : Hp} {Q : It → Hp → Prop}, Rel X.K cv F0 B ρ σ F H → wR X.K cv W σ F H (it ρ) (hI X.K cv) Q → ti σ H Q) (hgs : ∀ i ∈ gs, i ∈ vs)
    {F0 B : Hp} {ρ : Rho} {σ : L2.St} {F H : Hp} {Q : VK} (Z : Rel X.K cv F0 B ρ σ F H) (w : wR X.K cv W σ F H (x2Lc it g ft fe vs ρ) (hN2 X.K cv) Q) :
    tLc ti (canG X.K cv g gs) (canTs X.K cv ft) (canE X.K cv WF (hN X.K cv) fe) vs σ H Q := by
  refine qi Z (wR_bind an_N2 w fun ds J F1 H1 e1 hJ w1 => ?_)
  have hJ : ItOk X.K cv F1 J ds := hJ
  split at w1
  · rename_i hl
    intro Dl hD
    cases q : lcRun2 g ft fe (wipes ρ vs) ds with
    | err e =>
      rw [q] at w1
      exact w1.elim
    | bad =>
      rw [q] at w1
      exact w1.elim
    | ok res =>
      rw [q] at w1
      have hw := w1
      refine ⟨fun i m H' => ∃ F' qs acc rest, m = ds.length - i ∧ i ≤ ds.length ∧ Ext F1 H1 F' H' ∧ F' Dl = none ∧ H' Dl = some (.lst (qs.map V.ref)) ∧ (Dl :: qs).Nodup ∧ Rows X.K cv H1 F' H' qs acc ∧ acc.length ≤ i ∧ lcRun2 g ft fe (wipes ρ vs) (ds.drop i) = .ok rest ∧ res = acc ++ rest,
        ⟨ds.length, F1, [], [], res, rfl, Nat.zero_le _, Ext.hid e1.fh hD, e1.fh.free hD, upd_same, List.nodup_cons.mpr ⟨List.not_mem_nil, List.nodup_nil⟩, .nil, Nat.le_refl _, q, rfl⟩, ?_⟩
      rintro i m H' ⟨F', qs, acc, rest, rfl, hi, e2, h1, h2, nd, h3, h4, h5, h6⟩
      obtain ⟨hgo, hst⟩ := hJ i F' H' e2.ff e2.fh
      by_cases hlt : i < ds.length
      · have hd : ds[i]? = some ds[i] := List.getElem?_eq_getElem hlt
        obtain ⟨go, yl⟩ := hgo _ hd
        generalize ds[i] = d at hd yl
        refine .inr ⟨go, fun H'' => ∃ F' qs acc rest, Ext F1 H1 F' H'' ∧ F' Dl = none ∧ H'' Dl = some (.lst (qs.map V.ref)) ∧ (Dl :: qs).Nodup ∧ Rows X.K cv H1 F' H'' qs acc ∧ acc.length ≤ i + 1 ∧ lcRun2 g ft fe (wipes ρ vs) (ds.drop (i + 1)) = .ok rest ∧ res = acc ++ rest, ?_, ?_⟩
        · rintro H'' ⟨F', qs, acc, rest, e2, h1, h2, nd, h3, h4, h5, h6⟩
          exact ⟨_, by omega, F', qs, acc, rest, rfl, hlt, e2, h1, h2, nd, h3, h4, h5, h6⟩
        · intro x H2 hy
          obtain ⟨F2, e3, hx⟩ := yl x H2 hy
          have hdrop : ds.drop i = d :: ds.drop (i + 1) := by
            rw [List.drop_eq_getElem?_toList_append, hd]
            rfl
          rw [hdrop] at h5
          have h5 : (g d (wipes ρ vs)).bind (fun ρ' => (ft ρ').bind fun k => if k = true then (fe ρ').bind fun y => (lcRun2 g ft fe (wipes ρ vs) (ds.drop (i + 1))).bind fun r => .ok (y :: r) else lcRun2 g ft fe (wipes ρ vs) (ds.drop (i + 1))) = .ok rest := h5
          have Z2 : Rel X.K cv F0 B (wipes ρ vs) (L2.wipe σ vs) F2 H2 := (((Z.ext e1).ext e2).ext e3).wipe vs
          cases zg : g d (wipes ρ vs) with
          | err _ =>
            rw [zg] at h5
            cases h5
          | bad =>
            rw [zg] at h5
            cases h5
          | ok ρ' =>
            rw [zg] at h5
            refine ⟨F0, B, wipes ρ vs, ρ', F2, d, Z2, hx, zg, fun σ2 Z3 o3 => ⟨?_, ?_⟩⟩
            · rw [← wipe_wipe (σ := σ) (vs := vs)]
              refine wipe_eq o3.1 fun j hj => o3.2 j fun m => hj (hgs j m)
            · have h5 : (ft ρ').bind (fun k => if k = true then (fe ρ').bind fun y => (lcRun2 g ft fe (wipes ρ vs) (ds.drop (i + 1))).bind fun r => .ok (y :: r) else lcRun2 g ft fe (wipes ρ vs) (ds.drop (i + 1))) = .ok rest := h5
              cases zt : ft ρ' with
              | err _ =>
                rw [zt] at h5
                cases h5
              | bad =>
                rw [zt] at h5
                cases h5
              | ok k =>
                rw [zt] at h5
                refine ⟨F0, B, ρ', F2, Z3, ?_⟩
                rw [zt]
                intro k' F3 H3 e4 hk
                cases hk
                have eA : Ext F1 H1 F3 H3 := (e2.trans e3).trans e4
                have nD : F3 Dl = none := (e3.trans e4).out h1 h2
                have hD3 : H3 Dl = some (.lst (qs.map V.ref)) := e4.hh _ _ (e3.hh _ _ h2)
                have r3 : Rows X.K cv H1 F3 H3 qs acc := h3.ext (e3.trans e4)
                cases k with
                | false =>
                  rw [if_neg Bool.false_ne_true]
                  have h5 : lcRun2 g ft fe (wipes ρ vs) (ds.drop (i + 1)) = .ok rest := h5
                  exact ⟨F3, qs, acc, rest, eA, nD, hD3, nd, r3, by omega, h5, h6⟩
                | true =>
                  rw [if_pos rfl]
                  have h5 : (fe ρ').bind (fun y => (lcRun2 g ft fe (wipes ρ vs) (ds.drop (i + 1))).bind fun r => .ok (y :: r)) = .ok rest := h5
                  cases ze : fe ρ' with
                  | err _ =>
                    rw [ze] at h5
                    cases h5
                  | bad =>
                    rw [ze] at h5
                    cases h5
                  | ok y =>
                    rw [ze] at h5
                    have h5 : (lcRun2 g ft fe (wipes ρ vs) (ds.drop (i + 1))).bind (fun r => .ok (y :: r)) = .ok rest := h5
                    cases zr : lcRun2 g ft fe (wipes ρ vs) (ds.drop (i + 1)) with
                    | err _ =>
                      rw [zr] at h5
                      cases h5
                    | bad =>
                      rw [zr] at h5
                      cases h5
                    | ok r =>
                      rw [zr] at h5
                      cases h5
                      refine ⟨F0, B, ρ', F3, Z3.ext e4, ?_⟩
                      rw [ze]
                      intro v F4 H4 e5 hv
                      obtain ⟨l, us, rfl, n1, n2, n3, n4⟩ := hv
                      have hD4 : H4 Dl = some (.lst (qs.map V.ref)) := e5.hh _ _ hD3
                      have nD4 : F4 Dl = none := e5.out nD hD3
                      have lD : l ≠ Dl := fun z => by
                        rw [z] at n1
                        rw [n1] at hD3
                        cases hD3
                      have lq : l ∉ qs := fun z => by
                        obtain ⟨_, _, us', y⟩ := r3.mem z
                        rw [n1] at y
                        cases y
                      obtain ⟨Dq, nd⟩ := List.nodup_cons.mp nd
                      have r4 : Rows X.K cv H1 F4 (upd H4 Dl (.lst ((qs ++ [l]).map V.ref))) qs acc := (r3.ext e5).imp (Same.refl F4) (fun x hx => (r3.mem hx).1) (fun x hx => ((r3.ext e5).mem hx).2.1) fun x hx us' z => by
                        rw [upd_off hx Dq]
                        exact z
                      refine ⟨qs.map V.ref, hD4, ?_, F4, qs ++ [l], acc ++ [y], r, ?_, nD4, ?_, ?_, ?_, ?_, rfl, ?_⟩
                      · rw [List.length_map, r3.length]
                        exact ln_lt ⟨Nat.le_trans (Nat.le_of_lt (Nat.lt_of_le_of_lt h4 hlt)) hl.h⟩
                      · have eB := eA.trans e5
                        refine ⟨eB.ff, fun b o z => ?_, fun b o z => ?_, eB.nw⟩
                        · rw [upd_ne (ne_of_none z nD4)]
                          exact eB.fh b o z
                        · rw [upd_ne (ne_of_none z hD)]
                          exact eB.hh b o z
                      · rw [upd_same, List.map_append]
                        rfl
                      · refine List.nodup_cons.mpr ⟨fun z => ?_, List.nodup_append.mpr ⟨nd, List.nodup_cons.mpr ⟨List.not_mem_nil, List.nodup_nil⟩, fun a ha b hb z => ?_⟩⟩
                        · rcases List.mem_append.mp z with z | z
                          · exact Dq z
                          · have z : Dl = l := by simpa using z
                            exact lD z.symm
                        · have hb : b = l := by simpa using hb
                          subst z hb
                          exact lq ha
                      · have z := r4.snoc (eA.hh.free n1) n2 (by rw [upd_ne lD]; exact n3) n4
                        rw [List.map_append] at z
                        exact z
                      · rw [List.length_append]
                        show acc.length + 1 ≤ i + 1
                        omega
                      · rw [h6, List.append_assoc]
                        rfl
      · have hi2 : i = ds.length := by omega
        subst hi2
        refine .inl ⟨hst (Nat.le_refl _), ?_⟩
        rw [List.drop_length] at h5
        cases h5
        rw [List.append_nil] at h6
        subst h6
        exact hw (.ref Dl) F' H' e2 ⟨Dl, qs, rfl, nd, hD, h1, h2, h3⟩
  · exact w1.elim
end
section
variable {X : Cx} {cv : Nat → Addr} {W : WX} {tg a b c e : Expr} {fa fb fc : XE} {pos p p1 p2 p3 : Pos} {es : List Expr}
section
variable {elt iter : Expr} {ifs : List Expr} {scope : Scope} {own : List (Str × Nat)} {it : XA} {g : XG} {gs : List Nat} {ft : XT} {fe : XA} {y : Str} {py spos : Pos}
theorem rn2_lc (hc : X.calm = true) (hN : X.N.Nodup) (hi : RI X cv W tg iter it) (ok : BlkOk X.N X.env.scope scope own)
    (hg : ∀ (s : Shared) (H : Hp) (C : Addr) (cl : List (Str × Addr)) (fp : List Addr), RG (X.blk s H scope (compEnvC scope cl C X.env) fp) cv tg g gs)
    (ht : ∀ (s : Shared) (H : Hp) (C : Addr) (cl : List (Str × Addr)) (fp : List Addr), RTs (X.blk s H scope (compEnvC scope cl C X.env) fp) cv ifs ft)
    (he : ∀ (s : Shared) (H : Hp) (C : Addr) (cl : List (Str × Addr)) (fp : List Addr), RN (X.blk s H scope (compEnvC scope cl C X.env) fp) cv WF elt fe)
    (hgs : ∀ i ∈ gs, i ∈ own.map (·.2) := by decide) (hs : ∀ x, foldedSetIterable iter X.env x = pure x := by intro _; rfl) :
    RN2 X cv W (.ListComp elt [⟨tg, iter, ifs, 0⟩] scope pos) (x2Lc it g ft fe (own.map (·.2))) := by
  obtain ⟨ti, pi, qi⟩ := hi
  exact ⟨_, pe_lc hc hN pi ok (fun s H C cl fp => can_g (hg s H C cl fp)) (fun s H C cl fp => can_ts (ht s H C cl fp)) (fun s H C cl fp => can_e (he s H C cl fp)) hs, fun {F0 B ρ σ F H Q} Z w => lc_w2 (iter := iter) qi hgs Z w⟩
/-- a value, then what follows: the heap ahead kept in sight -/
theorem wO_own2 {K : Frag} {F0 B F H : Hp} {E : Ends} {ρ : Rho} {σ : L2.St} {r : Gy.R (List (List D))} {i : Nat} {Q : VK} (Z : Rel K cv F0 B ρ σ F H) (w : wO K cv W F0 B E (r.thn ρ fun xss => .nx ((unAl i ρ).set i (.own2 xss)))) (k : ∀ v F' H', Rel K cv F0 B ρ σ F' H' → E.nx (σ.set i (some v)) H' → Q v H') : wR K cv W σ F H r (hN2 K cv) Q := by
  cases r with
  | ok xss => exact fun v F' H' e hh => k v F' H' (Z.ext e) (w _ F' H' (Z.set2 e i hh))
  | err d => exact fun cls dd F' H' e hx => w σ F' H' cls dd (Z.ext e) hx
  | bad => exact w
theorem rs_lc2 (i : Nat) (hc : X.calm = true) (hN : X.N.Nodup) (hi : RI X cv W tg iter it) (ok : BlkOk X.N X.env.scope scope own)
    (hg : ∀ (s : Shared) (H : Hp) (C : Addr) (cl : List (Str × Addr)) (fp : List Addr), RG (X.blk s H scope (compEnvC scope cl C X.env) fp) cv tg g gs)
    (ht : ∀ (s : Shared) (H : Hp) (C : Addr) (cl : List (Str × Addr)) (fp : List Addr), RTs (X.blk s H scope (compEnvC scope cl C X.env) fp) cv ifs ft)
    (he : ∀ (s : Shared) (H : Hp) (C : Addr) (cl : List (Str × Addr)) (fp : List Addr), RN (X.blk s H scope (compEnvC scope cl C X.env) fp) cv WF elt fe)
    (hsw : swapsWith (.ListComp elt [⟨tg, iter, ifs, 0⟩] scope pos) (some (.Name y py)) spos.line X.env = pure true)
    (hgs : ∀ i ∈ gs, i ∈ own.map (·.2) := by decide) (hs : ∀ x, foldedSetIterable iter X.env x = pure x := by intro _; rfl) (hy : X.N[i]? = some y := by rfl) (hyl : X.env.scope.names.lookup y = some .local := by rfl) :
    RS X cv W (.Assign [.Name y py] (.ListComp elt [⟨tg, iter, ifs, 0⟩] scope pos) spos) (sOwn2 i (x2Lc it g ft fe (own.map (·.2)))) := by
  obtain ⟨ti, pi, qi⟩ := hi
  refine ⟨_, ps_setLc (te := canE X.K cv WF (Gy.hN X.K cv) fe) (tt := canTs X.K cv ft) (g := canG X.K cv g gs) hc hN hy hyl hsw pi ok (fun s H C cl fp => can_g (hg s H C cl fp)) (fun s H C cl fp => can_ts (ht s H C cl fp)) (fun s H C cl fp => can_e (he s H C cl fp)) hs, fun {F0 B ρ σ F H E} Z w => ?_⟩
  exact lc_w2 (iter := iter) qi hgs Z (wO_own2 Z w fun v F' H' _ z => z)
end
/-- x = a list of new lists, the def's own from here -/
theorem rs_own2 (i : Nat) {x : Str} {pos' : Pos} {fl : XA2} (he : RN2 X cv W e fl) (hp : ∀ {t : TE}, PE X e t → PS X (.Assign [.Name x pos'] e pos) (tAsg t (gName i))) : RS X cv W (.Assign [.Name x pos'] e pos) (sOwn2 i fl) := by
  obtain ⟨t, p, q⟩ := he
  exact ⟨_, hp p, fun {F0 B ρ σ F H E} Z w => q Z (wO_own2 Z w fun v F' H' _ z => z)⟩
theorem rs_ret2 (i : Nat) {x : Str} (h : PE X (.Name x p) (tVar i)) : RS X cv W (.Return (some (.Name x p)) pos) (sRet2 i) := by
  refine ⟨_, ps_ret h, fun {F0 B ρ σ F H E} Z w => ?_⟩
  unfold sRet2 at w
  split at w
  · rename_i xs hx
    obtain ⟨o, h1, l, qs, rfl, nd, n1, n2, n3, n4⟩ := Z.slot hx
    exact ⟨_, h1, w _ F H Z.ex ⟨l, qs, rfl, nd, n1, n2, n3, n4⟩⟩
  · exact w.elim
theorem rs_ret2N {fl : XA2} (he : RN2 X cv W e fl) : RS X cv W (.Return (some e) pos) (sRet2N fl) := by
  obtain ⟨t, p, q⟩ := he
  refine ⟨_, ps_ret p, fun {F0 B ρ σ F H E} Z w => q Z ?_⟩
  have w : wO X.K cv W F0 B E ((fl ρ).thn ρ fun xss => .rt (.own2 xss)) := w
  cases hz : fl ρ with
  | ok xss =>
    rw [hz] at w
    exact fun v F' H' e hh => w v F' H' (Z.ext e).ex (New2.anti Z.ex.hh hh)
  | err d =>
    rw [hz] at w
    exact fun cls dd F' H' e hx => w σ F' H' cls dd (Z.ext e) hx
  | bad =>
    rw [hz] at w
    exact w
theorem own2_at {K : Frag} {F0 B F H : Hp} {E : Ends} {ρ : Rho} {σ : L2.St} {i : Nat} {k : List (List D) → O} (Z : Rel K cv F0 B ρ σ F H) (w : wO K cv W F0 B E (withOwn2 ρ i k)) :
    ∃ (xss : List (List D)) (l : Addr) (qs : List Addr), ρ[i]? = some (.own2 xss) ∧ σ[i]? = some (some (.ref l)) ∧ H l = some (.lst (qs.map V.ref)) ∧ Rows K cv B F H qs xss ∧ wO K cv W F0 B E (k xss) := by
  unfold withOwn2 at w
  split at w
  · rename_i xss hx
    obtain ⟨o, h1, l, qs, rfl, nd, n1, n2, n3, n4⟩ := Z.slot hx
    exact ⟨xss, l, qs, hx, h1, n3, n4, w⟩
  · exact w.elim
/-- x.append(a new list) -/
theorem rs_app2 (i : Nat) {x : Str} {fn : XA} (h : PE X (.Name x p1) (tVar i)) (he : RN X cv W e fn)
    (hq : ∀ {to : TE} {t : TA}, PE X (.Name x p1) to → PA X [e] t → PE X (.Call (.Attribute (.Name x p1) "append" p2) [e] [] pos) (tBM X.K "list" rAppend to t) := by exact fun a b => pe_bm PySem.F.plainAttrs_list PySem.F.slot_list_append PySem.F.type_list_append mt_append a b)
    (hs : swapsWith (.Call (.Attribute (.Name x p1) "append" p2) [e] [] pos) none p.line X.env = pure false := by rfl) (hst : starEach (e :: []) X.env = (false, eval e X.env) :: starEach [] X.env := by rfl) :
    RS X cv W (.Expr (.Call (.Attribute (.Name x p1) "append" p2) [e] [] pos) p) (sApp2 i fn) := by
  obtain ⟨t, pe, q⟩ := he
  refine ⟨_, ps_expr (hq h (pa_cons pe pa_nil hst)) hs, fun {F0 B ρ σ F H E} Z w => ?_⟩
  obtain ⟨xss, l, qs, h1, h2, h3, h4, w⟩ := own2_at Z w
  refine ⟨_, h2, .inl ⟨rfl, _, .inl (.inl h3)⟩, ?_⟩
  refine q Z ?_
  cases hz : fn ρ with
  | bad =>
    rw [hz] at w
    exact w
  | err d =>
    rw [hz] at w
    exact fun cls dd F' H' e hx => w σ F' H' cls dd (Z.ext e) hx
  | ok ds =>
    rw [hz] at w
    have w : wO X.K cv W F0 B E (if Ln xss.length then .nx (ρ.set i (.own2 (xss ++ [ds]))) else .bad) := w
    intro v F1 H1 e1 hd
    obtain ⟨m, us, rfl, n1, n2, n3, n4⟩ := hd
    split at w
    · rename_i hl
      refine ⟨l, qs.map V.ref, .ref m, rfl, rfl, e1.hh _ _ h3, ?_, ?_⟩
      · rw [List.length_map, h4.length]
        exact ln_lt hl
      · have z := Z.chgA e1 h1 h2 h3 n1 n2 n3 n4
        rw [List.map_append] at z
        exact w σ F1 _ z
    · exact w.elim
theorem row_at {K : Frag} {F0 B : Hp} {E : Ends} {xss : List (List D)} {z : D} {f : Nat → List D → O} (w : wO K cv W F0 B E (atRow xss z f)) : ∃ n k row, z = .int n ∧ ixAt xss.length n = some k ∧ xss[k]? = some row ∧ wO K cv W F0 B E (f k row) := by
  unfold atRow at w
  split at w
  · split at w
    · split at w
      · exact ⟨_, _, _, rfl, by assumption, by assumption, w⟩
      · exact w.elim
    · exact w.elim
  · exact w.elim
theorem at_refs {K : Frag} {B F H : Hp} {qs : List Addr} {xss : List (List D)} (r : Rows K cv B F H qs xss) {n : Int} {k : Nat} {row : List D} (h1 : ixAt xss.length n = some k) (h2 : xss[k]? = some row) : ∃ q vs, L2.atI (qs.map V.ref) n = some (.ref q) ∧ qs[k]? = some q ∧ H q = some (.lst vs) ∧ Dts K cv F vs row := by
  obtain ⟨q, vs, e1, _, _, e4, e5⟩ := r.get h2
  refine ⟨q, vs, ?_, e1, e4, e5⟩
  rw [atI_eq]
  unfold getAt
  rw [List.length_map, r.length, h1]
  show (qs.map V.ref)[k]? = _
  rw [List.getElem?_map, e1]
  rfl
/-- x[j].append(e) -/
theorem rs_appR (i : Nat) {x : Str} {j : Expr} {fj : XE} (h : PE X (.Name x p1) (tVar i)) (hj : RL X cv W j fj) (he : RE X cv W e fa) (hx : PlainIx j := by exact fun _ _ => rfl)
    (hq : ∀ {to : TE} {t : TA}, PE X (.Subscript (.Name x p1) j p3) to → PA X [e] t → PE X (.Call (.Attribute (.Subscript (.Name x p1) j p3) "append" p2) [e] [] pos) (tBM X.K "list" rAppend to t) := by exact fun a b => pe_bm PySem.F.plainAttrs_list PySem.F.slot_list_append PySem.F.type_list_append mt_append a b)
    (hs : swapsWith (.Call (.Attribute (.Subscript (.Name x p1) j p3) "append" p2) [e] [] pos) none p.line X.env = pure false := by rfl) (hst : starEach (e :: []) X.env = (false, eval e X.env) :: starEach [] X.env := by rfl) :
    RS X cv W (.Expr (.Call (.Attribute (.Subscript (.Name x p1) j p3) "append" p2) [e] [] pos) p) (sAppR i fj fa) := by
  obtain ⟨t, pe, q⟩ := he
  obtain ⟨tj, pj, qj⟩ := hj
  refine ⟨_, ps_expr (hq (pe_ix ix_seq h pj hx) (pa_cons pe pa_nil hst)) hs, fun {F0 B ρ σ F H E} Z w => ?_⟩
  obtain ⟨xss, l, qs, h1, h2, h3, h4, w⟩ := own2_at Z w
  refine ⟨_, h2, ?_⟩
  refine qj Z (wO_bind Z w fun z zv F1 H1 e1 Z1 hz w1 => ?_)
  obtain ⟨n, k, row, rfl, k1, k2, w1⟩ := row_at w1
  have hz := hz.int
  subst hz
  obtain ⟨m, vs, a1, a2, a3, a4⟩ := at_refs (h4.ext e1) k1 k2
  refine .inl ⟨l, qs.map V.ref, n, .ref m, rfl, rfl, .inl (.inl (e1.hh _ _ h3)), a1, ?_⟩
  refine ⟨.inl ⟨rfl, vs, .inl (.inl a3)⟩, ?_⟩
  refine q Z1 (wO_bind Z1 w1 fun d v F2 H2 e2 Z2 hd w2 => ?_)
  split at w2
  · rename_i hl
    refine ⟨m, vs, v, rfl, rfl, e2.hh _ _ a3, ?_, ?_⟩
    · rw [a4.length]
      exact ln_lt hl
    · exact w2 σ F2 _ (Z2.chgR h1 h2 (e2.hh _ _ (e1.hh _ _ h3)) a2 ((a4.mono e2.ff).append (.cons hd .nil)))
  · exact w2.elim
/-- x[j].extend(e) -/
theorem rs_extR (i : Nat) {x : Str} {j : Expr} {fj : XE} (h : PE X (.Name x p1) (tVar i)) (hj : RL X cv W j fj) (he : RE X cv W e fa) (hx : PlainIx j := by exact fun _ _ => rfl)
    (hq : ∀ {to : TE} {t : TA}, PE X (.Subscript (.Name x p1) j p3) to → PA X [e] t → PE X (.Call (.Attribute (.Subscript (.Name x p1) j p3) "extend" p2) [e] [] pos) (tBM X.K "list" rExtend to t) := by exact fun a b => pe_bm PySem.F.plainAttrs_list PySem.F.slot_list_extend PySem.F.type_list_extend mt_extend a b)
    (hs : swapsWith (.Call (.Attribute (.Subscript (.Name x p1) j p3) "extend" p2) [e] [] pos) none p.line X.env = pure false := by rfl) (hst : starEach (e :: []) X.env = (false, eval e X.env) :: starEach [] X.env := by rfl) :
    RS X cv W (.Expr (.Call (.Attribute (.Subscript (.Name x p1) j p3) "extend" p2) [e] [] pos) p) (sExtR i fj fa) := by
  obtain ⟨t, pe, q⟩ := he
  obtain ⟨tj, pj, qj⟩ := hj
  refine ⟨_, ps_expr (hq (pe_ix ix_seq h pj hx) (pa_cons pe pa_nil hst)) hs, fun {F0 B ρ σ F H E} Z w => ?_⟩
  obtain ⟨xss, l, qs, h1, h2, h3, h4, w⟩ := own2_at Z w
  refine ⟨_, h2, ?_⟩
  refine qj Z (wO_bind Z w fun z zv F1 H1 e1 Z1 hz w1 => ?_)
  obtain ⟨n, k, row, rfl, k1, k2, w1⟩ := row_at w1
  have hz := hz.int
  subst hz
  obtain ⟨m, vs, a1, a2, a3, a4⟩ := at_refs (h4.ext e1) k1 k2
  refine .inl ⟨l, qs.map V.ref, n, .ref m, rfl, rfl, .inl (.inl (e1.hh _ _ h3)), a1, ?_⟩
  refine ⟨.inl ⟨rfl, vs, .inl (.inl a3)⟩, ?_⟩
  refine q Z1 (wO_bind Z1 w1 fun d v F2 H2 e2 Z2 hd w2 => ?_)
  cases d <;> try exact False.elim w2
  rename_i ys
  have w2 : wO X.K cv W F0 B E (if Ln (row.length + ys.length) then .nx (ρ.set i (.own2 (xss.set k (row ++ ys)))) else .bad) := w2
  split at w2
  · rename_i hl
    cases hd with
    | lst g1 g2 =>
      refine ⟨m, _, vs, _, rfl, rfl, e2.hh _ _ a3, Z2.fh _ _ g1, ?_, ?_⟩
      · rw [a4.length, g2.length]
        exact ln_le hl
      · exact w2 σ F2 _ (Z2.chgR h1 h2 (e2.hh _ _ (e1.hh _ _ h3)) a2 ((a4.mono e2.ff).append g2))
  · exact w2.elim
/-- x[j][l] = e -/
theorem rs_putR (i : Nat) {x : Str} {j l : Expr} {fj fl : XE} (h : PE X (.Name x p1) (tVar i)) (hj : RL X cv W j fj) (hl : RL X cv W l fl) (he : RE X cv W e fb) (hx : PlainIx j := by exact fun _ _ => rfl)
    (hs : swapsWithSole [.Subscript (.Subscript (.Name x p1) j p3) l p] e pos.line X.env = pure false := by rfl) (hw : swappedStores [.Subscript (.Subscript (.Name x p1) j p3) l p] e X.env = pure none := by rfl)
    (h1 : List.map (fun x => x.snd) (assignEach [.Subscript (.Subscript (.Name x p1) j p3) l p] X.env) = [assign (.Subscript (.Subscript (.Name x p1) j p3) l p) X.env] := by rfl)
    (hp : ∀ {to ti : TE}, PE X (.Subscript (.Name x p1) j p3) to → PE X l ti → PG X (.Subscript (.Subscript (.Name x p1) j p3) l p) (gSub to ti rSetL) := by exact fun a b => pg_sub a b set_list) :
    RS X cv W (.Assign [.Subscript (.Subscript (.Name x p1) j p3) l p] e pos) (sPutR i fj fl fb) := by
  obtain ⟨t, pe, q⟩ := he
  obtain ⟨tj, pj, qj⟩ := hj
  obtain ⟨tl, pl, ql⟩ := hl
  refine ⟨_, ps_asg pe (hp (pe_ix ix_seq h pj hx) pl) hs hw h1, fun {F0 B ρ σ F H E} Z w => ?_⟩
  refine q Z (wO_bind Z w fun d v F1 H1 e1 Z1 hd w1 => ?_)
  obtain ⟨xss, lp, qs, k1, k2, k3, k4, w2⟩ := own2_at Z1 w1
  refine ⟨_, k2, ?_⟩
  refine qj Z1 (wO_bind Z1 w2 fun z zv F2 H2 e2 Z2 hz w3 => ?_)
  obtain ⟨n, k, row, rfl, a1, a2, w4⟩ := row_at w3
  have hz := hz.int
  subst hz
  obtain ⟨m, vs, b1, b2, b3, b4⟩ := at_refs (k4.ext e2) a1 a2
  refine .inl ⟨lp, qs.map V.ref, n, .ref m, rfl, rfl, .inl (.inl (e2.hh _ _ k3)), b1, ?_⟩
  refine ql Z2 (wO_bind Z2 w4 fun y yv F3 H3 e3 Z3 hy w5 => ?_)
  cases y <;> try exact False.elim w5
  rename_i n'
  have hy := hy.int
  subst hy
  dsimp only at w5
  split at w5
  · rename_i m' hm'
    refine ⟨m, vs, n', m', rfl, rfl, e3.hh _ _ b3, ?_, ?_⟩
    · rw [b4.length]
      exact hm'
    · exact w5 σ F3 _ (Z3.chgR k1 k2 (e3.hh _ _ (e2.hh _ _ k3)) b2 ((b4.mono e3.ff).set m' (((hd.mono e2.ff)).mono e3.ff)))
  · exact w5.elim
/-- y = x[e], another name of an item -/
theorem Rel.setA {K : Frag} {F0 B F H : Hp} {ρ : Rho} {σ : L2.St} (r : Rel K cv F0 B ρ σ F H) {i j k : Nat} {xss : List (List D)} {l q : Addr} {qs : List Addr} (hij : i ≠ j) (h1 : ρ[j]? = some (.own2 xss)) (h2 : σ[j]? = some (some (.ref l))) (h3 : H l = some (.lst (qs.map V.ref))) (h4 : qs[k]? = some q) :
    Rel K cv F0 B (ρ.set i (.al j k)) (σ.set i (some (.ref q))) F H := by
  have z := r.putN (Ext.refl r.fh) i (s := .no) (v := some (.ref q)) trivial [] trivial (fun _ z => by cases z) (fun _ z => by cases z) notAl_no
  obtain ⟨fp, w⟩ := z.own
  refine ⟨z.ex, by have := z.len; rw [List.length_set] at this ⊢; exact this, ⟨fp, fun m s o g1 g2 => ?_, w.sep, w.on⟩, fun a b c yss g1 g2 => ?_⟩
  · by_cases hm : i = m
    · subst hm
      obtain ⟨rfl, _⟩ := set_at g1
      exact ⟨trivial, trivial⟩
    · rw [List.getElem?_set_ne hm] at g1
      exact w.sl m s o (by rw [List.getElem?_set_ne hm]; exact g1) g2
  · have hb : i ≠ b := fun hb => by
      subst hb
      obtain ⟨e, _⟩ := set_at g2
      cases e
    rw [List.getElem?_set_ne hb] at g2
    rw [List.getElem?_set_ne hb]
    by_cases ha : i = a
    · subst ha
      obtain ⟨e, hi⟩ := set_at g1
      cases e
      rw [h1] at g2
      cases g2
      exact ⟨l, qs, q, h2, h3, h4, by rw [List.getElem?_set_self (by rw [← r.len]; exact hi)]⟩
    · rw [List.getElem?_set_ne ha] at g1 ⊢
      exact r.al a b c _ g1 g2
theorem rs_al (i j : Nat) {x y : Str} (h : PE X (.Name x p1) (tVar j)) (he : RL X cv W e fa) (hij : i ≠ j := by decide) (hx : PlainIx e := by exact fun _ _ => rfl)
    (hp : ∀ {t : TE}, PE X (.Subscript (.Name x p1) e p3) t → PS X (.Assign [.Name y p2] (.Subscript (.Name x p1) e p3) pos) (tAsg t (gName i))) :
    RS X cv W (.Assign [.Name y p2] (.Subscript (.Name x p1) e p3) pos) (sAl i j fa) := by
  obtain ⟨t, pe, q⟩ := he
  refine ⟨_, hp (pe_ix ix_seq h pe hx), fun {F0 B ρ σ F H E} Z w => ?_⟩
  obtain ⟨xss, l, qs, h1, h2, h3, h4, w⟩ := own2_at Z w
  refine ⟨_, h2, ?_⟩
  refine q Z (wO_bind Z w fun z zv F1 H1 e1 Z1 hz w1 => ?_)
  obtain ⟨n, k, row, rfl, k1, k2, w1⟩ := row_at w1
  have hz := hz.int
  subst hz
  obtain ⟨m, vs, a1, a2, a3, a4⟩ := at_refs (h4.ext e1) k1 k2
  refine .inl ⟨l, qs.map V.ref, n, .ref m, rfl, rfl, .inl (.inl (e1.hh _ _ h3)), a1, ?_⟩
  exact w1 _ F1 H1 (Z1.setA hij h1 h2 (e1.hh _ _ h3) a2)
/-- y[l] = e, y another name of an item -/
theorem rs_putA (i : Nat) {x : Str} {l : Expr} {fl : XE} (h : PE X (.Name x p1) (tVar i)) (hl : RL X cv W l fl) (he : RE X cv W e fb)
    (hs : swapsWithSole [.Subscript (.Name x p1) l p] e pos.line X.env = pure false := by rfl) (hw : swappedStores [.Subscript (.Name x p1) l p] e X.env = pure none := by rfl)
    (h1 : List.map (fun x => x.snd) (assignEach [.Subscript (.Name x p1) l p] X.env) = [assign (.Subscript (.Name x p1) l p) X.env] := by rfl)
    (hp : ∀ {to ti : TE}, PE X (.Name x p1) to → PE X l ti → PG X (.Subscript (.Name x p1) l p) (gSub to ti rSetL) := by exact fun a b => pg_sub a b set_list) :
    RS X cv W (.Assign [.Subscript (.Name x p1) l p] e pos) (sPutA i fl fb) := by
  obtain ⟨t, pe, q⟩ := he
  obtain ⟨tl, pl, ql⟩ := hl
  refine ⟨_, ps_asg pe (hp h pl) hs hw h1, fun {F0 B ρ σ F H E} Z w => ?_⟩
  refine q Z (wO_bind Z w fun d v F1 H1 e1 Z1 hd w1 => ?_)
  split at w1
  · rename_i j k hi
    obtain ⟨xss, lp, qs, k1, k2, k3, k4, w2⟩ := own2_at Z1 w1
    split at w2
    · rename_i row hrow
      obtain ⟨p', qs', m, b1, b2, b3, b4⟩ := Z1.al i j k xss hi k1
      rw [k2] at b1
      cases b1
      rw [k3] at b2
      simp only [Option.some.injEq, HO.lst.injEq] at b2
      have b2 := refs_inj b2
      subst b2
      obtain ⟨m', vs, c1, c2, c3, c4, c5⟩ := k4.get hrow
      rw [b3] at c1
      cases c1
      refine ⟨_, b4, ?_⟩
      refine ql Z1 (wO_bind Z1 w2 fun y yv F3 H3 e3 Z3 hy w5 => ?_)
      cases y <;> try exact False.elim w5
      rename_i n'
      have hy := hy.int
      subst hy
      dsimp only at w5
      split at w5
      · rename_i mm hm'
        refine ⟨m, vs, n', mm, rfl, rfl, e3.hh _ _ c4, ?_, ?_⟩
        · rw [c5.length]
          exact hm'
        · exact w5 σ F3 _ (Z3.chgR k1 k2 (e3.hh _ _ k3) b3 ((c5.mono e3.ff).set mm (hd.mono e3.ff)))
      · exact w5.elim
    · exact w2.elim
  · exact w1.elim

/-! ### looks -/
theorem row_of {K : Frag} {F0 B F H : Hp} {ρ : Rho} {σ : L2.St} {i : Nat} {α β : Type} {f : List D → Gy.R α} {hold : Hld α β} {Q : β → Hp → Prop} (Z : Rel K cv F0 B ρ σ F H) (w : wR K cv W σ F H (xRowOf ρ i f) hold Q) :
    ∃ (a : Addr) (vs : List V) (ds : List D), σ[i]? = some (some (.ref a)) ∧ H a = some (.lst vs) ∧ vs.length = ds.length ∧ (∀ (m : Nat) (d : D), ds[m]? = some d → ∃ v, vs[m]? = some v ∧ Lk K cv F H v d) ∧ wR K cv W σ F H (f ds) hold Q := by
  have one : ∀ {vs : List V} {ds : List D}, Dts K cv F vs ds → vs.length = ds.length ∧ ∀ (m : Nat) (d : D), ds[m]? = some d → ∃ v, vs[m]? = some v ∧ Lk K cv F H v d := fun {vs ds} r => ⟨r.length, fun m d h => by
    obtain ⟨v, a, b⟩ := r.get h
    exact ⟨v, a, .inl b⟩⟩
  unfold xRowOf at w
  split at w
  · rename_i xss hx
    obtain ⟨o, h1, l, qs, rfl, nd, n1, n2, n3, n4⟩ := Z.slot hx
    refine ⟨l, _, _, h1, n3, by rw [List.length_map, List.length_map, n4.length], fun m d hd => ?_, w⟩
    rw [List.getElem?_map] at hd
    obtain ⟨row, hr, rfl⟩ := Option.map_eq_some_iff.mp hd
    obtain ⟨q, vs, e1, _, _, e4, e5⟩ := n4.get hr
    exact ⟨.ref q, by rw [List.getElem?_map, e1]; rfl, .inr ⟨q, vs, row, rfl, rfl, e4, e5⟩⟩
  · rename_i j k hi
    split at w
    · rename_i xss hx
      split at w
      · rename_i row hrow
        obtain ⟨p', qs', m, b1, b2, b3, b4⟩ := Z.al i j k xss hi hx
        obtain ⟨o, h1, l, qs, rfl, nd, n1, n2, n3, n4⟩ := Z.slot hx
        rw [h1] at b1
        cases b1
        rw [n3] at b2
        simp only [Option.some.injEq, HO.lst.injEq] at b2
        have b2 := refs_inj b2
        subst b2
        obtain ⟨m', vs, c1, c2, c3, c4, c5⟩ := n4.get hrow
        rw [b3] at c1
        cases c1
        exact ⟨m, vs, row, b4, c4, (one c5).1, (one c5).2, w⟩
      · exact w.elim
    · exact w.elim
  · rename_i xs hx
    obtain ⟨o, h1, l, vs, rfl, n1, n2, n3, n4⟩ := Z.slot hx
    exact ⟨l, vs, xs, h1, n3, (one n4).1, (one n4).2, w⟩
  · rename_i xs hx
    obtain ⟨o, h1, v, rfl, h2⟩ := Z.slot hx
    cases h2 with
    | lst h r => exact ⟨_, _, xs, h1, Z.fh _ _ h, (one r).1, (one r).2, w⟩
  · exact w.elim
/-- x[e] -/
theorem rl_row (i : Nat) {x : Str} (h : PE X (.Name x p1) (tVar i)) (he : RL X cv W e fa) (hx : PlainIx e := by exact fun _ _ => rfl) : RL X cv W (.Subscript (.Name x p1) e pos) (xRow i fa) := by
  obtain ⟨t, pe, q⟩ := he
  refine ⟨_, pe_ix ix_seq h pe hx, fun {F0 B ρ σ F H Q} Z w => ?_⟩
  obtain ⟨a, vs, ds, h1, h2, h3, h4, w⟩ := row_of Z w
  refine ⟨_, h1, ?_⟩
  refine q Z (wR_bind an_L w fun z zv F1 H1 e1 hz w1 => ?_)
  cases z <;> try exact False.elim w1
  rename_i n
  have hz := hz.int
  subst hz
  have w1 : wR X.K cv W σ F1 H1 (match getAt ds n with | some d => .ok d | none => .bad) (hL X.K cv) Q := w1
  split at w1
  · rename_i d hd
    unfold getAt at hd
    cases qq : ixAt ds.length n with
    | none =>
      rw [qq] at hd
      cases hd
    | some m =>
      rw [qq] at hd
      obtain ⟨v, k1, k2⟩ := h4 m d hd
      refine .inl ⟨a, vs, n, v, rfl, rfl, .inl (.inl (e1.hh _ _ h2)), ?_, wR_ok e1.fh w1 (k2.ext e1)⟩
      rw [atI_eq]
      unfold getAt
      rw [h3, qq]
      exact k1
  · exact w1.elim
/-- len(x), isinstance(x, list), not x, if x -/
theorem re_lenO (i : Nat) {x : Str} (hm : X.mg "len" = none) (h : PE X (.Name x p1) (tVar i)) (hg : Gl X "len" := by rfl)
    (he : starEach (.Name x p1 :: []) X.env = (false, eval (.Name x p1) X.env) :: starEach [] X.env := by rfl) (hpl : (backTo pos (starEach [] X.env)).any (·.1) = false := by rfl) : RE X cv W (.Call (.Name "len" p) [.Name x p1] [] pos) (xLenO i) := by
  refine ⟨_, pe_callB call_len hg hm PySem.boot_len (pa_cons h pa_nil he) (by decide) (by decide) he hpl, fun {F0 B ρ σ F H Q} Z w => ?_⟩
  obtain ⟨a, vs, ds, h1, h2, h3, h4, w⟩ := row_of Z w
  refine ⟨_, h1, _, _, rfl, .inl ⟨vs, .inl (.inl h2), rfl⟩, ?_⟩
  rw [h3]
  exact wR_ok Z.fh w (.int _)
theorem re_isLO (i : Nat) {x : Str} (hm : X.mg "isinstance" = none) (hv : bootBuiltins "isinstance" = some (.builtin "isinstance")) (hmT : X.mg "list" = none) (hvT : bootBuiltins "list" = some (.type "list")) (h : PE X (.Name x p1) (tVar i)) (hg : Gl X "isinstance" := by rfl) (hgT : Gl X "list" := by rfl)
    (he : starEach (.Name x p1 :: [.Name "list" p2]) X.env = (false, eval (.Name x p1) X.env) :: starEach [.Name "list" p2] X.env := by rfl) (he2 : starEach (.Name "list" p2 :: []) X.env = (false, eval (.Name "list" p2) X.env) :: starEach [] X.env := by rfl) (hpl : (backTo pos (starEach [.Name "list" p2] X.env)).any (·.1) = false := by rfl) :
    RE X cv W (.Call (.Name "isinstance" p) [.Name x p1, .Name "list" p2] [] pos) (xIsLO i) := by
  have pt : PE X (.Name "list" p2) (tC (.ty "list")) := pe_bltn hgT hmT hvT (show RelV (.ty "list") (.type "list") from rfl)
  refine ⟨_, pe_callB call_isi hg hm hv (pa_cons h (pa_cons pt pa_nil he2) he) (by decide) (by decide) he hpl, fun {F0 B ρ σ F H Q} Z w => ?_⟩
  obtain ⟨a, vs, ds, h1, h2, h3, h4, w⟩ := row_of Z w
  exact ⟨_, h1, _, _, _, _, _, rfl, .ty _, .base (.lst h2), kit_ty (kit_lst .list), wR_ok Z.fh w (.bl _)⟩
theorem re_notO (i : Nat) {x : Str} (h : PE X (.Name x p1) (tVar i)) : RE X cv W (.UnaryOp .Not (.Name x p1) pos) (xNotO i) := by
  refine ⟨_, pe_notT h, fun {F0 B ρ σ F H Q} Z w => ?_⟩
  obtain ⟨a, vs, ds, h1, h2, h3, h4, w⟩ := row_of Z w
  refine ⟨_, h1, _, .inl ⟨vs, .inl (.inl h2), rfl⟩, ?_⟩
  have e : vs.isEmpty = ds.isEmpty := by
    cases vs <;> cases ds <;> first | rfl | (simp at h3)
  rw [show (!!vs.isEmpty) = vs.isEmpty from Bool.not_not _, e]
  exact wR_ok Z.fh w (.bl _)
theorem rt_truO (i : Nat) {x : Str} (h : PE X (.Name x p1) (tVar i)) (hp : ∀ whole, isTrue (.Name x p1) X.env whole = (do let v ← whole; standAt (Expr.Name x p1).pos; holding [v] (truthy v)) := by intro _; rfl) : RT X cv W (.Name x p1) (tTruO i) := by
  refine ⟨_, pt_truth h hp, fun {F0 B ρ σ F H Q} Z w => ?_⟩
  obtain ⟨a, vs, ds, h1, h2, h3, h4, w⟩ := row_of Z w
  refine ⟨_, h1, _, .inl ⟨vs, .inl (.inl h2), rfl⟩, ?_⟩
  have e : vs.isEmpty = ds.isEmpty := by
    cases vs <;> cases ds <;> first | rfl | (simp at h3)
  rw [e]
  exact wR_ok Z.fh w rfl
/-- f(.., x, ..), its answer dropped: x is the def's own behind it, too -/
theorem rs_lend (i : Nat) (he : RE X cv W e fa) (hs : swapsWith e none pos.line X.env = pure false := by rfl) : RS X cv W (.Expr e pos) (sLend i fa) := by
  obtain ⟨t, p, q⟩ := he
  refine ⟨_, ps_expr p hs, fun {F0 B ρ σ F H E} Z w => ?_⟩
  have fz : ∃ F', Same F F' ∧ Same F' H ∧ Rel X.K cv F0 B (frzO i ρ) σ F' H := by
    unfold frzO
    split
    · rename_i xs hx
      obtain ⟨p, vs, _, n2, n3, _, Z'⟩ := Z.frz hx
      exact ⟨_, same_upd n2, Z'.fh, Z'⟩
    · rename_i xss hx
      obtain ⟨F', s, Z'⟩ := Z.frz2 hx
      exact ⟨F', s, Z'.fh, Z'⟩
    · exact ⟨F, Same.refl F, Z.fh, Z⟩
  obtain ⟨F', s1, s2, Z'⟩ := fz
  have w : wO X.K cv W F0 B E ((fa (frzO i ρ)).thn (frzO i ρ) fun _ => .nx ρ) := w
  refine q Z' ?_
  cases hz : fa (frzO i ρ) with
  | bad =>
    rw [hz] at w
    exact w
  | err d =>
    rw [hz] at w
    exact fun cls dd F2 H2 e hx => w σ F2 H2 cls dd (Z'.ext e) hx
  | ok d =>
    rw [hz] at w
    exact fun v F2 H2 e hh => w σ F H2 (Z.ext ⟨Same.refl F, Z.fh.trans e.hh, e.hh, fun a o z => .inl ⟨o, z⟩⟩)
/-- one of two new lists -/
theorem rn_if {ga : XT} {na nb : XA} (hc : RT X cv W c ga) (ha : RN X cv W a na) (hb : RN X cv W b nb) : RN X cv W (.IfExp c a b pos) (xIfN ga na nb) := by
  obtain ⟨t, p, q⟩ := hc
  obtain ⟨ta, pa, qa⟩ := ha
  obtain ⟨tb, pb, qb⟩ := hb
  refine ⟨_, pe_ifExp p pa pb, fun {F0 B ρ σ F H Q} R w => ?_⟩
  refine q R (wR_bind an_N w fun d v F1 H1 e1 h1 w1 => ?_)
  cases h1
  cases d with
  | true => exact qa (R.ext e1) w1
  | false => exact qb (R.ext e1) w1
/-- x.append(x.pop(0)) -/
theorem rs_rot (i : Nat) {x : Str} {p4 p5 p6 : Pos} {k : Nat} (h : PE X (.Name x p1) (tVar i)) (h2 : PE X (.Name x p4) (tVar i))
    (hp : ∀ {to : TE} {t : TA}, PE X (.Name x p4) to → PA X [.Constant (.int 0) k p6] t → PE X (.Call (.Attribute (.Name x p4) "pop" p5) [.Constant (.int 0) k p6] [] p3) (tBM X.K "list" rPopAt to t) := by exact fun a b => pe_bm PySem.F.plainAttrs_list PySem.F.slot_list_pop PySem.F.type_list_pop mt_popAt a b)
    (hq : ∀ {to : TE} {t : TA}, PE X (.Name x p1) to → PA X [.Call (.Attribute (.Name x p4) "pop" p5) [.Constant (.int 0) k p6] [] p3] t → PE X (.Call (.Attribute (.Name x p1) "append" p2) [.Call (.Attribute (.Name x p4) "pop" p5) [.Constant (.int 0) k p6] [] p3] [] pos) (tBM X.K "list" rAppend to t) := by exact fun a b => pe_bm PySem.F.plainAttrs_list PySem.F.slot_list_append PySem.F.type_list_append mt_append a b)
    (hs : swapsWith (.Call (.Attribute (.Name x p1) "append" p2) [.Call (.Attribute (.Name x p4) "pop" p5) [.Constant (.int 0) k p6] [] p3] [] pos) none p.line X.env = pure false := by rfl)
    (hst : starEach (.Constant (.int 0) k p6 :: []) X.env = (false, eval (.Constant (.int 0) k p6) X.env) :: starEach [] X.env := by rfl)
    (hst2 : starEach (.Call (.Attribute (.Name x p4) "pop" p5) [.Constant (.int 0) k p6] [] p3 :: []) X.env = (false, eval (.Call (.Attribute (.Name x p4) "pop" p5) [.Constant (.int 0) k p6] [] p3) X.env) :: starEach [] X.env := by rfl) :
    RS X cv W (.Expr (.Call (.Attribute (.Name x p1) "append" p2) [.Call (.Attribute (.Name x p4) "pop" p5) [.Constant (.int 0) k p6] [] p3] [] pos) p) (sRot i) := by
  refine ⟨_, ps_expr (hq h (pa_cons (hp h2 (pa_cons pe_int pa_nil hst)) pa_nil hst2)) hs, fun {F0 B ρ σ F H E} Z w => ?_⟩
  obtain ⟨xs, l, vs, h1, h2, h3, h4, w⟩ := own_at Z w
  refine ⟨_, h2, .inl ⟨rfl, vs, .inl (.inl h3)⟩, ?_⟩
  refine ⟨_, h2, .inl ⟨rfl, vs, .inl (.inl h3)⟩, ?_⟩
  cases xs with
  | nil => exact w.elim
  | cons y r =>
    cases h4 with
    | cons g1 g2 =>
      rename_i v us
      have w : wO X.K cv W F0 B E (if Ln r.length then .nx (ρ.set i (.own (r ++ [y]))) else .bad) := w
      split at w
      · rename_i hl
        have hk : seqIndex? 0 (v :: us).length = some 0 := by
          unfold seqIndex?
          simp
        refine ⟨l, v :: us, 0, 0, v, rfl, rfl, h3, by decide, by decide, hk, rfl, ?_⟩
        refine ⟨l, us, v, rfl, rfl, upd_same, ?_, ?_⟩
        · rw [g2.length]
          exact ln_lt hl
        · have z := Z.chg h1 h2 (g2.append (.cons g1 .nil))
          have e : ∀ (a b : HO), upd (upd H l a) l b = upd H l b := fun a b => by
            funext y
            by_cases hy : y = l
            · subst hy
              rw [upd_same, upd_same]
            · rw [upd_ne hy, upd_ne hy, upd_ne hy]
          show E.nx σ (upd (upd H l _) l _)
          rw [e]
          exact w σ F _ z
      · exact w.elim
/-- a if c else b, as a test -/
theorem pt_ifT {tc ta tb : TT} (hc : PT X c tc) (ha : PT X a ta) (hb : PT X b tb) : PT X (.IfExp c a b pos) (fun σ H Q => tc σ H fun k H1 => if k = true then ta σ H1 Q else tb σ H1 Q) := by
  refine ⟨fun pins s σ H Q I h => ?_⟩
  rw [PySem.isTrue]
  refine wpAny_bind (thn (hc.run pins s σ H _ I h) fun k s1 ⟨H1, I1, q1⟩ => ?_)
  cases k with
  | true => exact ha.run pins s1 σ H1 Q I1 q1
  | false => exact hb.run pins s1 σ H1 Q I1 q1
theorem rt_if {gc ga gb : XT} (hc : RT X cv W c gc) (ha : RT X cv W a ga) (hb : RT X cv W b gb) : RT X cv W (.IfExp c a b pos) (tIfT gc ga gb) := by
  obtain ⟨t, p, q⟩ := hc
  obtain ⟨ta, pa, qa⟩ := ha
  obtain ⟨tb, pb, qb⟩ := hb
  refine ⟨_, pt_ifT p pa pb, fun {F0 B ρ σ F H Q} R w => ?_⟩
  refine q R (wR_bind an_B w fun d v F1 H1 e1 h1 w1 => ?_)
  cases h1
  cases d with
  | true => exact qa (R.ext e1) w1
  | false => exact qb (R.ext e1) w1
end
end Gy

end

section
set_option Elab.async false
set_option linter.all false
set_option maxRecDepth 100000
set_option maxHeartbeats 4000000
/-! GyO: written tables of texts; sets of whole numbers; loops that append to each item. -/
namespace Gy
open PySem PySem.Spec PyProof.Rows L2

/-! ### written tables -/
inductive Ents (X : Cx) : List (Option Expr) → List Expr → List (Str × D) → Prop
  | nil : Ents X [] [] []
  | cons {k v : Expr} {ks : List (Option Expr)} {vs : List Expr} {t : List (Str × D)} {x : Str} {d : D} : PE X k (tC (.str x)) → PE X v (tC (dV d)) → dFlat d = true → Ents X ks vs t → Ents X (some k :: ks) (v :: vs) ((x, d) :: t)
def entT (t : List (Str × D)) : List (TE × TE) := t.map fun p => (tC (.str p.1), tC (dV p.2))
theorem Ents.pps {X : Cx} {pos : Pos} : ∀ {ks : List (Option Expr)} {vs : List Expr} {t : List (Str × D)}, Ents X ks vs t → PPs X pos ks vs (entT t)
  | _, _, _, .nil => pps_nil
  | _, _, _, .cons hk hv _ r => pps_cons hk hv (Ents.pps r)
theorem Ents.flat {X : Cx} : ∀ {ks : List (Option Expr)} {vs : List Expr} {t : List (Str × D)}, Ents X ks vs t → ∀ p ∈ t, dFlat p.2 = true
  | _, _, _, .nil => fun p h => by cases h
  | _, _, _, .cons _ _ f r => fun p h => by
    rcases List.mem_cons.mp h with rfl | h
    · exact f
    · exact Ents.flat r p h
theorem ent_str {X : Cx} {x y : Str} {j} {pos : Pos} (h : x = y) : PE X (.Constant (.str x) j pos) (tC (.str y)) := by
  subst h
  exact pe_str
theorem tPairs_ent {σ : L2.St} {H : Hp} {Q : List (V × V) → Hp → Prop} : ∀ {t : List (Str × D)}, Q (t.map fun p => (V.str p.1, dV p.2)) H → tPairs (entT t) σ H Q
  | [], h => h
  | p :: r, h => tPairs_ent (t := r) (Q := fun ps H3 => Q ((V.str p.1, dV p.2) :: ps) H3) h
theorem merge_new : ∀ (more acc : List (L2.Key × V)), (acc ++ more).map (·.1) |>.Nodup → mergeK acc more = acc ++ more
  | [], acc, _ => by rw [List.append_nil]; rfl
  | kv :: r, acc, h => by
    have h2 : ((acc ++ [kv]) ++ r).map (·.1) |>.Nodup := by rw [List.append_assoc]; exact h
    have ih := merge_new r (acc ++ [kv]) h2
    have no : (acc.any fun q => decide (q.1 = kv.1)) = false := by
      cases e : acc.any fun q => decide (q.1 = kv.1) with
      | false => rfl
      | true =>
        obtain ⟨q, hq, he⟩ := List.any_eq_true.mp e
        rw [List.map_append, List.nodup_append] at h
        exact absurd (by simpa using he) (h.2.2 q.1 (List.mem_map.mpr ⟨q, hq, rfl⟩) kv.1 (by simp))
    show mergeK (putK acc kv.1 kv.2) r = _
    unfold putK
    rw [no, if_neg Bool.false_ne_true, ih, List.append_assoc]
    rfl
theorem val_look (z : Str) : ∀ t : List (Str × D), valV (t.map fun p => ((Sum.inr p.1 : L2.Key), dV p.2)) (Sum.inr z) = (t.lookup z).map dV
  | [] => rfl
  | p :: r => by
    rw [List.map_cons, List.lookup_cons]
    by_cases e : z = p.1
    · subst e
      rw [valV_pos rfl]
      simp
    · rw [valV_neg (by simpa using fun y => e y.symm), val_look z r]
      rw [show (z == p.1) = false from by simpa using e]
theorem look_flat {t : List (Str × D)} (f : ∀ p ∈ t, dFlat p.2 = true) {z : Str} {d : D} (h : t.lookup z = some d) : dFlat d = true := by
  induction t with
  | nil => cases h
  | cons p r ih =>
    rw [List.lookup_cons] at h
    split at h
    · cases h
      exact f p List.mem_cons_self
    · exact ih (fun q hq => f q (List.mem_cons_of_mem _ hq)) h
section
variable {X : Cx} {cv : Nat → Addr} {W : WX} {a b c e : Expr} {fa fb fc : XE} {pos p p1 p2 p3 : Pos} {ks : List (Option Expr)} {vs : List Expr} {t : List (Str × D)}
/-- the table as it stands -/
theorem disp_of {F H : Hp} {σ : L2.St} {Q : VK} (hn : (t.map (·.1)).Nodup) (hl : t.length ≤ 15) (s : Same F H)
    (k : ∀ p H', Ext F H F H' → F p = none → H' p = some (.dK (t.map fun p => ((Sum.inr p.1 : L2.Key), dV p.2))) → Q (.ref p) H') : tDisp (entT t) σ H Q := by
  intro p np
  refine tPairs_ent ⟨upd_same, t.map fun p => ((Sum.inr p.1 : L2.Key), dV p.2), by rw [List.map_map]; rfl, by rw [List.length_map]; exact hl, ?_⟩
  have nd : ((t.map fun p => ((Sum.inr p.1 : L2.Key), dV p.2)).map (·.1)).Nodup := by
    rw [List.map_map]
    have : ((fun x => x.1) ∘ fun p : Str × D => ((Sum.inr p.1 : L2.Key), dV p.2)) = (fun x => Sum.inr x) ∘ fun p : Str × D => p.1 := rfl
    rw [this, ← List.map_map]
    exact List.Pairwise.map _ (fun a b h e => h (by simpa using e)) hn
  rw [merge_new _ [] (by simpa using nd), List.nil_append]
  refine k p _ ⟨Same.refl F, fun b u e => ?_, fun b u e => ?_, fun b u e => .inl ⟨u, e⟩⟩ (s.free np) upd_same
  · rw [upd_ne (ne_of_none e (s.free np)), upd_ne (ne_of_none e (s.free np))]
    exact s _ _ e
  · rw [upd_ne (ne_of_none e np), upd_ne (ne_of_none e np)]
    exact e
/-- {..}.get(x, y) -/
theorem re_get2L {d : D} {ap : Pos} (hu : X.A.units + 64 < cLine) (h : Ents X ks vs t) (hn : (t.map (·.1)).Nodup) (ha : RL X cv W a fa) (hb : PE X b (tC (dV d))) (fd : dFlat d = true) (m : M2 X (.Dict ks vs p1) "get" ap a b pos)
    (hall : ks.all (·.isSome) = true := by rfl) (hlen : ks.length = vs.length := by rfl) (h0 : ks ≠ [] := by simp) (h15 : ks.length ≤ 15 := by decide) (ht : t.length ≤ 15 := by decide) :
    RE X cv W (.Call (.Attribute (.Dict ks vs p1) "get" ap) [a, b] [] pos) (xUn (dGet2L t d) fa) := by
  obtain ⟨ta, pa, qa⟩ := ha
  refine ⟨_, pe_dget2 (by omega) (pe_disp h.pps hall hlen h0 h15) pa hb m, fun {F0 B ρ σ F H Q} Z w => ?_⟩
  refine disp_of hn ht Z.fh fun q H1 e1 nq hq => ⟨q, rfl, .inl ⟨_, .inl hq⟩, ?_⟩
  refine qa (Z.ext e1) (wR_bind an_D (wR.mono an_D e1 w) fun dd v F2 H2 e2 h2 w2 => ?_)
  cases dd <;> try exact False.elim w2
  rename_i z
  have ez := h2.str
  subst ez
  refine ⟨_, DGet.k (k := Sum.inr z) (e2.hh _ _ hq), ?_⟩
  rw [val_look]
  have w2 : wR X.K cv W σ F2 H2 (.ok ((t.lookup z).getD d)) (hD X.K cv) Q := w2
  cases hz : t.lookup z with
  | none =>
    rw [hz] at w2
    exact wR_ok e2.fh w2 (flat_dV fd)
  | some d' =>
    rw [hz] at w2
    exact wR_ok e2.fh w2 (flat_dV (look_flat h.flat hz))
/-- {..}[x] -/
theorem re_atL (hu : X.A.units + 64 < cLine) (h : Ents X ks vs t) (hn : (t.map (·.1)).Nodup) (ha : RL X cv W a fa) (hs : NoSl a := by exact fun _ _ => rfl)
    (hall : ks.all (·.isSome) = true := by rfl) (hlen : ks.length = vs.length := by rfl) (h0 : ks ≠ [] := by simp) (h15 : ks.length ≤ 15 := by decide) (ht : t.length ≤ 15 := by decide) :
    RE X cv W (.Subscript (.Dict ks vs p1) a pos) (xUn (dAtL t) fa) := by
  obtain ⟨ta, pa, qa⟩ := ha
  refine ⟨_, pe_dget (by omega) (pe_disp h.pps hall hlen h0 h15) pa hs, fun {F0 B ρ σ F H Q} Z w => ?_⟩
  refine disp_of hn ht Z.fh fun q H1 e1 nq hq => ?_
  refine qa (Z.ext e1) (wR_bind an_D (wR.mono an_D e1 w) fun dd v F2 H2 e2 h2 w2 => ?_)
  cases dd <;> try exact False.elim w2
  rename_i z
  have ez := h2.str
  subst ez
  have w2 : wR X.K cv W σ F2 H2 (match t.lookup z with | some d => .ok d | none => .bad) (hD X.K cv) Q := w2
  split at w2
  · rename_i d' hz
    refine ⟨q, dV d', rfl, ?_, wR_ok e2.fh w2 (flat_dV (look_flat h.flat hz))⟩
    have g := DGet.k (k := Sum.inr z) (e2.hh _ _ hq)
    rw [val_look, hz] at g
    exact g
  · exact w2.elim
end
end Gy

end

section
set_option Elab.async false
set_option linter.all false
set_option maxRecDepth 100000
set_option maxHeartbeats 4000000
/-! GyP: try: body / except X as e: kept = e, the error kept as a value behind it; isinstance of such a value. -/
namespace Gy
open PySem PySem.Spec PyProof.Rows L2

section
variable {X : Cx} {pp : List (Addr × Obj)} {τ : L2.St} {G : Hp} {t : Shared}
theorem inv_keepPin {a : Addr} {q : Addr × Obj} {pn' : List (Addr × Obj)} (I : Inv (X.suite a (q :: (X.pn ++ pp))) pn' τ G t) (ok : X.Ok) : Inv X (q :: pp) τ G t :=
  ⟨ok, I.os, I.bare, I.base, I.loc, I.cell, I.free, I.freeC, fun p hp => I.pin p (by
    refine List.mem_append_left _ ?_
    rcases List.mem_append.mp hp with z | z
    · exact List.mem_cons_of_mem _ (List.mem_append_left _ z)
    · rcases List.mem_cons.mp z with e | z
      · rw [e]
        exact List.mem_cons_self
      · exact List.mem_cons_of_mem _ (List.mem_append_right _ z)), I.hok, I.len⟩
/-- a pinned error is tracked from here on -/
theorem inv_track {a : Addr} {oe : Obj} {cls : Value} {d : Option Addr} (I : Inv X ((a, oe) :: pp) τ G t) (hz : Zc cls d oe) (hd : ∃ us, oe.data = .fields us) (hnew : a ∉ X.ex → X.s_0.heap.get? a = none) (hpn : ∀ p ∈ X.pn ++ pp, p.1 ≠ a) : Inv X pp τ (upd G a (ExH cls d a)) t := by
  obtain ⟨hget, hfree, hloc, hfs, hcell⟩ := I.pin (a, oe) (List.mem_append_right _ List.mem_cons_self)
  have hget : t.heap.get? a = some oe := hget
  have hfree : G a = none := hfree
  obtain ⟨us, hd⟩ := hd
  have old : ∀ b o, X.s_0.heap.get? b = some o → b ∉ X.ex → b ≠ a := fun b o e hx z => by
    subst z
    rw [hnew hx] at e
    cases e
  have keepG : ∀ {b : Addr} {o : HO}, G b = some o → upd G a (ExH cls d a) b = some o := fun {b o} e => by
    rw [upd_ne (ne_of_none e hfree)]
    exact e
  refine ⟨I.ok, I.os, I.bare, ⟨I.base.keep, I.base.slot, fun b o e n hx => ?_, I.base.there, fun b xs e => keepG (I.base.tups b xs e), fun b o u e => keepG (I.base.frzs b o u e), fun b ps e => ?_⟩, I.loc, I.cell, ?_, fun x c e => ?_, fun p hp => ?_, fun b o e => ?_, I.len⟩
  · rw [upd_ne (old b o e hx)]
    exact I.base.free b o e n hx
  · obtain ⟨m, z⟩ := I.base.tbls b ps e
    exact ⟨m, keepG z⟩
  · rw [upd_ne (Ne.symm hloc)]
    exact I.free
  · rw [upd_ne ?_]
    · exact I.freeC x c e
    · intro z
      subst z
      obtain ⟨v, o, ho, hv⟩ := I.cell x c e
      rw [hget] at ho
      cases ho
      exact hcell _ hv
  · have hp' : p ∈ X.pn ++ (a, oe) :: pp := by
      rcases List.mem_append.mp hp with z | z
      · exact List.mem_append_left _ z
      · exact List.mem_append_right _ (List.mem_cons_of_mem _ z)
    obtain ⟨e1, e2, e3, e4, e5⟩ := I.pin p hp'
    exact ⟨e1, by rw [upd_ne (hpn p hp)]; exact e2, e3, e4, e5⟩
  · by_cases hb : b = a
    · subst hb
      rw [upd_same] at e
      cases e
      exact ⟨⟨oe, us, hget, hz, hd⟩, ⟨oe, hget⟩, fun _ _ ⟨o, v, q, r⟩ k => ⟨o, v, k o q, r⟩⟩
    · rw [upd_ne hb] at e
      exact (I.hok b o e).stay (fun c u _ q => q) (fun c q => keepG q) fun c xs q => keepG q
end
/-- what the clause wishes of the body's error -/
def wKeep (K : Frag) (c : Value) (i j : Nat) (Wo : WX) (D : Ends) : WX := fun cls d σ H =>
  ∃ b, PySem.W.exmOne K cls c = some b ∧ (b = true → ∀ a, H a = none → D.nx (((σ.set i (some (.ref a))).set j (some (.ref a))).set i none) (upd H a (ExH cls d a))) ∧ (b = false → Wo cls d σ H)
section
variable {X : Cx} {x n k : Str} {c : Value} {i j : Nat} {body : List Stmt} {np kp ep ap hpos pos : Pos} {tb : WX → TS} {Wo : WX}
theorem ps_keep (hst : X.stack = X.env :: X.outer) (hfr : X.env.frame = some X.env.locals) (hN : X.N.Nodup) (hi : X.N[i]? = some n) (hli : X.env.kindOf n = some .local) (hj : X.N[j]? = some k) (hlj : X.env.kindOf k = some .local) (hij : i ≠ j)
    (hdn : (n == ("__debug__" : Str)) = false) (hcn : (n == ("__classdict__" : Str)) = false) (hvn : Vis X.env.scope n) (hll : X.env.scope.names.lookup k = some .local) (hc : Names X x c) (tk : Takes X Wo)
    (hsw : ∀ a pn, swapsWith (.Name n ep) (some (.Name k kp)) ap.line (X.suite a pn).env = pure false)
    (hb : ∀ (W : WX) (pn : List (Addr × Obj)) (xe : Value → Shared → Prop), Takes (X.tr pn xe) W → PassesOwn (model X.prog X.w) X.A X.env xe → PSs (X.tr pn xe) body (tb W)) :
    PS X (.Try body [.ExceptHandler (some (.Name x np)) (some n) [.Assign [.Name k kp] (.Name n ep) ap] hpos] [] [] pos) (fun D σ H => tb (wKeep X.K c i j Wo D) D σ H) := by
  refine ⟨fun pp t τ G D I hyp => ?_⟩
  have ok := I.ok
  have hfs : X.A.frames = some (X.env :: X.outer) := by rw [ok.frames, hst]
  refine wpAny_Try_except ?_
  refine wpAny_mono ((hb (wKeep X.K c i j Wo D) (X.pn ++ pp) (fun e t1 => wpAny (model X.prog X.w) X.A (noteFrame e X.env) (fun _ t2 => wpAny (model X.prog X.w) X.A (setFlight e none) (fun _ t3 =>
    wpAny (model X.prog X.w) X.A (handleBy e X.env [.ExceptHandler (some (.Name x np)) (some n) [.Assign [.Name k kp] (.Name n ep) ap] hpos]) (SP X pp D) X.xe t3) X.xe t2) X.xe t1) (fun u t' err => ?_) PassesOwn.looking).run [] t τ G D (I.toTry _) hyp) (fun f t1 fine => ?_) (fun e t1 z => z)
  · obtain ⟨a, B, tI, pp', τ', G', cls, d, rfl, J0, nb, up, sky, na, osE, ag, b, hb1, hyes, hno⟩ := err
    have J : Inv X pp τ' G' tI := J0.ofTry ok
    have sky2 : Sky B (X.env :: X.outer) a (Zc cls d) X.env.locals t'.heap := by rw [← hst]; exact sky
    show wpAny (model X.prog X.w) X.A (noteFrame (.ref a) X.env) _ _ _
    refine Sky.land Zc.steady hfs hfr sky2 fun h3 fl3 up3 => ?_
    have J3 : Inv X pp τ' G' { t' with heap := h3 } := J.landed nb fl3.1 (up.trans up3) osE ag
    obtain ⟨oe3, us3, he3, hz3, hd3⟩ := fl3.there
    have offFrames : a ∉ frs (X.env :: X.outer) := fun hm => by
      obtain ⟨_, o', e', hnf⟩ := fl3.2.2.1.mem hm
      rw [he3] at e'
      cases e'
      exact hnf _ hd3
    have nLoc : a ≠ X.env.locals := fun z => offFrames (List.mem_filterMap.mpr ⟨X.env, List.mem_cons_self, by rw [hfr, z]⟩)
    have nFs : a ∉ X.fs := fun hm => by
      obtain ⟨e, he, q⟩ := List.mem_filterMap.mp hm
      exact offFrames (List.mem_filterMap.mpr ⟨e, List.mem_cons_of_mem _ he, q⟩)
    -- the error is no object of the state that raised it
    have fresh : tI.heap.get? a = none := by
      cases e : tI.heap.get? a with
      | none => rfl
      | some o =>
        have z := nb a o e (by rw [hst]; exact offFrames)
        rw [fl3.2.1] at z
        cases z
    have fresh0 : a ∉ X.ex → X.s_0.heap.get? a = none := fun hx => by
      cases e : X.s_0.heap.get? a with
      | none => rfl
      | some o =>
        obtain ⟨o', z⟩ := J.base.there a o e hx
        rw [fresh] at z
        cases z
    have apart : ∀ p ∈ X.pn ++ pp, p.1 ≠ a := fun p hp z => by
      have e := (J.pin p hp).1
      rw [z, fresh] at e
      cases e
    have S3 := J3.suite he3 hd3 na nLoc nFs
    refine wpAny_handleBy_cons (codeAny_handlers_test ?_) (by intro q; cases q)
    have LT : PySem.W.Looks (model X.prog X.w) h3 (typeOf (.ref a)) cls := fun A Q E s k q => wpAny_typeOf_ref (k _ _ he3) (by rw [hz3.1]; exact q)
    have LM := PySem.W.exm_one (M := model X.prog X.w) (J3.kIn) LT hb1
    have looked : ∀ {Q : Value → Shared → Prop} {E : Value → Shared → Prop}, Q c { t' with heap := h3 } → wpAny (model X.prog X.w) (X.A.mark (some (.ref a))) (eval (.Name x np) X.env) Q E { t' with heap := h3 } := fun {Q E} q => by
      obtain ⟨hg, hdbg, hm | ⟨hm, hv, hnn⟩⟩ := hc
      · exact ld_glob (X := X.suite a ((a, oe3) :: (X.pn ++ pp))) S3 hg hm q hdbg
      · exact ld_blt (X := X.suite a ((a, oe3) :: (X.pn ++ pp))) S3 hg hm hv q hnn hdbg
    refine looked (LM.here ?_)
    cases b with
    | true =>
      refine codeAny_handlers_suite_as ?_
      refine HandSPX.lands_againZ fl3 fun h4 fl4 up4 => ?_
      have J4 : Inv X pp τ' G' { t' with heap := h4 } := J.landed nb fl4.1 ((up.trans up3).trans up4) osE ag
      obtain ⟨oe4, us4, he4, hz4, hd4⟩ := fl4.there
      have S4 := J4.suite he4 hd4 na nLoc nFs
      refine store_ok (X := X.suite a ((a, oe4) :: (X.pn ++ pp))) (v := .ref a) S4 hN hi (.inl hli) rfl (fun t5 S5 => ?_) (.inr hli)
      have pk : PSs (X.suite a ((a, oe4) :: (X.pn ++ pp))) [.Assign [.Name k kp] (.Name n ep) ap] (tAsg (tVar i) (gName j)) :=
        pss_one (ps_set hN hj (.inl hlj) (pe_var hi hvn hdn hcn) (hsw a _) (.inr hll))
      have hlen : i < τ'.length := by
        rw [J.len]
        exact (List.getElem?_eq_some_iff.mp hi).1
      refine wpAny_mono (pk.run [] t5 _ G' { nx := fun σ6 H6 => σ6 = (τ'.set i (some (.ref a))).set j (some (.ref a)) ∧ H6 = G', rt := fun _ _ => False, bk := fun _ _ => False, ct := fun _ _ => False } S5 ⟨.ref a, by rw [List.getElem?_set_self hlen], rfl, rfl⟩) (fun f t6 res => ?_) (fun _ _ z => False.elim z)
      cases f with
      | next =>
        obtain ⟨σ6, H6, S6, rfl, rfl⟩ := res
        exact gone_ok (inv_keepPin S6 ok) hN hi hli fun t7 J7 => ⟨_, _, inv_track J7 hz4 ⟨_, hd4⟩ fresh0 apart, hyes rfl a na⟩
      | brk => obtain ⟨_, _, _, z⟩ := res; exact z.elim
      | cont => obtain ⟨_, _, _, z⟩ := res; exact z.elim
      | ret u => obtain ⟨_, _, _, _, _, z⟩ := res; exact z.elim
    | false =>
      show wpAny _ X.A (handleBy (.ref a) X.env []) _ _ _
      refine wpAny_handleBy_nil ?_
      obtain ⟨_, _, _, oe, us, T, oT, _, he, hz, hd, h1, hr⟩ := id fl3
      unfold PySem.passOn
      refine wpAny_bind (wpAny_field he hd h1 ?_)
      rw [if_neg (show ¬ ((Value.ref T == Value.none) = true) from by simp)]
      have rethrown : wpAny (model X.prog X.w) X.A (setFlight (.ref a) X.env.frame) (fun _ t4 => wpAny (model X.prog X.w) X.A (throw (.ref a) : Sem Flow) (SP X pp D) X.xe t4) X.xe { t' with heap := h3 } := by
        rw [hfr]
        refine HandSPX.setFlight_upZ fl3 fun h4 hh4 up4 => wpAny_throw (tk _ _ ?_)
        exact ⟨a, B, tI, pp, τ', G', cls, d, rfl, J, nb, (up.trans up3).trans up4, .inr (.inr (by rw [hst]; exact hh4)), na, osE, ag, hno rfl⟩
      first
        | exact wpAny_bind (wpAny_pure (wpAny_bind rethrown))
        | exact wpAny_bind rethrown
  · cases f with
    | next =>
      obtain ⟨τ', G', J', q⟩ := fine
      exact wpAny_execs_nil ⟨τ', G', J'.ofTry ok, q⟩
    | brk =>
      obtain ⟨τ', G', J', q⟩ := fine
      exact ⟨τ', G', J'.ofTry ok, q⟩
    | cont =>
      obtain ⟨τ', G', J', q⟩ := fine
      exact ⟨τ', G', J'.ofTry ok, q⟩
    | ret u =>
      obtain ⟨v, τ', G', J', r, q⟩ := fine
      exact ⟨v, τ', G', J'.ofTry ok, r, q⟩
end
def canS (K : Frag) (cv : Nat → Addr) (W : WX) (f : XS) : TS := fun E σ H => ∃ F0 B ρ F, Rel K cv F0 B ρ σ F H ∧ wO K cv W F0 B E (f ρ)
theorem can_s {X : Cx} {cv : Nat → Addr} {W : WX} {sts : List Stmt} {f : XS} (h : RSs X cv W sts f) : PSs X sts (canS X.K cv W f) := by
  obtain ⟨t, p, q⟩ := h
  exact ⟨fun pins s σ H E I ⟨F0, B, ρ, F, Z, w⟩ => p.run pins s σ H E I (q Z w)⟩
section
variable {X : Cx} {cv : Nat → Addr} {x n k : Str} {i j : Nat} {body : List Stmt} {np kp ep ap hpos pos : Pos} {Wo : WX} {f : XS} {ks : List Nat}
theorem rs_keep (i j : Nat) (T : ∀ k ∈ ks, KEx X.K cv k) (hm : X.mg x = some (.ref (cv 6))) (tk : Takes X Wo) (hN : X.N.Nodup)
    (hb : ∀ (W : WX) (pn : List (Addr × Obj)) (xe : Value → Shared → Prop), Takes (X.tr pn xe) W → PassesOwn (model X.prog X.w) X.A X.env xe → RSs (X.tr pn xe) cv W body f)
    (hg : Gl X x := by rfl) (hst : X.stack = X.env :: X.outer := by rfl) (hfr : X.env.frame = some X.env.locals := by rfl) (hi : X.N[i]? = some n := by rfl) (hli : X.env.kindOf n = some .local := by rfl) (hj : X.N[j]? = some k := by rfl) (hlj : X.env.kindOf k = some .local := by rfl) (hij : i ≠ j := by decide)
    (hdx : (x == ("__debug__" : Str)) = false := by decide) (hdn : (n == ("__debug__" : Str)) = false := by decide) (hcn : (n == ("__classdict__" : Str)) = false := by decide) (hvn : Vis X.env.scope n := by first | exact Or.inl rfl | exact Or.inr rfl) (hll : X.env.scope.names.lookup k = some .local := by rfl)
    (hsw : ∀ a pn, swapsWith (.Name n ep) (some (.Name k kp)) ap.line (X.suite a pn).env = pure false := by intro _ _; rfl) :
    RS X cv Wo (.Try body [.ExceptHandler (some (.Name x np)) (some n) [.Assign [.Name k kp] (.Name n ep) ap] hpos] [] [] pos) (sKeep ks i j f) := by
  refine ⟨_, ps_keep (c := .ref (cv 6)) (tb := fun W => canS X.K cv W f) (Wo := Wo) hst hfr hN hi hli hj hlj hij hdn hcn hvn hll ⟨hg, hdx, .inl hm⟩ tk hsw (fun W pn xe t p => can_s (hb W pn xe t p)), fun {F0 B ρ σ F H E} Z w => ⟨F0, B, ρ, F, Z, ?_⟩⟩
  unfold sKeep at w
  cases hf : f ρ with
  | nx ρ' => rw [hf] at w; exact w
  | rt s => rw [hf] at w; exact w
  | bk ρ' => rw [hf] at w; exact w
  | ct ρ' => rw [hf] at w; exact w
  | bad => rw [hf] at w; exact w
  | er e ρ' =>
    rw [hf] at w
    cases e with
    | exc m xs =>
      by_cases hk : m ∈ ks
      · have w : wO X.K cv Wo F0 B E (if m ∈ ks then .nx (((ρ'.set i (.dat (.exc m xs))).set j (.dat (.exc m xs))).set i .no) else .bad) := w
        rw [if_pos hk] at w
        have kx := T m hk
        intro σ' F' H' cls d Z' hx
        have key : cls = .ref (cv m) ∧ ∀ a, H' a = none → Dt X.K cv (upd F' a (ExH cls d a)) (.ref a) (.exc m xs) := by
          unfold ExcOk at hx
          split at hx
          · rename_i m' cls' d' he
            cases he
            obtain ⟨rfl, rfl⟩ := hx
            exact ⟨rfl, fun a _ => .exc0 kx upd_same⟩
          · rename_i m' n' x' cls' d' he
            cases he
            obtain ⟨rfl, dd, v, rfl, h1, h2⟩ := hx
            refine ⟨rfl, fun a ha => .exc1 kx upd_same ?_ (h2.mono (same_upd (none_f Z'.fh ha)))⟩
            rw [upd_ne (ne_of_none h1 (none_f Z'.fh ha))]
            exact h1
          · exact hx.elim
        refine ⟨true, by rw [key.1]; exact kx.ex, fun _ a ha => ?_, fun z => by cases z⟩
        have Z2 := Z'.ext (Ext.new (o := ExH cls d a) Z'.fh ha)
        exact w _ _ _ (((Z2.setD i (key.2 a ha)).setD j (key.2 a ha)).setN i none)
      · have w : wO X.K cv Wo F0 B E (if m ∈ ks then .nx (((ρ'.set i (.dat (.exc m xs))).set j (.dat (.exc m xs))).set i .no) else .bad) := w
        rw [if_neg hk] at w
        exact w.elim
    | _ => exact w.elim
end
/-! ### isinstance of an error -/
def rIsX (K : Frag) : List V → Hp → VK → Prop := fun xs H Q => ∃ (a C : Addr) (d : Option Addr) (c : V) (u : Value) (b : Bool), xs = [.ref a, c] ∧ ClsV c u ∧ H a = some (ExH (.ref C) d a) ∧ (∀ dd, d = some dd → ∃ fs, H dd = some (.xd fs)) ∧
  KC K C ∧ PySem.W.kitOne K (.ref C) u = some b ∧ Q (.bl b) H
theorem call_isx {X : Cx} : CallR X (.builtin "isinstance") (rIsX X.K) := by
  intro pins s σ H xs us Q I r h
  obtain ⟨a, C, d, c, u, b, rfl, k, ha, hdd, kc, e, q⟩ := h
  obtain ⟨u1, u2, rfl, r1, r2⟩ := vals2 r
  have e2 := k.eq r2
  subst e2
  cases (show u1 = Value.ref a from r1)
  obtain ⟨⟨oe, vs, ho, ⟨hz1, hz2⟩, hd⟩, _, _⟩ := (show ObjOk X.prog X.w H s.heap a (ExH (.ref C) d a) from I.hok a _ ha)
  have J : ∃ od, PySem.W.InstAt s.heap a oe C od := by
    obtain ⟨oc, odx, oda, osl⟩ := oe
    dsimp only at hz1 hz2 hd
    subst hz1 hz2 hd
    cases odx with
    | none => exact ⟨none, ho, rfl, rfl, trivial⟩
    | some dd =>
      obtain ⟨fs, hx⟩ := hdd dd rfl
      obtain ⟨mA, ⟨o, es, ep, hg, r⟩, _⟩ := (show ObjOk X.prog X.w H s.heap dd (.xd fs) from I.hok dd _ hx)
      exact ⟨some o, ho, rfl, rfl, hg⟩
  obtain ⟨od, J⟩ := J
  exact PySem.W.kia_one (PySem.W.kitx_exc (x := a) (ox := oe) (od := od) kc.cl kc.ga kc.gt kc.sb kc.ca kc.sp kc.tk kc.mr) I.kIn J e (fun z => nomatch z) fun tk => ⟨.bl b, H, I.tok tk, rfl, q⟩
section
variable {X : Cx} {cv : Nat → Addr} {W : WX} {a : Expr} {fa : XE} {pos p p2 : Pos} {x : Str}
theorem re_isx (m : Nat) (hm : X.mg "isinstance" = none) (hv : bootBuiltins "isinstance" = some (.builtin "isinstance")) (hmT : X.mg x = some (.ref (cv m))) (ha : RL X cv W a fa) (h6 : m < 6 := by decide) (hg : Gl X "isinstance" := by rfl) (hgT : Gl X x := by rfl) (hdT : (x == ("__debug__" : Str)) = false := by decide)
    (he : starEach (a :: [.Name x p2]) X.env = (false, eval a X.env) :: starEach [.Name x p2] X.env := by rfl) (he2 : starEach (.Name x p2 :: []) X.env = (false, eval (.Name x p2) X.env) :: starEach [] X.env := by rfl) (hpl : (backTo pos (starEach [.Name x p2] X.env)).any (·.1) = false := by rfl) :
    RE X cv W (.Call (.Name "isinstance" p) [a, .Name x p2] [] pos) (xUn (bIsX m) fa) := by
  obtain ⟨ta, pa, q⟩ := ha
  have pt : PE X (.Name x p2) (tC (.ref (cv m))) := pe_glob hgT hmT (show RelV (.ref (cv m)) (.ref (cv m)) from rfl) hdT
  refine ⟨_, pe_callB call_isx hg hm hv (pa_cons pa (pa_cons pt pa_nil he2) he) (by decide) (by decide) he hpl, fun {F0 B ρ σ F H Q} Z w => ?_⟩
  refine q Z (wR_bind an_D w fun d v F1 H1 e1 h1 w1 => ?_)
  show rIsX X.K [v, .ref (cv m)] H1 Q
  unfold bIsX at w1
  rcases h1 with h1 | ⟨l, vs, ds, rfl, rfl, k1, k2⟩
  · cases h1 <;> try exact False.elim w1
    · rename_i kx k1
      exact ⟨_, _, _, _, _, _, rfl, .own _, e1.fh _ _ k1, fun dd z => (by cases z), kx.c, kx.is m h6, wR_ok e1.fh w1 (.bl _)⟩
    · rename_i kx k1 k2 k3
      exact ⟨_, _, _, _, _, _, rfl, .own _, e1.fh _ _ k1, fun dd z => (by cases z; exact ⟨_, e1.fh _ _ k2⟩), kx.c, kx.is m h6, wR_ok e1.fh w1 (.bl _)⟩
  · exact w1.elim
theorem re_isv (hm : X.mg "isinstance" = none) (hv : bootBuiltins "isinstance" = some (.builtin "isinstance")) (hmT : X.mg "ValueError" = none) (hvT : bootBuiltins "ValueError" = some (.type "ValueError")) (ha : RL X cv W a fa) (hg : Gl X "isinstance" := by rfl) (hgT : Gl X "ValueError" := by rfl)
    (he : starEach (a :: [.Name "ValueError" p2]) X.env = (false, eval a X.env) :: starEach [.Name "ValueError" p2] X.env := by rfl) (he2 : starEach (.Name "ValueError" p2 :: []) X.env = (false, eval (.Name "ValueError" p2) X.env) :: starEach [] X.env := by rfl) (hpl : (backTo pos (starEach [.Name "ValueError" p2] X.env)).any (·.1) = false := by rfl) :
    RE X cv W (.Call (.Name "isinstance" p) [a, .Name "ValueError" p2] [] pos) (xUn bIsV fa) := by
  obtain ⟨ta, pa, q⟩ := ha
  have pt : PE X (.Name "ValueError" p2) (tC (.ty "ValueError")) := pe_bltn hgT hmT hvT (show RelV (.ty "ValueError") (.type "ValueError") from rfl)
  refine ⟨_, pe_callB call_isx hg hm hv (pa_cons pa (pa_cons pt pa_nil he2) he) (by decide) (by decide) he hpl, fun {F0 B ρ σ F H Q} Z w => ?_⟩
  refine q Z (wR_bind an_D w fun d v F1 H1 e1 h1 w1 => ?_)
  show rIsX X.K [v, .ty "ValueError"] H1 Q
  unfold bIsV at w1
  rcases h1 with h1 | ⟨l, vs, ds, rfl, rfl, k1, k2⟩
  · cases h1 <;> try exact False.elim w1
    · rename_i kx k1
      exact ⟨_, _, _, _, _, _, rfl, .ty _, e1.fh _ _ k1, fun dd z => (by cases z), kx.c, kx.iv, wR_ok e1.fh w1 (.bl _)⟩
    · rename_i kx k1 k2 k3
      exact ⟨_, _, _, _, _, _, rfl, .ty _, e1.fh _ _ k1, fun dd z => (by cases z; exact ⟨_, e1.fh _ _ k2⟩), kx.c, kx.iv, wR_ok e1.fh w1 (.bl _)⟩
  · exact w1.elim
end
/-! ### xs.count(y), xs.index(y) -/
def rCount (K : Frag) : V → List V → Hp → VK → Prop := fun x xs H Q => ∃ (a : Addr) (ys : List V) (y : V), x = V.ref a ∧ xs = [y] ∧ SqL K H a ys ∧ flatV y = true ∧ ys.all flatV = true ∧ Q (.int ((ys.countP fun z => eqV z y : Nat) : Int)) H
theorem count_vals {y : V} : ∀ {ys : List V} {us : List Value}, Vals ys us → ys.all flatV = true → us.countP (eqU y) = ys.countP fun z => eqV z y
  | _, _, .nil, _ => rfl
  | _, _, .cons r t, f => by
    rw [List.all_cons, Bool.and_eq_true] at f
    rw [List.countP_cons, List.countP_cons, count_vals t f.2, eqU_of r f.1]
theorem mt_count {X : Cx} : MtR X "list.count" (rCount X.K) := by
  intro pins s σ H x xs v us Q I rx rxs h
  obtain ⟨a, ys, y, rfl, rfl, hs, fy, fys, q⟩ := h
  cases rx
  cases rxs with
  | cons ry rt =>
    rename_i uy ut
    cases rt
    obtain ⟨its, rv, ⟨⟨cls, dd, data, sl⟩, n, ho, hc, hdn, hd⟩, hlen⟩ := I.list hs
    dsimp only at hc hd
    subst hc hd
    refine call_meets PySem.F.slot_list_count ⟨_, ho, rfl⟩ PySem.F.entry_list_count (PySem.F.args_list_count_2 _ _) (SeqAt.list_countAt a its.toArray n dd sl uy (eqU y)) ⟨ho, fun u' hu' => mem_eqAt ry fy rv fys u' (by simpa using hu'), ?_⟩
    rw [show its.toArray.toList.countP (eqU y) = ys.countP fun z => eqV z y from count_vals rv fys]
    exact ⟨.int _, H, I.tok _, ⟨_, rfl⟩, q⟩
theorem countP_v {K : Frag} {cv : Nat → Addr} {F H : Hp} {v : V} {d : D} (h : Lk K cv F H v d) (f : dFlat d = true) : ∀ {vs : List V} {ds : List D}, Dts K cv F vs ds → ds.all dFlat = true → (vs.countP fun z => eqV z v) = ds.countP fun y => dEqv y d
  | _, _, .nil, _ => rfl
  | _, _, .cons g r, z => by
    simp only [List.all_cons, Bool.and_eq_true] at z
    rw [List.countP_cons, List.countP_cons, countP_v h f r z.2, eqv_v (.inl g) h z.1 f]
section
variable {X : Cx} {cv : Nat → Addr} {W : WX} {a b : Expr} {fa fb : XE} {pos p1 p2 : Pos}
theorem re_count (ha : RL X cv W a fa) (hb : RE X cv W b fb)
    (hq : ∀ {to : TE} {t : TA}, PE X a to → PA X [b] t → PE X (.Call (.Attribute a "count" p2) [b] [] pos) (tBM X.K "list" (rCount X.K) to t) := by exact fun u v => pe_bm PySem.F.plainAttrs_list PySem.F.slot_list_count PySem.F.type_list_count mt_count u v)
    (hst : starEach (b :: []) X.env = (false, eval b X.env) :: starEach [] X.env := by rfl) : RE X cv W (.Call (.Attribute a "count" p2) [b] [] pos) (xMeth dCount fa fb) := by
  obtain ⟨ta, pa, qa⟩ := ha
  obtain ⟨tb, pb, qb⟩ := hb
  refine ⟨_, hq pa (pa_cons pb pa_nil hst), fun {F0 B ρ σ F H Q} Z w => ?_⟩
  refine qa Z (wR_bind an_D w fun d v F1 H1 e1 h1 w1 => ?_)
  cases d with
  | lst xs =>
    obtain ⟨l, vs, rfl, k1, k2⟩ := Lk.list e1.fh h1
    refine ⟨.inl ⟨rfl, vs, .inl (.inl k1)⟩, ?_⟩
    have w1 : wR X.K cv W σ F1 H1 ((fb ρ).bind fun y => dCount xs y) (hD X.K cv) Q := w1
    refine qb (Z.ext e1) (wR_bind an_D w1 fun y u F2 H2 e2 h2 w2 => ?_)
    unfold dCount at w2
    split at w2
    · rename_i f
      refine ⟨l, vs, u, rfl, rfl, .inl (.inl (e2.hh _ _ k1)), flat_v (H := H2) (.inl h2) f.1, flats_v (k2.mono e2.ff) f.2, ?_⟩
      rw [countP_v (H := H2) (.inl h2) f.1 (k2.mono e2.ff) f.2]
      exact wR_ok e2.fh w2 (.int _)
    · exact w2.elim
  | _ => exact w1.elim
theorem find_v {K : Frag} {F H : Hp} {v : V} {d : D} (h : Lk K cv F H v d) (f : dFlat d = true) : ∀ {vs : List V} {ds : List D} {j : Nat}, Dts K cv F vs ds → ds.all dFlat = true → (ds.findIdx? fun y => dEqv y d) = some j →
    ∃ z, vs[j]? = some z ∧ eqV z v = true ∧ ∀ (m : Nat) (z' : V), m < j → vs[m]? = some z' → eqV z' v = false
  | _, _, j, .nil, _, e => by simp at e
  | v0 :: vs, d0 :: ds, j, .cons g r, z, e => by
    simp only [List.all_cons, Bool.and_eq_true] at z
    have e0 := eqv_v (.inl g) h z.1 f
    rw [List.findIdx?_cons] at e
    by_cases c : dEqv d0 d = true
    · rw [if_pos c] at e
      cases e
      exact ⟨v0, rfl, by rw [e0]; exact c, fun m _ hm => absurd hm (Nat.not_lt_zero m)⟩
    · rw [if_neg c] at e
      obtain ⟨j', e', rfl⟩ := Option.map_eq_some_iff.mp e
      obtain ⟨y, h1, h2, h3⟩ := find_v h f r z.2 e'
      refine ⟨y, by simpa using h1, h2, fun m z' hm hz => ?_⟩
      cases m with
      | zero =>
        have : v0 = z' := by simpa using hz
        rw [← this, e0]
        exact Bool.eq_false_iff.mpr c
      | succ m => exact h3 m z' (by omega) (by simpa using hz)
theorem re_index (ha : RL X cv W a fa) (hb : RE X cv W b fb)
    (hq : ∀ {to : TE} {t : TA}, PE X a to → PA X [b] t → PE X (.Call (.Attribute a "index" p2) [b] [] pos) (tBM X.K "list" (rIndex X.K) to t) := by exact fun u v => pe_bm PySem.F.plainAttrs_list PySem.F.slot_list_index PySem.F.type_list_index mt_index u v)
    (hst : starEach (b :: []) X.env = (false, eval b X.env) :: starEach [] X.env := by rfl) : RE X cv W (.Call (.Attribute a "index" p2) [b] [] pos) (xMeth dIndex fa fb) := by
  obtain ⟨ta, pa, qa⟩ := ha
  obtain ⟨tb, pb, qb⟩ := hb
  refine ⟨_, hq pa (pa_cons pb pa_nil hst), fun {F0 B ρ σ F H Q} Z w => ?_⟩
  refine qa Z (wR_bind an_D w fun d v F1 H1 e1 h1 w1 => ?_)
  cases d with
  | lst xs =>
    obtain ⟨l, vs, rfl, k1, k2⟩ := Lk.list e1.fh h1
    refine ⟨.inl ⟨rfl, vs, .inl (.inl k1)⟩, ?_⟩
    have w1 : wR X.K cv W σ F1 H1 ((fb ρ).bind fun y => dIndex xs y) (hD X.K cv) Q := w1
    refine qb (Z.ext e1) (wR_bind an_D w1 fun y u F2 H2 e2 h2 w2 => ?_)
    unfold dIndex at w2
    split at w2
    · rename_i f
      split at w2
      · rename_i j hj
        obtain ⟨z, z1, z2, z3⟩ := find_v (H := H2) (.inl h2) f.1 (k2.mono e2.ff) f.2 hj
        exact ⟨l, vs, u, j, z, rfl, rfl, .inl (.inl (e2.hh _ _ k1)), flat_v (H := H2) (.inl h2) f.1, flats_v (k2.mono e2.ff) f.2, z1, z2, z3, wR_ok e2.fh w2 (.int _)⟩
      · exact w2.elim
    · exact w2.elim
  | _ => exact w1.elim
/-- a tuple of texts of the module -/
structure WTup (K : Frag) (mg : Str → Option Value) (x : Str) (xs : List Str) : Prop where
  h : ∃ (q : Addr) (o : Obj) (its : Array Value) (n : Nat), mg x = some (.ref q) ∧ K.lookup q = some o ∧ o.cls = .type "tuple" ∧ o.data = .seq its n ∧ its.size ≤ sizeLine ∧ Vals (xs.map V.str) its.toList
theorem re_globT {x : Str} {p : Pos} {xs : List Str} (T : WTup X.K X.mg x xs) (hg : Gl X x := by rfl) (hd : (x == ("__debug__" : Str)) = false := by decide) : RE X cv W (.Name x p) (xC (.tup (xs.map D.str))) := by
  obtain ⟨q, o, its, n, hm, h1, h2, h3, h4, h5⟩ := T.h
  refine re_c (v := .ref q) (pe_glob hg hm (show RelV (.ref q) (.ref q) from rfl) hd) fun F => ?_
  refine .tup (.inr ⟨o, its, n, h1, h2, h3, h4, h5⟩) ?_
  have : ∀ l : List Str, Dts X.K cv F (l.map V.str) (l.map D.str) := fun l => by
    induction l with
    | nil => exact .nil
    | cons a r ih => exact .cons (.str a) ih
  exact this xs
end
theorem cls_some {K : Frag} {C : Addr} (h : PySem.W.hasDictIn K C = true) : (PySem.W.clsIn K C).isSome = true := by
  obtain ⟨cd, hc, _⟩ := PySem.W.any_some h
  rw [hc]
  rfl
/-! ### sorted -/
theorem iins_perm (x : Int) : ∀ l : List Int, (iins x l).Perm (x :: l)
  | [] => .refl _
  | y :: r => by
    unfold iins
    split
    · exact .refl _
    · exact ((iins_perm x r).cons y).trans (.swap x y r)
theorem isort_perm : ∀ l : List Int, (isort l).Perm l
  | [] => .refl _
  | x :: r => (iins_perm x (isort r)).trans ((isort_perm r).cons x)
theorem iins_sorted (x : Int) : ∀ l : List Int, l.Pairwise (· ≤ ·) → (iins x l).Pairwise (· ≤ ·)
  | [], _ => List.pairwise_singleton _ _
  | y :: r, h => by
    obtain ⟨h1, h2⟩ := List.pairwise_cons.mp h
    unfold iins
    split
    · rename_i c
      refine List.pairwise_cons.mpr ⟨fun z hz => ?_, h⟩
      rcases List.mem_cons.mp hz with rfl | hz
      · exact c
      · have := h1 z hz
        omega
    · refine List.pairwise_cons.mpr ⟨fun z hz => ?_, iins_sorted x r h2⟩
      rcases List.mem_cons.mp ((iins_perm x r).mem_iff.mp hz) with rfl | hz
      · omega
      · exact h1 z hz
theorem isort_sorted : ∀ l : List Int, (isort l).Pairwise (· ≤ ·)
  | [] => List.Pairwise.nil
  | x :: r => iins_sorted x _ (isort_sorted r)
theorem sorted_one : ∀ (l m : List Int), l.Perm m → l.Pairwise (· ≤ ·) → m.Pairwise (· ≤ ·) → l = m
  | [], m, h, _, _ => (List.nil_perm.mp h).symm ▸ rfl
  | x :: l, m, h, h1, h2 => by
    cases m with
    | nil => exact absurd (List.perm_nil.mp h) (List.cons_ne_nil _ _)
    | cons y m =>
      obtain ⟨a1, a2⟩ := List.pairwise_cons.mp h1
      obtain ⟨b1, b2⟩ := List.pairwise_cons.mp h2
      have e : x = y := by
        have m1 : x ∈ y :: m := h.mem_iff.mp List.mem_cons_self
        have m2 : y ∈ x :: l := h.mem_iff.mpr List.mem_cons_self
        rcases List.mem_cons.mp m1 with e | m1
        · exact e
        · rcases List.mem_cons.mp m2 with e | m2
          · exact e.symm
          · have := a1 y m2
            have := b1 x m1
            omega
      subst e
      rw [sorted_one l m (List.perm_cons x |>.mp h) a2 b2]
theorem cd_sorted {X : Cx} {cv : Nat → Addr} {W : WX} : Cld X cv W (.builtin "sorted") (hN X.K cv) bSorted := by
  refine ⟨_, cr_sorted, fun {σ F H vs ds Q} s l w => ?_⟩
  cases l with
  | nil => exact w.elim
  | cons l1 l2 =>
    rename_i d ds'
    cases l2 with
    | cons _ _ => exact w.elim
    | nil =>
      cases d with
      | lst xs =>
        have w : wR X.K cv W σ F H ((R.of (dInts xs)).bind fun ns => if ns.length < 64 then .ok ((isort ns).map .int) else .bad) (hN X.K cv) Q := w
        obtain ⟨a, us, rfl, h1, h3⟩ := l1.list s
        cases hi : dInts xs with
        | none =>
          rw [hi] at w
          exact w.elim
        | some ns =>
          rw [hi] at w
          have w : wR X.K cv W σ F H (if ns.length < 64 then .ok ((isort ns).map D.int) else .bad) (hN X.K cv) Q := w
          split at w
          · rename_i h64
            have e := ints_v h3 hi
            subst e
            refine ⟨a, ns, rfl, .inl (.inl h1), h64, fun ns' p hp hs np => ?_⟩
            rw [sorted_one ns' (isort ns) (hp.trans (isort_perm ns).symm) hs (isort_sorted ns)]
            refine w _ _ _ (Ext.hid s np) ⟨p, _, rfl, np, s.free np, upd_same, ?_⟩
            have : ∀ l : List Int, Dts X.K cv F (l.map V.int) (l.map D.int) := fun l => by
              induction l with
              | nil => exact .nil
              | cons a r ih => exact .cons (.int a) ih
            exact this _
          · exact w.elim
      | _ => exact w.elim
end Gy

end

section
set_option Elab.async false
set_option linter.all false
set_option maxRecDepth 100000
set_option maxHeartbeats 4000000
/-! GyZ: what each walk asks of the built-ins' names, of the tables. -/
namespace Gy
open PySem PySem.Spec PyProof.Rows L2
theorem b_len : bootBuiltins "len" = some (.builtin "len") := by decide +kernel
theorem b_abs : bootBuiltins "abs" = some (.builtin "abs") := by decide +kernel
theorem b_sum : bootBuiltins "sum" = some (.builtin "sum") := by decide +kernel
theorem b_all : bootBuiltins "all" = some (.builtin "all") := by decide +kernel
theorem b_any : bootBuiltins "any" = some (.builtin "any") := by decide +kernel
theorem b_max : bootBuiltins "max" = some (.builtin "max") := by decide +kernel
theorem b_min : bootBuiltins "min" = some (.builtin "min") := by decide +kernel
theorem b_ValueError : bootBuiltins "ValueError" = some (.type "ValueError") := by decide +kernel
theorem b_isinstance : bootBuiltins "isinstance" = some (.builtin "isinstance") := by decide +kernel
theorem b_sorted : bootBuiltins "sorted" = some (.builtin "sorted") := by decide +kernel
theorem b_int : bootBuiltins "int" = some (.type "int") := by decide +kernel
theorem b_bool : bootBuiltins "bool" = some (.type "bool") := by decide +kernel
theorem b_str : bootBuiltins "str" = some (.type "str") := by decide +kernel
theorem b_list : bootBuiltins "list" = some (.type "list") := by decide +kernel
theorem b_tuple : bootBuiltins "tuple" = some (.type "tuple") := by decide +kernel
theorem b_set : bootBuiltins "set" = some (.type "set") := by decide +kernel
/-- a table's rows, told one by one -/
def TabAll (K : Frag) (p : Addr) : Tab → Prop
  | [] => True
  | (z, o) :: r => (∃ u, PySem.W.nsIn K p z = some u ∧ RelO (o.map dV) u) ∧ (∀ d, o = some d → dFlat d = true) ∧ TabAll K p r
theorem tab_of {K : Frag} {w : World} {p : Addr} {es : Array DictEntry} {n : Nat} (hl : K.lookup p = some ⟨.type "dict", none, .dict es n, #[]⟩) (hk : PySem.W.KeysLit w.params es.toList) (low : (p == sysModules) = false) :
    ∀ {t : Tab}, TabAll K p t → ∀ z o, t.lookup z = some o → WKey K w p z (o.map dV) ∧ ∀ d, o = some d → dFlat d = true
  | [], _, _, _, e => by cases e
  | (y, o') :: r, ⟨⟨u, h1, h2⟩, h3, h4⟩, z, o, e => by
    rw [List.lookup_cons] at e
    split at e
    · rename_i hb
      have ey : z = y := eq_of_beq hb
      subst ey
      cases e
      exact ⟨⟨es, n, hl, hk, low, u, h1, h2⟩, h3⟩
    · exact tab_of hl hk low h4 z o e
theorem relI {i : Int} {t : Tok} : RelO ((some (D.int i)).map dV) (some (.int i t)) := ⟨t, rfl⟩
theorem relS {x : Str} {t : Tok} : RelO ((some (D.str x)).map dV) (some (.str x t)) := ⟨t, rfl⟩
theorem relN : RelO ((none : Option D).map dV) none := trivial
end Gy

end

section
set_option Elab.async false
set_option linter.all false
set_option maxRecDepth 100000
/-! GyQ: how the words of GyD are reckoned: one equation a shape. -/
namespace Gy
open PySem
section
variable {i j k : Int} {x y : Str} {xs ys : List D} {a b c d e : D} {p q : Bool} {α β : Type} {ρ ρ' : Rho} {n : Nat} {ns : List Int} {t : Tab} {lo hi : Option Int}
theorem log_small {m : Nat} (h : m < 18446744073709551616) : m.log2 < 64 := by
  by_cases h0 : m = 0
  · subst h0
    decide
  · exact (Nat.log2_lt h0).mpr (by omega)
theorem sm_small (h : i.natAbs < 18446744073709551616) : Sm i := ⟨Nat.lt_trans (log_small h) (by decide)⟩
@[simp] theorem sm_lit (h : i.natAbs < 18446744073709551616) : Sm i := sm_small h
@[simp] theorem rgn_lit (h : -1000 ≤ i) (h' : i ≤ 1000) : RgN i := ⟨by omega, by omega⟩
@[simp] theorem rg3_lit (h : -1000 ≤ i) (h2 : i ≤ 1000) (h3 : -1000 ≤ j) (h4 : j ≤ 1000) (h5 : 0 < k) (h6 : k ≤ 1000) : Rg3 i j k := ⟨by omega⟩
@[simp] theorem ln_lit (h : n ≤ 16000000) : Ln n := ⟨h⟩
@[simp] theorem dAdd_i : dAdd (.int i) (.int j) = .ok (.int (i + j)) := rfl
@[simp] theorem dAdd_s (h : Ln (x.length + y.length)) : dAdd (.str x) (.str y) = .ok (.str (x ++ y)) := if_pos h
@[simp] theorem dAdd_t (h : Ln (xs.length + ys.length)) : dAdd (.tup xs) (.tup ys) = .ok (.tup (xs ++ ys)) := if_pos h
@[simp] theorem dAdd_l (h : Ln (xs.length + ys.length)) : dAdd (.lst xs) (.lst ys) = .ok (.lst (xs ++ ys)) := if_pos h
@[simp] theorem dSub_i : dSub (.int i) (.int j) = .ok (.int (i - j)) := rfl
@[simp] theorem dMul_i (h : Sm i) (h' : Sm j) : dMul (.int i) (.int j) = .ok (.int (i * j)) := if_pos ⟨h, h'⟩
@[simp] theorem rp_lit {m : Nat} (h : k < 1000000) (h' : -1000000 < k) (h2 : m * k.toNat ≤ 16000000) : Rp m k := ⟨by omega, by omega, h2⟩
@[simp] theorem dMul_l (h : Rp xs.length k) : dMul (.lst xs) (.int k) = .ok (.lst (List.replicate k.toNat xs).flatten) := if_pos h
@[simp] theorem dv_lit (h : 0 < j) (h' : j.natAbs < 18446744073709551616) : Dv j := ⟨h, Nat.lt_trans (log_small h') (by decide)⟩
@[simp] theorem dDiv_i (h : Dv j) : dDiv (.int i) (.int j) = .ok (.int (i / j)) := if_pos h
@[simp] theorem dMod_i (h : 0 < j) : dMod (.int i) (.int j) = .ok (.int (i % j)) := if_pos h
@[simp] theorem dPow_5 (h : i.natAbs < 18446744073709551616) : dPow (.int i) (.int 5) = .ok (.int (i ^ 5)) := if_pos ⟨by decide, by decide, by omega⟩
@[simp] theorem dNeg_i : dNeg (.int i) = .ok (.int (-i)) := rfl
@[simp] theorem dLt_i : dLt (.int i) (.int j) = .ok (.bl (decide (i < j))) := rfl
@[simp] theorem dLe_i : dLe (.int i) (.int j) = .ok (.bl (decide (i ≤ j))) := rfl
@[simp] theorem dGt_i : dGt (.int i) (.int j) = .ok (.bl (decide (j < i))) := rfl
@[simp] theorem dGe_i : dGe (.int i) (.int j) = .ok (.bl (decide (j ≤ i))) := rfl
/-! == -/
@[simp] theorem lay_non : dLay .non = true := rfl
@[simp] theorem lay_bl : dLay (.bl p) = true := rfl
@[simp] theorem lay_int : dLay (.int i) = true := rfl
@[simp] theorem lay_str : dLay (.str x) = strGood x := rfl
@[simp] theorem lay_lst : dLay (.lst xs) = dLays xs := by simp [dLay]
@[simp] theorem lay_tup : dLay (.tup xs) = dLays xs := by simp [dLay]
@[simp] theorem lays_nil : dLays [] = true := rfl
@[simp] theorem lays_cons : dLays (a :: xs) = (dLay a && dLays xs) := by simp [dLays]
@[simp] theorem deep_non : dDeep .non = 0 := rfl
@[simp] theorem deep_bl : dDeep (.bl p) = 0 := rfl
@[simp] theorem deep_int : dDeep (.int i) = 0 := rfl
@[simp] theorem deep_str : dDeep (.str x) = 0 := rfl
@[simp] theorem deep_lst : dDeep (.lst xs) = dDeeps xs + 1 := by simp [dDeep]
@[simp] theorem deep_tup : dDeep (.tup xs) = dDeeps xs + 1 := by simp [dDeep]
@[simp] theorem deeps_nil : dDeeps [] = 0 := rfl
@[simp] theorem deeps_cons : dDeeps (a :: xs) = max (dDeep a) (dDeeps xs) := by simp [dDeeps]
@[simp] theorem fit_iff : dFit a ↔ dLay a = true ∧ dDeep a ≤ 64 := ⟨fun h => ⟨h.lay, h.deep⟩, fun h => ⟨h.1, h.2⟩⟩
@[simp] theorem dEq_ok (h : dFit a) (h' : dFit b) : dEq a b = .ok (.bl (dEqv a b)) := if_pos ⟨h, h'⟩
@[simp] theorem dNe_ok (h : dFit a) (h' : dFit b) : dNe a b = .ok (.bl (!dEqv a b)) := if_pos ⟨h, h'⟩
@[simp] theorem eqv_ii : dEqv (.int i) (.int j) = decide (i = j) := by
  rw [dEqv]
  exact Bool.beq_eq_decide_eq i j
@[simp] theorem eqv_bb : dEqv (.bl p) (.bl q) = (p == q) := by simp [dEqv]
@[simp] theorem eqv_ib : dEqv (.int i) (.bl q) = (i == (if q then 1 else 0)) := by simp [dEqv]
@[simp] theorem eqv_bi : dEqv (.bl p) (.int j) = ((if p then 1 else 0) == j) := by simp [dEqv]
@[simp] theorem eqv_ss : dEqv (.str x) (.str y) = decide (x = y) := by simp [dEqv]
@[simp] theorem eqv_ll : dEqv (.lst xs) (.lst ys) = dEqvs xs ys := by simp [dEqv]
@[simp] theorem eqv_tt : dEqv (.tup xs) (.tup ys) = dEqvs xs ys := by simp [dEqv]
@[simp] theorem eqv_nn : dEqv .non .non = true := by simp [dEqv]
@[simp] theorem eqv_ni : dEqv .non (.int j) = false := by simp [dEqv]
@[simp] theorem eqv_in : dEqv (.int i) .non = false := by simp [dEqv]
@[simp] theorem eqv_si : dEqv (.str x) (.int j) = false := by simp [dEqv]
@[simp] theorem eqv_is : dEqv (.int i) (.str x) = false := by simp [dEqv]
@[simp] theorem eqv_ls : dEqv (.lst xs) (.str x) = false := by simp [dEqv]
@[simp] theorem eqv_sl : dEqv (.str x) (.lst xs) = false := by simp [dEqv]
@[simp] theorem eqv_li : dEqv (.lst xs) (.int i) = false := by simp [dEqv]
@[simp] theorem eqv_il : dEqv (.int i) (.lst xs) = false := by simp [dEqv]
@[simp] theorem eqv_sn : dEqv (.str x) .non = false := by simp [dEqv]
@[simp] theorem eqv_ns : dEqv .non (.str x) = false := by simp [dEqv]
@[simp] theorem eqvs_nn : dEqvs [] [] = true := by simp [dEqvs]
@[simp] theorem eqvs_cc : dEqvs (a :: xs) (b :: ys) = (dEqv a b && dEqvs xs ys) := by simp [dEqvs]
@[simp] theorem eqvs_nc : dEqvs [] (b :: ys) = false := by simp [dEqvs]
@[simp] theorem eqvs_cn : dEqvs (a :: xs) [] = false := by simp [dEqvs]
@[simp] theorem isNon_non : isNon .non = true := rfl
@[simp] theorem isNon_int : isNon (.int i) = false := rfl
@[simp] theorem isNon_bl : isNon (.bl p) = false := rfl
@[simp] theorem isNon_str : isNon (.str x) = false := rfl
@[simp] theorem isNon_lst : isNon (.lst xs) = false := rfl
@[simp] theorem isNon_tup : isNon (.tup xs) = false := rfl
@[simp] theorem isNon_exc {m : Nat} : isNon (.exc m xs) = false := rfl
@[simp] theorem dIsN_n : dIsN a .non = .ok (.bl (isNon a)) := rfl
@[simp] theorem dNotN_n : dNotN a .non = .ok (.bl !isNon a) := rfl
@[simp] theorem flat_int : dFlat (.int i) = true := rfl
@[simp] theorem flat_str : dFlat (.str x) = true := rfl
@[simp] theorem flat_bl : dFlat (.bl p) = true := rfl
@[simp] theorem flat_non : dFlat .non = true := rfl
@[simp] theorem dIn_t (h : dFlat a = true) (h' : xs.all dFlat = true) : dIn a (.tup xs) = .ok (.bl (xs.any fun y => dEqv y a)) := by cases a <;> first | exact if_pos ⟨h, h'⟩ | cases h
@[simp] theorem dIn_l (h : dFlat a = true) (h' : xs.all dFlat = true) : dIn a (.lst xs) = .ok (.bl (xs.any fun y => dEqv y a)) := by cases a <;> first | exact if_pos ⟨h, h'⟩ | cases h
@[simp] theorem dInN_eq : dInN q a b = (dIn a b).bind fun k => match k with
  | .bl p => .ok (.bl (if q then !p else p))
  | _ => .bad := rfl
@[simp] theorem dNot_b : dNot (.bl p) = .ok (.bl !p) := rfl
/-! places -/
@[simp] theorem dIx_t : dIx (.tup xs) (.int i) = R.of (getAt xs i) := by
  show (match getAt xs i with | some d => R.ok d | none => R.bad) = _
  cases getAt xs i <;> rfl
@[simp] theorem dIx_l : dIx (.lst xs) (.int i) = R.of (getAt xs i) := by
  show (match getAt xs i with | some d => R.ok d | none => R.bad) = _
  cases getAt xs i <;> rfl
@[simp] theorem dIx_c : dIx (.scr ns) (.int i) = (R.of (getAt ns i)).bind fun n => .ok (.int n) := by
  show (match getAt ns i with | some n => R.ok (D.int n) | none => R.bad) = _
  cases getAt ns i <;> rfl
@[simp] theorem dCut_t : dCut (.tup xs) lo hi = .ok (.tup (cutAt xs lo hi)) := rfl
@[simp] theorem dCut_l : dCut (.lst xs) lo hi = .ok (.lst (cutAt xs lo hi)) := rfl
@[simp] theorem dLen_t : dLen (.tup xs) = .ok (.int xs.length) := rfl
@[simp] theorem dLen_l : dLen (.lst xs) = .ok (.int xs.length) := rfl
@[simp] theorem dLen_c : dLen (.scr ns) = .ok (.int ns.length) := rfl
@[simp] theorem dLen_s (h : Ln x.length) : dLen (.str x) = .ok (.int x.length) := if_pos h
@[simp] theorem dTru_n : dTru .non = .ok false := rfl
@[simp] theorem dTru_b : dTru (.bl p) = .ok p := rfl
@[simp] theorem dTru_i : dTru (.int i) = .ok (i != 0) := rfl
@[simp] theorem dTru_s (h : Ln x.length) : dTru (.str x) = .ok ((x.length : Int) != 0) := if_pos h
@[simp] theorem dTru_t : dTru (.tup xs) = .ok !xs.isEmpty := rfl
@[simp] theorem dTru_l : dTru (.lst xs) = .ok !xs.isEmpty := rfl
@[simp] theorem dTru_c : dTru (.scr ns) = .ok !ns.isEmpty := rfl
@[simp] theorem dAsB_b : dAsB (.bl p) = .ok p := rfl
@[simp] theorem dList_l : dList (.lst xs) = .ok xs := rfl
@[simp] theorem dItems_l : dItems (.lst xs) = .ok xs := rfl
@[simp] theorem dItems_t : dItems (.tup xs) = .ok xs := rfl
@[simp] theorem dInts_n : dInts [] = some [] := rfl
@[simp] theorem dInts_c : dInts (.int i :: xs) = (dInts xs).map (i :: ·) := rfl
@[simp] theorem dBls_n : dBls [] = some [] := rfl
@[simp] theorem dBls_c : dBls (.bl p :: xs) = (dBls xs).map (p :: ·) := rfl
@[simp] theorem dStrs_n : dStrs [] = some [] := rfl
@[simp] theorem dStrs_c : dStrs (.str x :: xs) = (dStrs xs).map (x :: ·) := rfl
@[simp] theorem dInt_i : dInt (.int i) = .ok i := rfl
@[simp] theorem dTupOf_l : dTupOf (.lst xs) = .ok (.tup xs) := rfl
@[simp] theorem dTupOf_t : dTupOf (.tup xs) = .ok (.tup xs) := rfl
@[simp] theorem dBack_l : dBack (.lst xs) = .ok (.lst xs.reverse) := rfl
@[simp] theorem dBack_t : dBack (.tup xs) = .ok (.tup xs.reverse) := rfl
@[simp] theorem bList_l : bList [.lst xs] = .ok xs := rfl
@[simp] theorem bList_t : bList [.tup xs] = .ok xs := rfl
/-! built-ins -/
@[simp] theorem one_1 {g : D → R D} : one g [a] = g a := rfl
@[simp] theorem two_2 {g : D → D → R D} : two g [a, b] = g a b := rfl
@[simp] theorem bAbs_i : bAbs (.int i) = .ok (.int (if i < 0 then -i else i)) := rfl
@[simp] theorem bMax_i : bMax (.int i) (.int j) = .ok (.int (if j > i then j else i)) := rfl
@[simp] theorem bMin_i : bMin (.int i) (.int j) = .ok (.int (if j < i then j else i)) := rfl
@[simp] theorem bInt_i : bInt (.int i) = .ok (.int i) := rfl
@[simp] theorem bInt_b : bInt (.bl p) = .ok (.int (if p then 1 else 0)) := rfl
@[simp] theorem bSum_l : bSum (.lst xs) = (R.of (dInts xs)).bind fun ns => .ok (.int ns.sum) := rfl
@[simp] theorem bAll_l : bAll (.lst xs) = (R.of (dBls xs)).bind fun bs => .ok (.bl (bs.all id)) := rfl
@[simp] theorem bAny_l : bAny (.lst xs) = (R.of (dBls xs)).bind fun bs => .ok (.bl (bs.any id)) := rfl
@[simp] theorem bMaxL_l (h : dInts xs = some (i :: ns)) : bMaxL (.lst xs) = .ok (.int (topOf i ns)) := by simp only [bMaxL, h]; rfl
@[simp] theorem bMinL_l (h : dInts xs = some (i :: ns)) : bMinL (.lst xs) = .ok (.int (botOf i ns)) := by simp only [bMinL, h]; rfl
@[simp] theorem bIs_n {z : Ty} : bIs z .non = .ok (.bl false) := rfl
@[simp] theorem bIs_b {z : Ty} : bIs z (.bl p) = .ok (.bl (z == .int || z == .bool)) := rfl
@[simp] theorem bIs_i {z : Ty} : bIs z (.int i) = .ok (.bl (z == .int)) := rfl
@[simp] theorem bIs_s {z : Ty} : bIs z (.str x) = .ok (.bl false) := rfl
@[simp] theorem bIs_l {z : Ty} : bIs z (.lst xs) = .ok (.bl (z == .list)) := rfl
@[simp] theorem bIs_t {z : Ty} : bIs z (.tup xs) = .ok (.bl (z == .tuple)) := rfl
/-! answers of defs, targets -/
@[simp] theorem asD_d : asD (.ok (.dat a)) = .ok a := rfl
@[simp] theorem asD_o : asD (.ok (.own xs)) = .ok (.lst xs) := rfl
@[simp] theorem asD_e : asD (.err e) = .err e := rfl
@[simp] theorem asO_o : asO (.ok (.own xs)) = .ok xs := rfl
@[simp] theorem asO_e : asO (.err e) = .err e := rfl
@[simp] theorem noErr_ok {a : α} : noErr (.ok a) = .ok a := rfl
@[simp] theorem gNil_n : gNil [] ρ = .ok ρ := rfl
@[simp] theorem gCons_c {g : XG} {r : XGs} : gCons g r (a :: xs) ρ = (g a ρ).bind fun ρ' => r xs ρ' := rfl
@[simp] theorem gTp_t {r : XGs} : gTp r (.tup xs) ρ = r xs ρ := rfl
@[simp] theorem gLs_l {r : XGs} : gLs r (.lst xs) ρ = r xs ρ := rfl
@[simp] theorem ofS_some {r : α} : R.of (some r) = .ok r := rfl
/-! tables -/
@[simp] theorem dGetT_s {o : Option D} (h : t.lookup x = some o) : dGetT t (.str x) = .ok (o.getD .non) := by simp only [dGetT, h]
@[simp] theorem dAtT_s (h : t.lookup x = some (some a)) : dAtT t (.str x) = .ok a := by simp only [dAtT, h]
@[simp] theorem dInT_s {o : Option D} (h : t.lookup x = some o) : dInT q t (.str x) = .ok (.bl (if q then !o.isSome else o.isSome)) := by simp only [dInT, h]
@[simp] theorem bSorted_l {ms : List Int} (h : dInts xs = some ms) (h' : ms.length < 64) : bSorted [.lst xs] = .ok ((isort ms).map .int) := by
  show (R.of (dInts xs)).bind _ = _
  rw [h]
  exact if_pos h'
/-! errors as values -/
@[simp] theorem bIsX_e {m k : Nat} : bIsX m (.exc k xs) = .ok (.bl (k == m)) := rfl
@[simp] theorem bIsV_e {k : Nat} : bIsV (.exc k xs) = .ok (.bl true) := rfl
@[simp] theorem dCount_ok (h : dFlat a = true) (h' : xs.all dFlat = true) : dCount xs a = .ok (.int (xs.countP fun y => dEqv y a)) := if_pos ⟨h, h'⟩
theorem dIndex_ok (h : dFlat a = true) (h' : xs.all dFlat = true) {j : Nat} (hj : (xs.findIdx? fun y => dEqv y a) = some j) : dIndex xs a = .ok (.int j) := by
  unfold dIndex
  rw [if_pos ⟨h, h'⟩, hj]
theorem sKeep_nx {ks : List Nat} {m l : Nat} {f : XS} (h : f ρ = .nx ρ') : sKeep ks m l f ρ = .nx ρ' := by
  unfold sKeep
  rw [h]
theorem sKeep_er {ks : List Nat} {m l k : Nat} {f : XS} (h : f ρ = .er (.exc k xs) ρ') (hk : k ∈ ks) : sKeep ks m l f ρ = .nx (((ρ'.set m (.dat (.exc k xs))).set l (.dat (.exc k xs))).set m .no) := by
  unfold sKeep
  rw [h]
  exact if_pos hk
/-! loops -/
@[simp] theorem forRun_nil {g : XG} {s : XS} : forRun g s [] ρ = .nx ρ := rfl
theorem forRun_cons {g : XG} {s : XS} : forRun g s (a :: xs) ρ = gGo (g a ρ) fun ρ' => match s ρ' with
    | .nx ρ2 => forRun g s xs ρ2
    | .ct ρ2 => forRun g s xs ρ2
    | .bk ρ2 => .nx ρ2
    | o => o := rfl
@[simp] theorem lcRun_nil {g : XG} {z : XT} {f : XE} : lcRun g z f ρ [] = .ok [] := rfl
@[simp] theorem lcRun_cons {g : XG} {z : XT} {f : XE} : lcRun g z f ρ (a :: xs) = (g a ρ).bind fun ρ' => (z ρ').bind fun k => if k = true then (f ρ').bind fun y => (lcRun g z f ρ xs).bind fun r => .ok (y :: r) else lcRun g z f ρ xs := rfl
@[simp] theorem tYes_t : tYes ρ = .ok true := rfl
/-- one turn of a loop that goes on -/
theorem for_nx {g : XG} {s : XS} (h : g a ρ = .ok ρ') {ρ2 : Rho} (h2 : s ρ' = .nx ρ2) : forRun g s (a :: xs) ρ = forRun g s xs ρ2 := by
  rw [forRun_cons, h]
  show (match s ρ' with | .nx ρ2 => forRun g s xs ρ2 | .ct ρ2 => forRun g s xs ρ2 | .bk ρ2 => .nx ρ2 | o => o) = _
  rw [h2]
/-- a loop by what holds between its turns: at each item P goes on to the next -/
theorem for_inv {γ : Type} {g : XG} {s : XS} (P : γ → Rho → Prop) (f : γ → D → γ) : ∀ (ds : List D) (z : γ) (ρ : Rho), P z ρ →
    (∀ z ρ d, d ∈ ds → P z ρ → ∃ ρ' ρ2, g d ρ = .ok ρ' ∧ s ρ' = .nx ρ2 ∧ P (f z d) ρ2) → ∃ ρ', forRun g s ds ρ = .nx ρ' ∧ P (ds.foldl f z) ρ'
  | [], z, ρ, h, _ => ⟨ρ, rfl, h⟩
  | d :: ds, z, ρ, h, st => by
    obtain ⟨ρ', ρ2, h1, h2, h3⟩ := st z ρ d List.mem_cons_self h
    rw [for_nx h1 h2]
    exact for_inv P f ds (f z d) ρ2 h3 fun z ρ d hd => st z ρ d (List.mem_cons_of_mem _ hd)
/-- the same over items that are made of others -/
theorem for_map {γ δ : Type} {g : XG} {s : XS} (e : δ → D) (P : γ → Rho → Prop) (f : γ → δ → γ) : ∀ (ds : List δ) (z : γ) (ρ : Rho), P z ρ →
    (∀ z ρ d, d ∈ ds → P z ρ → ∃ ρ' ρ2, g (e d) ρ = .ok ρ' ∧ s ρ' = .nx ρ2 ∧ P (f z d) ρ2) → ∃ ρ', forRun g s (ds.map e) ρ = .nx ρ' ∧ P (ds.foldl f z) ρ'
  | [], z, ρ, h, _ => ⟨ρ, rfl, h⟩
  | d :: ds, z, ρ, h, st => by
    obtain ⟨ρ', ρ2, h1, h2, h3⟩ := st z ρ d List.mem_cons_self h
    rw [List.map_cons, for_nx h1 h2]
    exact for_map e P f ds (f z d) ρ2 h3 fun z ρ d hd => st z ρ d (List.mem_cons_of_mem _ hd)
/-- a loop that appends one item a turn -/
theorem for_app {δ : Type} {g : XG} {s : XS} (e v : δ → D) (M : List D → Rho → Prop) : ∀ (ds : List δ) (z : List D) (ρ : Rho), M z ρ → z.length + ds.length ≤ 16000000 →
    (∀ z ρ d, d ∈ ds → Ln z.length → M z ρ → ∃ ρ' ρ2, g (e d) ρ = .ok ρ' ∧ s ρ' = .nx ρ2 ∧ M (z ++ [v d]) ρ2) → ∃ ρ', forRun g s (ds.map e) ρ = .nx ρ' ∧ M (z ++ ds.map v) ρ'
  | [], z, ρ, h, _, _ => ⟨ρ, rfl, by simpa using h⟩
  | d :: ds, z, ρ, h, hl, st => by
    obtain ⟨ρ', ρ2, h1, h2, h3⟩ := st z ρ d List.mem_cons_self ⟨by omega⟩ h
    rw [List.map_cons, for_nx h1 h2]
    have hl' : (z ++ [v d]).length + ds.length ≤ 16000000 := by
      simp only [List.length_append, List.length_cons, List.length_nil] at hl ⊢
      omega
    obtain ⟨ρ3, k1, k2⟩ := for_app e v M ds (z ++ [v d]) ρ2 h3 hl' fun z ρ d hd => st z ρ d (List.mem_cons_of_mem _ hd)
    exact ⟨ρ3, k1, by simpa using k2⟩
/-- a loop that appends some items a turn -/
theorem for_cat {δ : Type} {g : XG} {s : XS} (e : δ → D) (v : δ → List D) (M : List D → Rho → Prop) : ∀ (ds : List δ) (z : List D) (ρ : Rho), M z ρ → z.length + (ds.flatMap v).length ≤ 16000000 →
    (∀ z ρ d, d ∈ ds → Ln (z.length + (v d).length) → M z ρ → ∃ ρ' ρ2, g (e d) ρ = .ok ρ' ∧ s ρ' = .nx ρ2 ∧ M (z ++ v d) ρ2) → ∃ ρ', forRun g s (ds.map e) ρ = .nx ρ' ∧ M (z ++ ds.flatMap v) ρ'
  | [], z, ρ, h, _, _ => ⟨ρ, rfl, by simpa using h⟩
  | d :: ds, z, ρ, h, hl, st => by
    rw [List.flatMap_cons, List.length_append] at hl
    obtain ⟨ρ', ρ2, h1, h2, h3⟩ := st z ρ d List.mem_cons_self ⟨by omega⟩ h
    rw [List.map_cons, for_nx h1 h2]
    have hl' : (z ++ v d).length + (ds.flatMap v).length ≤ 16000000 := by
      rw [List.length_append]
      omega
    obtain ⟨ρ3, k1, k2⟩ := for_cat e v M ds (z ++ v d) ρ2 h3 hl' fun z ρ d hd => st z ρ d (List.mem_cons_of_mem _ hd)
    exact ⟨ρ3, k1, by simpa using k2⟩
/-- a loop that may leave by an answer or an error: what it comes to -/
theorem for_end {δ : Type} {g : XG} {s : XS} (e : δ → D) (P : Rho → Prop) (Q : O → Prop) : ∀ (ds : List δ) (ρ : Rho), P ρ →
    (∀ ρ d, d ∈ ds → P ρ → ∃ ρ', g (e d) ρ = .ok ρ' ∧ ((∃ ρ2, s ρ' = .nx ρ2 ∧ P ρ2) ∨ ((∀ ρ2, s ρ' ≠ .nx ρ2) ∧ (∀ ρ2, s ρ' ≠ .ct ρ2) ∧ (∀ ρ2, s ρ' ≠ .bk ρ2) ∧ Q (s ρ')))) →
    (∀ ρ, P ρ → Q (.nx ρ)) → Q (forRun g s (ds.map e) ρ)
  | [], ρ, h, _, q => q ρ h
  | d :: ds, ρ, h, st, q => by
    obtain ⟨ρ', h1, h2⟩ := st ρ d List.mem_cons_self h
    rcases h2 with ⟨ρ2, h2, h3⟩ | ⟨n1, n2, n3, h3⟩
    · rw [List.map_cons, for_nx h1 h2]
      exact for_end e P Q ds ρ2 h3 (fun ρ d hd => st ρ d (List.mem_cons_of_mem _ hd)) q
    · rw [List.map_cons, forRun_cons, h1]
      show Q (match s ρ' with | .nx ρ2 => forRun g s (ds.map e) ρ2 | .ct ρ2 => forRun g s (ds.map e) ρ2 | .bk ρ2 => .nx ρ2 | o => o)
      cases z : s ρ' with
      | nx ρ2 => exact absurd z (n1 ρ2)
      | ct ρ2 => exact absurd z (n2 ρ2)
      | bk ρ2 => exact absurd z (n3 ρ2)
      | rt v => rw [z] at h3; exact h3
      | er d' ρ2 => rw [z] at h3; exact h3
      | bad => rw [z] at h3; exact h3
/-- a comprehension that keeps all -/
theorem lc_map {δ : Type} {g : XG} {f : XE} (e : δ → D) (v : δ → D) : ∀ (ds : List δ), (∀ d ∈ ds, ∃ ρ', g (e d) ρ = .ok ρ' ∧ f ρ' = .ok (v d)) → lcRun g tYes f ρ (ds.map e) = .ok (ds.map v)
  | [], _ => rfl
  | d :: ds, h => by
    obtain ⟨ρ', h1, h2⟩ := h d List.mem_cons_self
    rw [List.map_cons, lcRun_cons, h1, R.bind_ok, tYes_t, R.bind_ok, if_pos rfl, h2, R.bind_ok, lc_map e v ds fun d hd => h d (List.mem_cons_of_mem _ hd)]
    rfl
/-- a comprehension that picks -/
theorem lc_filter {δ : Type} {g : XG} {z : XT} {f : XE} (e : δ → D) (v : δ → D) (pk : δ → Bool) : ∀ (ds : List δ), (∀ d ∈ ds, ∃ ρ', g (e d) ρ = .ok ρ' ∧ z ρ' = .ok (pk d) ∧ (pk d = true → f ρ' = .ok (v d))) → lcRun g z f ρ (ds.map e) = .ok ((ds.filter pk).map v)
  | [], _ => rfl
  | d :: ds, h => by
    obtain ⟨ρ', h1, h2, h3⟩ := h d List.mem_cons_self
    have ih := lc_filter e v pk ds fun d hd => h d (List.mem_cons_of_mem _ hd)
    rw [List.map_cons, lcRun_cons, h1, R.bind_ok, h2, R.bind_ok]
    cases k : pk d with
    | true =>
      rw [if_pos rfl, h3 k, R.bind_ok, ih, R.bind_ok, List.filter_cons, if_pos k]
      rfl
    | false =>
      rw [if_neg Bool.false_ne_true, ih, List.filter_cons, if_neg (by rw [k]; decide)]
/-- a while loop that is told turn by turn -/
theorem wh_of {c : XT} {s : XS} {o : O} (h : whRun c s n ρ = o) (ho : o ≠ .bad) : sWh c s ρ = o := by
  have mono : ∀ (m n : Nat) (ρ : Rho), whRun c s m ρ ≠ .bad → m ≤ n → whRun c s n ρ = whRun c s m ρ := fun m => by
    induction m with
    | zero => intro n ρ h _; exact absurd rfl h
    | succ m ih =>
      intro n ρ h hn
      cases n with
      | zero => exact absurd hn (by omega)
      | succ n =>
        have e : ∀ q, whRun c s (q + 1) ρ = (c ρ).thn ρ fun k => if k = true then (match s ρ with
          | .nx ρ2 => whRun c s q ρ2
          | .ct ρ2 => whRun c s q ρ2
          | .bk ρ2 => .nx ρ2
          | o => o) else .nx ρ := fun q => rfl
        rw [e] at h
        rw [e, e]
        cases z : c ρ with
        | bad => rfl
        | err _ => rfl
        | ok k =>
          rw [z] at h
          cases k with
          | false => rfl
          | true =>
            have h : (match s ρ with
              | .nx ρ2 => whRun c s m ρ2
              | .ct ρ2 => whRun c s m ρ2
              | .bk ρ2 => .nx ρ2
              | o => o) ≠ .bad := h
            show (match s ρ with
              | .nx ρ2 => whRun c s n ρ2
              | .ct ρ2 => whRun c s n ρ2
              | .bk ρ2 => .nx ρ2
              | o => o) = (match s ρ with
              | .nx ρ2 => whRun c s m ρ2
              | .ct ρ2 => whRun c s m ρ2
              | .bk ρ2 => .nx ρ2
              | o => o)
            cases y : s ρ with
            | nx ρ2 => rw [y] at h; exact ih n ρ2 h (by omega)
            | ct ρ2 => rw [y] at h; exact ih n ρ2 h (by omega)
            | bk ρ2 => rfl
            | rt v => rfl
            | er d' ρ2 => rfl
            | bad => rfl
  have hx : ∃ n, whRun c s n ρ ≠ .bad := ⟨n, by rw [h]; exact ho⟩
  unfold sWh
  rw [dif_pos hx]
  have h1 := hx.choose_spec
  have h2 : whRun c s n ρ ≠ .bad := by rw [h]; exact ho
  rcases Nat.le_total n hx.choose with l | l
  · rw [mono n _ ρ h2 l, h]
  · rw [← h, mono _ n ρ h1 l]
end
end Gy

end

section
set_option Elab.async false
set_option linter.all false
set_option maxRecDepth 100000
/-! GyC: the defs that more laws than one reach, as what they do with data (printed by common.py). -/
namespace Gy
open PySem
noncomputable section
def w_0a : Str := ⟨#[10]⟩
def w_20 : Str := ⟨#[32]⟩
def w_200a : Str := ⟨#[32, 10]⟩
def w_23 : Str := ⟨#[35]⟩
def w_2d : Str := ⟨#[45]⟩
def w_2d313030303030 : Str := ⟨#[45, 49, 48, 48, 48, 48, 48]⟩
def w_2d313030303031 : Str := ⟨#[45, 49, 48, 48, 48, 48, 49]⟩
def w_2e : Str := ⟨#[46]⟩
def w_2e23 : Str := ⟨#[46, 35]⟩
def w_30 : Str := ⟨#[48]⟩
def w_30313030 : Str := ⟨#[48, 49, 48, 48]⟩
def w_30313233343536373839 : Str := ⟨#[48, 49, 50, 51, 52, 53, 54, 55, 56, 57]⟩
def w_31 : Str := ⟨#[49]⟩
def w_313030303030 : Str := ⟨#[49, 48, 48, 48, 48, 48]⟩
def w_313030303031 : Str := ⟨#[49, 48, 48, 48, 48, 49]⟩
def w_32 : Str := ⟨#[50]⟩
def w_33 : Str := ⟨#[51]⟩
def w_34 : Str := ⟨#[52]⟩
def w_35 : Str := ⟨#[53]⟩
def w_36 : Str := ⟨#[54]⟩
def w_37 : Str := ⟨#[55]⟩
def w_38 : Str := ⟨#[56]⟩
def w_39 : Str := ⟨#[57]⟩
def w_39393939393939 : Str := ⟨#[57, 57, 57, 57, 57, 57, 57]⟩
def w_4c : Str := ⟨#[76]⟩
def w_4c20322033 : Str := ⟨#[76, 32, 50, 32, 51]⟩
def w_4d : Str := ⟨#[77]⟩
def w_4d20302030 : Str := ⟨#[77, 32, 48, 32, 48]⟩
def w_4d20312031 : Str := ⟨#[77, 32, 49, 32, 49]⟩
def w_4d4c51 : Str := ⟨#[77, 76, 81]⟩
def w_4d4c51202d303132333435363738390a78 : Str := ⟨#[77, 76, 81, 32, 45, 48, 49, 50, 51, 52, 53, 54, 55, 56, 57, 10, 120]⟩
def w_51 : Str := ⟨#[81]⟩
def w_5120312032 : Str := ⟨#[81, 32, 49, 32, 50]⟩
def w_61 : Str := ⟨#[97]⟩
def w_61626364 : Str := ⟨#[97, 98, 99, 100]⟩
def w_6162636465666768 : Str := ⟨#[97, 98, 99, 100, 101, 102, 103, 104]⟩
def w_6162636465666768696a6b6c6d6e6f707172737475767778797a41 : Str := ⟨#[97, 98, 99, 100, 101, 102, 103, 104, 105, 106, 107, 108, 109, 110, 111, 112, 113, 114, 115, 116, 117, 118, 119, 120, 121, 122, 65]⟩
def w_616476616e6365 : Str := ⟨#[97, 100, 118, 97, 110, 99, 101]⟩
def w_616e79 : Str := ⟨#[97, 110, 121]⟩
def w_6174 : Str := ⟨#[97, 116]⟩
def w_62 : Str := ⟨#[98]⟩
def w_6263646566676869 : Str := ⟨#[98, 99, 100, 101, 102, 103, 104, 105]⟩
def w_6279 : Str := ⟨#[98, 121]⟩
def w_63 : Str := ⟨#[99]⟩
def w_656d : Str := ⟨#[101, 109]⟩
def w_6576656e : Str := ⟨#[101, 118, 101, 110]⟩
def w_66616365 : Str := ⟨#[102, 97, 99, 101]⟩
def w_676c797068 : Str := ⟨#[103, 108, 121, 112, 104]⟩
def w_676c79706873 : Str := ⟨#[103, 108, 121, 112, 104, 115]⟩
def w_686569676874 : Str := ⟨#[104, 101, 105, 103, 104, 116]⟩
def w_68696768 : Str := ⟨#[104, 105, 103, 104]⟩
def w_68696e7473 : Str := ⟨#[104, 105, 110, 116, 115]⟩
def w_6c61746572 : Str := ⟨#[108, 97, 116, 101, 114]⟩
def w_6c6f6f6b5f7061727473 : Str := ⟨#[108, 111, 111, 107, 95, 112, 97, 114, 116, 115]⟩
def w_6e656564 : Str := ⟨#[110, 101, 101, 100]⟩
def w_6f6464 : Str := ⟨#[111, 100, 100]⟩
def w_6f6b : Str := ⟨#[111, 107]⟩
def w_6f75746c696e65 : Str := ⟨#[111, 117, 116, 108, 105, 110, 101]⟩
def w_70616765 : Str := ⟨#[112, 97, 103, 101]⟩
def w_70656e73 : Str := ⟨#[112, 101, 110, 115]⟩
def w_706c616365 : Str := ⟨#[112, 108, 97, 99, 101]⟩
def w_706c6163655f62795f6c696e65 : Str := ⟨#[112, 108, 97, 99, 101, 95, 98, 121, 95, 108, 105, 110, 101]⟩
def w_71 : Str := ⟨#[113]⟩
def w_726566757365 : Str := ⟨#[114, 101, 102, 117, 115, 101]⟩
def w_73656573 : Str := ⟨#[115, 101, 101, 115]⟩
def w_73697a65 : Str := ⟨#[115, 105, 122, 101]⟩
def w_74657874 : Str := ⟨#[116, 101, 120, 116]⟩
def w_746f : Str := ⟨#[116, 111]⟩
def w_746f6f : Str := ⟨#[116, 111, 111]⟩
def w_7475726e : Str := ⟨#[116, 117, 114, 110]⟩
def w_77696465 : Str := ⟨#[119, 105, 100, 101]⟩
def w_77726f6e67 : Str := ⟨#[119, 114, 111, 110, 103]⟩
def w_78 : Str := ⟨#[120]⟩
def w_7879 : Str := ⟨#[120, 121]⟩
def w_7a : Str := ⟨#[122]⟩
def w_nil : Str := ⟨#[]⟩
def t_COUNTS : Tab := [(w_6174, some (.int 3)), (w_746f, some (.int 3)), (w_6279, some (.int 5)), (w_746f6f, none), (w_nil, none)]
def t_LETTERS : Tab := [(w_4d, some (.str w_6174)), (w_4c, some (.str w_746f)), (w_51, some (.str w_6279)), (w_20, none), (w_2d, none), (w_30, none), (w_31, none), (w_32, none), (w_33, none), (w_34, none), (w_35, none), (w_36, none), (w_37, none), (w_38, none), (w_39, none), (w_0a, none), (w_78, none), (w_nil, none)]
/-- look_way -/
def b_look_way_1 : XS :=
    (sSeq (sAsg (xBin dIx (xLook 0) (xLook 1)) (gNm 2))
    (sSeq (sIf (tOr (tB (xBin dNe (xUn (dGetT t_COUNTS) (xBin dIx (xLook 2) (xC (.int 0)))) (xFun (one dLen) (xCons (xLook 2) xNil)))) (tAnd (tB (xBin dGt (xLook 1) (xC (.int 0)))) (tB (xBin dEq (xBin dIx (xLook 2) (xC (.int 0))) (xC (.str w_6174))))))
    (sRaise 0)
    sNil)
    (sIf (tNot (tB (xFun (one bAll) (xCons (xNew (xLc (iSeq (xCut (xLook 2) (xPart (xC (.int 1))) xNoPart)) (gNm 3) tYes (xChain dLe dLe (xUn dNeg (xC (.int 100000))) (xLook 3) (xC (.int 100000))) [3])) xNil))))
    (sRaise 0)
    sNil)))
def x_look_way : XS :=
    (sSeq (sIf (tOr (tNot (tB (xChain dLe dLe (xC (.int 1)) (xFun (one dLen) (xCons (xLook 0) xNil)) (xC (.int 200))))) (tB (xBin dNe (xBin dIx (xBin dIx (xLook 0) (xC (.int 0))) (xC (.int 0))) (xC (.str w_6174)))))
    (sRaise 0)
    sNil)
    (sFor (iRng1 (xFun (one dLen) (xCons (xLook 0) xNil))) (gNm 1) b_look_way_1))
def s_look_way : List D → R Sl := runF 4 x_look_way
/-- look_outline -/
def b_look_outline_1 : XS :=
    (sDrop (xCall (atN 1 s_look_way) (xCons (xVar 1) xNil)))
def x_look_outline : XS :=
    (sSeq (sIf (tB (xBin dGt (xFun (one dLen) (xCons (xLook 0) xNil)) (xC (.int 40))))
    (sRaise 0)
    sNil)
    (sFor (iSeq (xVar 0)) (gNm 1) b_look_outline_1))
def s_look_outline : List D → R Sl := runF 2 x_look_outline
/-- pieces_of -/
def b_pieces_of_1 : XS :=
    (sIf (tB (xBin dEq (xBin dIx (xLook 4) (xC (.int 0))) (xC (.str w_746f))))
    (sSeq (sApp 1 (xTup (xCons (xVar 3) (xCons (xCut (xLook 4) (xPart (xC (.int 1))) xNoPart) xNil))))
    (sAsg (xCut (xLook 4) (xPart (xC (.int 1))) xNoPart) (gNm 3)))
    (sSeq (sApp 1 (xTup (xCons (xVar 3) (xCons (xCut (xLook 4) (xPart (xC (.int 1))) (xPart (xC (.int 3)))) (xCons (xCut (xLook 4) (xPart (xC (.int 3))) xNoPart) xNil)))))
    (sAsg (xCut (xLook 4) (xPart (xC (.int 3))) xNoPart) (gNm 3))))
def x_pieces_of : XS :=
    (sSeq (sOwn 1 (xLst xNil))
    (sSeq (sAsg (xCut (xBin dIx (xLook 0) (xC (.int 0))) (xPart (xC (.int 1))) xNoPart) (gNm 2))
    (sSeq (sAsg (xVar 2) (gNm 3))
    (sSeq (sFor (iSeq (xCut (xLook 0) (xPart (xC (.int 1))) xNoPart)) (gNm 4) b_pieces_of_1)
    (sSeq (sIf (tB (xBin dNe (xLook 3) (xLook 2)))
    (sApp 1 (xTup (xCons (xVar 3) (xCons (xVar 2) xNil))))
    sNil)
    (sRetO 1))))))
def s_pieces_of : List D → R Sl := runF 5 x_pieces_of
/-- all_pieces -/
def b_all_pieces_1 : XS :=
    (sExt 1 (xCall (atN 1 s_pieces_of) (xCons (xVar 2) xNil)))
def x_all_pieces : XS :=
    (sSeq (sOwn 1 (xLst xNil))
    (sSeq (sFor (iSeq (xVar 0)) (gNm 2) b_all_pieces_1)
    (sRetO 1)))
def s_all_pieces : List D → R Sl := runF 3 x_all_pieces
/-- pieces -/
def x_pieces : XS :=
    (sSeq (sDrop (xCall (atN 1 s_look_outline) (xCons (xVar 0) xNil)))
    (sRetN (xCallN (atN 1 s_all_pieces) (xCons (xVar 0) xNil))))
def s_pieces : List D → R Sl := runF 1 x_pieces
/-- _law_cell -/
def x_law_cell : XS :=
    (sSeq (sIf (tTru (xLook 0))
    (sRet (xBin dIx (xLook 0) (xBin dMod (xLook 1) (xFun (one dLen) (xCons (xLook 0) xNil)))))
    sNil)
    (sRet (xC (.int 0))))
def s_law_cell : List D → R Sl := runF 2 x_law_cell
/-- _law_mix -/
def x_law_mix : XS :=
    (sSeq (sAsg (xBin dMod (xBin dAdd (xCall (atN 2 s_law_cell) (xCons (xVar 0) (xCons (xVar 1) xNil))) (xBin dMul (xC (.int 104729)) (xBin dAdd (xLook 1) (xC (.int 1))))) (xC (.int 4294967291))) (gNm 2))
    (sSeq (sAsg (xBin dMod (xBin dPow (xLook 2) (xC (.int 5))) (xC (.int 4294967279))) (gNm 2))
    (sRet (xBin dMod (xBin dAdd (xBin dMul (xBin dDiv (xLook 2) (xC (.int 64))) (xC (.int 69621))) (xLook 2)) (xC (.int 4294967231))))))
def s_law_mix : List D → R Sl := runF 3 x_law_mix
/-- _law_number -/
def x_law_number : XS :=
    (sSeq (sAsg (xCall (atN 2 s_law_mix) (xCons (xVar 0) (xCons (xVar 1) xNil))) (gNm 3))
    (sRet (xBin dIx (xNew (xLst (xCons (xC (.int 0)) (xCons (xC (.int 1)) (xCons (xUn dNeg (xC (.int 1))) (xCons (xBin dSub (xBin dMod (xBin dDiv (xLook 3) (xC (.int 8))) (xC (.int 11))) (xC (.int 5))) (xCons (xBin dSub (xBin dMod (xBin dDiv (xLook 3) (xC (.int 8))) (xBin dAdd (xBin dMul (xC (.int 2)) (xLook 2)) (xC (.int 1)))) (xLook 2)) xNil))))))) (xBin dMod (xLook 3) (xC (.int 5))))))
def s_law_number : List D → R Sl := runF 4 x_law_number
/-- _law_step -/
def x_law_step : XS :=
    (sSeq (sAsg (xCall (atN 2 s_law_mix) (xCons (xVar 0) (xCons (xVar 1) xNil))) (gNm 3))
    (sSeq (sIf (tB (xBin dLt (xBin dMod (xLook 3) (xC (.int 5))) (xC (.int 2))))
    (sRet (xTup (xCons (xC (.str w_746f)) (xCons (xCall (atN 3 s_law_number) (xCons (xVar 0) (xCons (xBin dAdd (xLook 1) (xC (.int 1))) (xCons (xVar 2) xNil)))) (xCons (xCall (atN 3 s_law_number) (xCons (xVar 0) (xCons (xBin dAdd (xLook 1) (xC (.int 2))) (xCons (xVar 2) xNil)))) xNil)))))
    sNil)
    (sSeq (sAsg (xNew (xLc (iRng1 (xC (.int 4))) (gNm 5) tYes (xCall (atN 3 s_law_number) (xCons (xVar 0) (xCons (xBin dAdd (xBin dAdd (xLook 1) (xC (.int 1))) (xLook 5)) (xCons (xVar 2) xNil)))) [5])) (gNm 4))
    (sRet (xBin dAdd (xTup (xCons (xC (.str w_6279)) xNil)) (xFun (one dTupOf) (xCons (xLook 4) xNil)))))))
def s_law_step : List D → R Sl := runF 6 x_law_step
/-- _law_way -/
def b_law_way_1 : XS :=
    (sApp 3 (xCall (atN 3 s_law_step) (xCons (xVar 0) (xCons (xBin dAdd (xBin dAdd (xLook 1) (xC (.int 3))) (xBin dMul (xC (.int 3)) (xLook 4))) (xCons (xVar 2) xNil)))))
def x_law_way : XS :=
    (sSeq (sOwn 3 (xLst (xCons (xTup (xCons (xC (.str w_6174)) (xCons (xCall (atN 3 s_law_number) (xCons (xVar 0) (xCons (xVar 1) (xCons (xVar 2) xNil)))) (xCons (xCall (atN 3 s_law_number) (xCons (xVar 0) (xCons (xBin dAdd (xLook 1) (xC (.int 1))) (xCons (xVar 2) xNil)))) xNil)))) xNil)))
    (sSeq (sFor (iRng1 (xBin dMod (xCall (atN 2 s_law_mix) (xCons (xVar 0) (xCons (xBin dAdd (xLook 1) (xC (.int 2))) xNil))) (xC (.int 5)))) (gNm 4) b_law_way_1)
    (sRetO 3)))
def s_law_way : List D → R Sl := runF 5 x_law_way
/-- _law_outline -/
def x_law_outline : XS :=
    (sRetN (xLc (iRng1 (xBin dIx (xNew (xLst (xCons (xC (.int 1)) (xCons (xC (.int 1)) (xCons (xC (.int 2)) (xCons (xC (.int 3)) (xCons (xC (.int 0)) (xCons (xC (.int 2)) xNil)))))))) (xBin dMod (xCall (atN 2 s_law_mix) (xCons (xVar 0) (xCons (xBin dAdd (xLook 1) (xC (.int 70))) xNil))) (xC (.int 6))))) (gNm 3) tYes (xCall (atN 3 s_law_way) (xCons (xVar 0) (xCons (xBin dAdd (xLook 1) (xBin dMul (xC (.int 20)) (xLook 3))) (xCons (xVar 2) xNil)))) [3]))
def s_law_outline : List D → R Sl := runF 4 x_law_outline
/-- _law_refusal -/
def x_law_refusal : XS :=
    (sSeq (sIf (tB (xBin dIsN (xLook 0) (xC .non)))
    (sRet (xC (.str w_6f6b)))
    sNil)
    (sSeq (sAsg (xNew (xLst (xCons (xUn (bIsX 0) (xLook 0)) (xCons (xUn (bIsX 1) (xLook 0)) (xCons (xUn (bIsX 2) (xLook 0)) xNil))))) (gNm 1))
    (sSeq (sAsg (xBin dAdd (xLook 1) (xNew (xLst (xCons (xUn (bIsX 3) (xLook 0)) (xCons (xUn (bIsX 4) (xLook 0)) (xCons (xUn (bIsX 5) (xLook 0)) xNil)))))) (gNm 1))
    (sSeq (sIf (tOr (tB (xBin dNe (xMeth dCount (xLook 1) (xC (.bl true))) (xC (.int 1)))) (tNot (tB (xUn bIsV (xLook 0)))))
    (sRet (xC (.str w_77726f6e67)))
    sNil)
    (sRet (xBin dIx (xNew (xLst (xCons (xC (.str w_6f75746c696e65)) (xCons (xC (.str w_74657874)) (xCons (xC (.str w_73697a65)) (xCons (xC (.str w_68696e7473)) (xCons (xC (.str w_66616365)) (xCons (xC (.str w_676c797068)) xNil)))))))) (xMeth dIndex (xLook 1) (xC (.bl true)))))))))
def s_law_refusal : List D → R Sl := runF 2 x_law_refusal
/-- way_of -/
def b_way_of_1 : XS :=
    (sIf (tB (xBin dEq (xFun (one dLen) (xCons (xLook 2) xNil)) (xC (.int 2))))
    (sApp 1 (xBin dAdd (xTup (xCons (xC (.str w_746f)) xNil)) (xBin dIx (xLook 2) (xC (.int 1)))))
    (sApp 1 (xBin dAdd (xBin dAdd (xTup (xCons (xC (.str w_6279)) xNil)) (xBin dIx (xLook 2) (xC (.int 1)))) (xBin dIx (xLook 2) (xC (.int 2))))))
def x_way_of : XS :=
    (sSeq (sOwn 1 (xLst (xCons (xBin dAdd (xTup (xCons (xC (.str w_6174)) xNil)) (xBin dIx (xBin dIx (xLook 0) (xC (.int 0))) (xC (.int 0)))) xNil)))
    (sSeq (sFor (iSeq (xVar 0)) (gNm 2) b_way_of_1)
    (sRetO 1)))
def s_way_of : List D → R Sl := runF 3 x_way_of
/-- turned_about -/
def b_turned_about_1 : XS :=
    (sSeq (sAsg (xNew (xLc (iRev (xCall (atN 1 s_pieces_of) (xCons (xVar 2) xNil))) (gNm 4) tYes (xUn dBack (xLook 4)) [4])) (gNm 3))
    (sApp 1 (xIf (tTru (xLook 3)) (xCall (atN 1 s_way_of) (xCons (xVar 3) xNil)) (xNew (xFunN bList (xCons (xLook 2) xNil))))))
def x_turned_about : XS :=
    (sSeq (sDrop (xCall (atN 1 s_look_outline) (xCons (xVar 0) xNil)))
    (sSeq (sOwn 1 (xLst xNil))
    (sSeq (sFor (iSeq (xVar 0)) (gNm 2) b_turned_about_1)
    (sSeq (sFrz 1) (sSeq (sDrop (xCall (atN 1 s_look_outline) (xCons (xVar 1) xNil)))
    (sSeq (sFrz 1) (sRet (xVar 1))))))))
def s_turned_about : List D → R Sl := runF 5 x_turned_about
/-- moved_step -/
def b_moved_step_1 : XS :=
    (sApp 3 (xBin dAdd (xBin dMul (xBin dIx (xLook 0) (xLook 4)) (xLook 1)) (xBin dIx (xLook 2) (xBin dMod (xBin dSub (xLook 4) (xC (.int 1))) (xC (.int 2))))))
def x_moved_step : XS :=
    (sSeq (sOwn 3 (xLst xNil))
    (sSeq (sFor (iRng2 (xC (.int 1)) (xFun (one dLen) (xCons (xLook 0) xNil))) (gNm 4) b_moved_step_1)
    (sRet (xBin dAdd (xTup (xCons (xBin dIx (xLook 0) (xC (.int 0))) xNil)) (xFun (one dTupOf) (xCons (xLook 3) xNil))))))
def s_moved_step : List D → R Sl := runF 5 x_moved_step
/-- scaled -/
def b_scaled_1 : XS :=
    (sApp 3 (xNew (xLc (iSeq (xVar 4)) (gNm 5) tYes (xCall (atN 3 s_moved_step) (xCons (xVar 5) (xCons (xVar 1) (xCons (xVar 2) xNil)))) [5])))
def x_scaled : XS :=
    (sSeq (sDrop (xCall (atN 1 s_look_outline) (xCons (xVar 0) xNil)))
    (sSeq (sOwn 3 (xLst xNil))
    (sSeq (sFor (iSeq (xVar 0)) (gNm 4) b_scaled_1)
    (sRetO 3))))
def s_scaled : List D → R Sl := runF 6 x_scaled
/-- moved -/
def x_moved : XS :=
    (sSeq (sAsg (xCall (atN 3 s_scaled) (xCons (xVar 0) (xCons (xVar 1) (xCons (xVar 2) xNil)))) (gNm 3))
    (sSeq (sDrop (xCall (atN 1 s_look_outline) (xCons (xVar 3) xNil)))
    (sRet (xVar 3))))
def s_moved : List D → R Sl := runF 4 x_moved
/-- _law_pieces -/
def b_law_pieces_1 : XS :=
    (sSeq (sApp 1 (xBin dAdd (xTup (xCons (xVar 3) xNil)) (xFun (one dTupOf) (xCons (xNew (xLc (iRng3 (xC (.int 1)) (xFun (one dLen) (xCons (xLook 4) xNil)) (xC (.int 2))) (gNm 5) tYes (xCut (xLook 4) (xPart (xLook 5)) (xPart (xBin dAdd (xLook 5) (xC (.int 2))))) [5])) xNil))))
    (sAsg (xCut (xLook 4) (xPart (xUn dNeg (xC (.int 2)))) xNoPart) (gNm 3)))
def b_law_pieces_2 : XS :=
    (sSeq (sAsg (xCut (xBin dIx (xLook 2) (xC (.int 0))) (xPart (xC (.int 1))) xNoPart) (gNm 3))
    (sSeq (sFor (iSeq (xCut (xLook 2) (xPart (xC (.int 1))) xNoPart)) (gNm 4) b_law_pieces_1)
    (sIf (tB (xBin dNe (xLook 3) (xCut (xBin dIx (xLook 2) (xC (.int 0))) (xPart (xC (.int 1))) xNoPart)))
    (sApp 1 (xTup (xCons (xVar 3) (xCons (xCut (xBin dIx (xLook 2) (xC (.int 0))) (xPart (xC (.int 1))) xNoPart) xNil))))
    sNil)))
def x_law_pieces : XS :=
    (sSeq (sOwn 1 (xLst xNil))
    (sSeq (sFor (iSeq (xVar 0)) (gNm 2) b_law_pieces_2)
    (sRetO 1)))
def s_law_pieces : List D → R Sl := runF 6 x_law_pieces
/-- middle -/
def x_middle : XS :=
    (sRet (xTup (xCons (xBin dAdd (xBin dIx (xLook 0) (xC (.int 0))) (xBin dIx (xLook 1) (xC (.int 0)))) (xCons (xBin dAdd (xBin dIx (xLook 0) (xC (.int 1))) (xBin dIx (xLook 1) (xC (.int 1)))) xNil))))
def s_middle : List D → R Sl := runF 2 x_middle
/-- halved -/
def b_halved_1 : XS :=
    (sSeq (sIf (tB (xBin dEq (xBin dIx (xLook 5) (xC (.int 0))) (xC (.str w_6279))))
    (sSeq (sAsg (xCall (atN 2 s_middle) (xCons (xCall (atN 2 s_middle) (xCons (xVar 4) (xCons (xCut (xLook 5) (xPart (xC (.int 1))) (xPart (xC (.int 3)))) xNil))) (xCons (xCall (atN 2 s_middle) (xCons (xCut (xLook 5) (xPart (xC (.int 1))) (xPart (xC (.int 3)))) (xCons (xCut (xLook 5) (xPart (xC (.int 3))) xNoPart) xNil))) xNil))) (gNm 6))
    (sSeq (sAsg (xCall (atN 2 s_middle) (xCons (xVar 4) (xCons (xCut (xLook 5) (xPart (xC (.int 1))) (xPart (xC (.int 3)))) xNil))) (gNm 7))
    (sSeq (sAsg (xCall (atN 2 s_middle) (xCons (xCut (xLook 5) (xPart (xC (.int 1))) (xPart (xC (.int 3)))) (xCons (xCut (xLook 5) (xPart (xC (.int 3))) xNoPart) xNil))) (gNm 8))
    (sSeq (sApp 3 (xBin dAdd (xTup (xCons (xC (.str w_6279)) (xCons (xBin dMul (xC (.int 2)) (xBin dIx (xLook 7) (xC (.int 0)))) (xCons (xBin dMul (xC (.int 2)) (xBin dIx (xLook 7) (xC (.int 1)))) xNil)))) (xLook 6)))
    (sApp 3 (xTup (xCons (xC (.str w_6279)) (xCons (xBin dMul (xC (.int 2)) (xBin dIx (xLook 8) (xC (.int 0)))) (xCons (xBin dMul (xC (.int 2)) (xBin dIx (xLook 8) (xC (.int 1)))) (xCons (xBin dMul (xC (.int 4)) (xBin dIx (xLook 5) (xC (.int 3)))) (xCons (xBin dMul (xC (.int 4)) (xBin dIx (xLook 5) (xC (.int 4)))) xNil)))))))))))
    (sApp 3 (xCall (atN 3 s_moved_step) (xCons (xVar 5) (xCons (xC (.int 4)) (xCons (xTup (xCons (xC (.int 0)) (xCons (xC (.int 0)) xNil))) xNil))))))
    (sAsg (xCut (xLook 5) (xPart (xUn dNeg (xC (.int 2)))) xNoPart) (gNm 4)))
def b_halved_2 : XS :=
    (sSeq (sOwn 3 (xLst xNil))
    (sSeq (sAsg (xCut (xBin dIx (xLook 2) (xC (.int 0))) (xPart (xC (.int 1))) xNoPart) (gNm 4))
    (sSeq (sFor (iSeq (xVar 2)) (gNm 5) b_halved_1)
    (sSeq (sFrz 3) (sApp 1 (xVar 3))))))
def x_halved : XS :=
    (sSeq (sDrop (xCall (atN 1 s_look_outline) (xCons (xVar 0) xNil)))
    (sSeq (sOwn 1 (xLst xNil))
    (sSeq (sFor (iSeq (xVar 0)) (gNm 2) b_halved_2)
    (sSeq (sFrz 1) (sSeq (sDrop (xCall (atN 1 s_look_outline) (xCons (xVar 1) xNil)))
    (sSeq (sFrz 1) (sRet (xVar 1))))))))
def s_halved : List D → R Sl := runF 9 x_halved
/-- of_dots -/
def b_of_dots_1 : XS :=
    (sSeq (sAsg (xBin dIx (xLook 0) (xLook 2)) (gTp (Gy.gCons (gNm 3) (Gy.gCons (gNm 4) (Gy.gCons (gNm 5) gNil)))))
    (sSeq (sAsg (xBin dIx (xLook 0) (xBin dSub (xLook 2) (xC (.int 1)))) (gNm 6))
    (sSeq (sIf (tAnd (tNot (tTru (xLook 5))) (tNot (tTru (xBin dIx (xLook 6) (xC (.int 2))))))
    (sApp 1 (xTup (xCons (xCall (atN 2 s_middle) (xCons (xCut (xLook 6) xNoPart (xPart (xC (.int 2)))) (xCons (xTup (xCons (xVar 3) (xCons (xVar 4) xNil))) xNil))) (xCons (xC (.bl true)) xNil))))
    sNil)
    (sApp 1 (xTup (xCons (xTup (xCons (xBin dMul (xC (.int 2)) (xLook 3)) (xCons (xBin dMul (xC (.int 2)) (xLook 4)) xNil))) (xCons (xVar 5) xNil)))))))
def b_of_dots_2 : XS :=
    (sIf (tNot (tTru (xLook 5)))
    (sAsg (xVar 10) (gNm 9))
    (sIf (tB (xBin dIsN (xLook 9) (xC .non)))
    (sApp 8 (xBin dAdd (xTup (xCons (xC (.str w_746f)) xNil)) (xLook 10)))
    (sSeq (sApp 8 (xBin dAdd (xBin dAdd (xTup (xCons (xC (.str w_6279)) xNil)) (xLook 9)) (xLook 10)))
    (sAsg (xC .non) (gNm 9)))))
def x_of_dots : XS :=
    (sSeq (sIf (tNot (tTru (xLook 0)))
    (sRaise 0)
    sNil)
    (sSeq (sOwn 1 (xLst xNil))
    (sSeq (sFor (iRng1 (xFun (one dLen) (xCons (xLook 0) xNil))) (gNm 2) b_of_dots_1)
    (sSeq (sAsg (xBin dIx (xNew (xLc (iRng1 (xFun (one dLen) (xCons (xLook 1) xNil))) (gNm 2) (tTru (xBin dIx (xBin dIx (xLook 1) (xLook 2)) (xC (.int 1)))) (xVar 2) [2])) (xC (.int 0))) (gNm 7))
    (sSeq (sOwn 1 (xCat (xBin dAdd (xCut (xLook 1) (xPart (xLook 7)) xNoPart) (xCut (xLook 1) xNoPart (xPart (xLook 7)))) (xNew (xLst (xCons (xBin dIx (xLook 1) (xLook 7)) xNil)))))
    (sSeq (sOwn 8 (xLst (xCons (xBin dAdd (xTup (xCons (xC (.str w_6174)) xNil)) (xBin dIx (xBin dIx (xLook 1) (xC (.int 0))) (xC (.int 0)))) xNil)))
    (sSeq (sAsg (xC .non) (gNm 9))
    (sSeq (sFor (iSeq (xCut (xLook 1) (xPart (xC (.int 1))) xNoPart)) (gTp (Gy.gCons (gNm 10) (Gy.gCons (gNm 5) gNil))) b_of_dots_2)
    (sSeq (sFrz 8) (sSeq (sDrop (xCall (atN 1 s_look_way) (xCons (xVar 8) xNil)))
    (sSeq (sFrz 8) (sRet (xVar 8)))))))))))))
def s_of_dots : List D → R Sl := runF 11 x_of_dots
/-- step_text -/
def x_step_text : XS :=
    (sSeq (sAsg (xBin dIx (xNew (xLc (iTab t_LETTERS) (gNm 2) (tB (xBin dEq (xUn (dAtT t_LETTERS) (xLook 2)) (xBin dIx (xLook 0) (xC (.int 0))))) (xVar 2) [2])) (xC (.int 0))) (gNm 1))
    (sRet (xBin dJoin (xC (.str w_20)) (xBin dAdd (xNew (xLst (xCons (xVar 1) xNil))) (xNew (xLc (iSeq (xCut (xLook 0) (xPart (xC (.int 1))) xNoPart)) (gNm 3) tYes (xFun (one bStr) (xCons (xLook 3) xNil)) [3]))))))
def s_step_text : List D → R Sl := runF 4 x_step_text
/-- written -/
def x_written : XS :=
    (sSeq (sDrop (xCall (atN 1 s_look_outline) (xCons (xVar 0) xNil)))
    (sRet (xBin dJoin (xC (.str w_0a)) (xNew (xLc (iSeq (xVar 0)) (gNm 1) tYes (xBin dJoin (xC (.str w_20)) (xNew (xLc (iSeq (xVar 1)) (gNm 2) tYes (xCall (atN 1 s_step_text) (xCons (xVar 2) xNil)) [2]))) [1])))))
def s_written : List D → R Sl := runF 3 x_written
/-- _law_whole -/
def x_law_whole : XS :=
    (sRet (xAnd (xUn (bIs .int) (xLook 0)) (xUn dNot (xUn (bIs .bool) (xLook 0)))))
def s_law_whole : List D → R Sl := runF 1 x_law_whole
/-- _law_step_text -/
def x_law_step_text : XS :=
    (sRet (xBin dJoin (xC (.str w_20)) (xBin dAdd (xNew (xLst (xCons (xUn (dAtL [(w_6174, (.str w_4d)), (w_746f, (.str w_4c)), (w_6279, (.str w_51))]) (xBin dIx (xLook 0) (xC (.int 0)))) xNil))) (xNew (xLc (iSeq (xCut (xLook 0) (xPart (xC (.int 1))) xNoPart)) (gNm 1) tYes (xFun (one bStr) (xCons (xLook 1) xNil)) [1])))))
def s_law_step_text : List D → R Sl := runF 2 x_law_step_text
/-- _law_text -/
def x_law_text : XS :=
    (sRet (xBin dJoin (xC (.str w_0a)) (xNew (xLc (iSeq (xVar 0)) (gNm 1) tYes (xBin dJoin (xC (.str w_20)) (xNew (xLc (iSeq (xVar 1)) (gNm 2) tYes (xCall (atN 1 s_law_step_text) (xCons (xVar 2) xNil)) [2]))) [1]))))
def s_law_text : List D → R Sl := runF 3 x_law_text
/-- sign_of -/
def x_sign_of : XS :=
    (sRet (xBin dSub (xFun (one bInt) (xCons (xBin dGt (xLook 0) (xC (.int 0))) xNil)) (xFun (one bInt) (xCons (xBin dLt (xLook 0) (xC (.int 0))) xNil))))
def s_sign_of : List D → R Sl := runF 1 x_sign_of
/-- line_side -/
def x_line_side : XS :=
    (sSeq (sAsg (xVar 0) (gTp (Gy.gCons (gNm 2) (Gy.gCons (gNm 3) gNil))))
    (sSeq (sAsg (xCall (atN 1 s_sign_of) (xCons (xBin dSub (xBin dIx (xLook 3) (xC (.int 1))) (xBin dIx (xLook 2) (xC (.int 1)))) xNil)) (gNm 4))
    (sSeq (sAsg (xIf (tB (xBin dGt (xLook 4) (xC (.int 0)))) (xTup (xCons (xVar 2) (xCons (xVar 3) xNil))) (xTup (xCons (xVar 3) (xCons (xVar 2) xNil)))) (gTp (Gy.gCons (gNm 5) (Gy.gCons (gNm 6) gNil))))
    (sSeq (sIf (tOr (tB (xBin dEq (xLook 4) (xC (.int 0)))) (tNot (tB (xChain dLe dLt (xBin dIx (xLook 5) (xC (.int 1))) (xBin dIx (xLook 1) (xC (.int 1))) (xBin dIx (xLook 6) (xC (.int 1)))))))
    (sRet (xC (.int 0)))
    sNil)
    (sSeq (sAsg (xBin dSub (xBin dMul (xBin dSub (xBin dIx (xLook 6) (xC (.int 0))) (xBin dIx (xLook 5) (xC (.int 0)))) (xBin dSub (xBin dIx (xLook 1) (xC (.int 1))) (xBin dIx (xLook 5) (xC (.int 1))))) (xBin dMul (xBin dSub (xBin dIx (xLook 1) (xC (.int 0))) (xBin dIx (xLook 5) (xC (.int 0)))) (xBin dSub (xBin dIx (xLook 6) (xC (.int 1))) (xBin dIx (xLook 5) (xC (.int 1)))))) (gNm 7))
    (sRet (xIf (tB (xBin dGt (xLook 7) (xC (.int 0)))) (xVar 4) (xC (.int 0)))))))))
def s_line_side : List D → R Sl := runF 8 x_line_side
/-- Bend_height -/
def x_Bend_height : XS :=
    (sSeq (sAsg (xUn (dFld 7 w_68696768) (xVar 0)) (gTp (Gy.gCons (gNm 3) (Gy.gCons (gNm 4) (Gy.gCons (gNm 5) gNil)))))
    (sRet (xCall (atN 1 s_sign_of) (xCons (xBin dAdd (xBin dAdd (xBin dMul (xBin dMul (xLook 3) (xLook 1)) (xLook 1)) (xBin dMul (xBin dMul (xLook 4) (xLook 1)) (xLook 2))) (xBin dMul (xBin dMul (xLook 5) (xLook 2)) (xLook 2))) xNil))))
def s_Bend_height : List D → R Sl := runF 6 x_Bend_height
/-- Bend_place_by_line -/
def x_Bend_place_by_line : XS :=
    (sSeq (sAsg (xCut (xUn (dFld 7 w_68696768) (xVar 0)) (xPart (xC (.int 1))) xNoPart) (gTp (Gy.gCons (gNm 1) (Gy.gCons (gNm 2) gNil))))
    (sSeq (sAsg (xUn (dFld 7 w_77696465) (xVar 0)) (gTp (Gy.gCons (gNm 3) (Gy.gCons (gNm 4) (Gy.gCons (gNm 5) gNil)))))
    (sRet (xCall (atN 1 s_sign_of) (xCons (xBin dAdd (xBin dSub (xBin dMul (xBin dMul (xLook 3) (xLook 2)) (xLook 2)) (xBin dMul (xBin dMul (xLook 4) (xLook 2)) (xLook 1))) (xBin dMul (xBin dMul (xLook 5) (xLook 1)) (xLook 1))) xNil)))))
def s_Bend_place_by_line : List D → R Sl := runF 6 x_Bend_place_by_line
/-- Bend_later -/
def x_Bend_later : XS :=
    (sSeq (sAsg (xVar 4) (gTp (Gy.gCons (gNm 5) (Gy.gCons (gNm 6) gNil))))
    (sSeq (sIf (tB (xBin dLe (xBin dMul (xLook 5) (xBin dIx (xLook 1) (xC (.int 1)))) (xBin dMul (xBin dIx (xLook 1) (xC (.int 0))) (xLook 6))))
    (sSeq (sAsg (xObjM 7 w_686569676874 3 s_Bend_height (xVar 0) (xCons (xBin dIx (xLook 1) (xC (.int 0))) (xCons (xBin dIx (xLook 1) (xC (.int 1))) xNil))) (gNm 7))
    (sRet (xIf (tOr (tB (xBin dNe (xLook 7) (xC (.int 0)))) (tB (xBin dLt (xBin dMul (xLook 5) (xBin dIx (xLook 1) (xC (.int 1)))) (xBin dMul (xBin dIx (xLook 1) (xC (.int 0))) (xLook 6))))) (xC (.int 1)) (xC (.int 0)))))
    sNil)
    (sSeq (sIf (tB (xBin dGe (xBin dMul (xLook 5) (xBin dIx (xLook 2) (xC (.int 1)))) (xBin dMul (xBin dIx (xLook 2) (xC (.int 0))) (xLook 6))))
    (sSeq (sAsg (xObjM 7 w_686569676874 3 s_Bend_height (xVar 0) (xCons (xBin dIx (xLook 2) (xC (.int 0))) (xCons (xBin dIx (xLook 2) (xC (.int 1))) xNil))) (gNm 8))
    (sRet (xIf (tOr (tB (xBin dNe (xLook 8) (xC (.int 0)))) (tB (xBin dGt (xBin dMul (xLook 5) (xBin dIx (xLook 2) (xC (.int 1)))) (xBin dMul (xBin dIx (xLook 2) (xC (.int 0))) (xLook 6))))) (xUn dNeg (xC (.int 1))) (xC (.int 0)))))
    sNil)
    (sRet (xBin dMul (xUn dNeg (xLook 3)) (xObjM 7 w_686569676874 3 s_Bend_height (xVar 0) (xCons (xVar 5) (xCons (xVar 6) xNil))))))))
def s_Bend_later : List D → R Sl := runF 9 x_Bend_later
/-- Bend_place -/
def x_Bend_place : XS :=
    (sSeq (sAsg (xBin dIx (xUn (dFld 7 w_68696768) (xVar 0)) (xC (.int 0))) (gNm 4))
    (sSeq (sIf (tB (xBin dEq (xLook 4) (xC (.int 0))))
    (sRet (xObjM 7 w_706c6163655f62795f6c696e65 1 s_Bend_place_by_line (xVar 0) xNil))
    sNil)
    (sSeq (sAsg (xBin dSub (xBin dMul (xBin dIx (xUn (dFld 7 w_77696465) (xVar 0)) (xC (.int 1))) (xLook 4)) (xBin dMul (xBin dIx (xUn (dFld 7 w_77696465) (xVar 0)) (xC (.int 0))) (xBin dIx (xUn (dFld 7 w_68696768) (xVar 0)) (xC (.int 1))))) (gNm 5))
    (sSeq (sAsg (xBin dSub (xBin dMul (xBin dIx (xUn (dFld 7 w_77696465) (xVar 0)) (xC (.int 2))) (xLook 4)) (xBin dMul (xBin dIx (xUn (dFld 7 w_77696465) (xVar 0)) (xC (.int 0))) (xBin dIx (xUn (dFld 7 w_68696768) (xVar 0)) (xC (.int 2))))) (gNm 6))
    (sSeq (sIf (tB (xBin dEq (xLook 5) (xC (.int 0))))
    (sRet (xBin dMul (xCall (atN 1 s_sign_of) (xCons (xVar 6) xNil)) (xCall (atN 1 s_sign_of) (xCons (xVar 4) xNil))))
    sNil)
    (sSeq (sAsg (xIf (tB (xBin dGt (xLook 5) (xC (.int 0)))) (xTup (xCons (xUn dNeg (xLook 6)) (xCons (xVar 5) xNil))) (xTup (xCons (xVar 6) (xCons (xUn dNeg (xLook 5)) xNil)))) (gTp (Gy.gCons (gNm 7) (Gy.gCons (gNm 8) gNil))))
    (sRet (xBin dMul (xBin dMul (xObjM 7 w_6c61746572 5 s_Bend_later (xVar 0) (xCons (xVar 1) (xCons (xVar 2) (xCons (xVar 3) (xCons (xTup (xCons (xVar 7) (xCons (xVar 8) xNil))) xNil))))) (xCall (atN 1 s_sign_of) (xCons (xVar 5) xNil))) (xCall (atN 1 s_sign_of) (xCons (xVar 4) xNil))))))))))
def s_Bend_place : List D → R Sl := runF 9 x_Bend_place
/-- half_side -/
def x_half_side : XS :=
    (sSeq (sAsg (xObjM 7 w_686569676874 3 s_Bend_height (xVar 0) (xCons (xBin dIx (xLook 1) (xC (.int 0))) (xCons (xBin dIx (xLook 1) (xC (.int 1))) xNil))) (gNm 3))
    (sSeq (sAsg (xObjM 7 w_686569676874 3 s_Bend_height (xVar 0) (xCons (xBin dIx (xLook 2) (xC (.int 0))) (xCons (xBin dIx (xLook 2) (xC (.int 1))) xNil))) (gNm 4))
    (sSeq (sIf (tB (xChain dLe dLt (xLook 3) (xC (.int 0)) (xLook 4)))
    (sRet (xFun (one bInt) (xCons (xBin dGt (xObjM 7 w_706c616365 4 s_Bend_place (xVar 0) (xCons (xVar 1) (xCons (xVar 2) (xCons (xC (.int 1)) xNil)))) (xC (.int 0))) xNil)))
    sNil)
    (sSeq (sIf (tB (xChain dLe dLt (xLook 4) (xC (.int 0)) (xLook 3)))
    (sRet (xUn dNeg (xFun (one bInt) (xCons (xBin dGt (xObjM 7 w_706c616365 4 s_Bend_place (xVar 0) (xCons (xVar 1) (xCons (xVar 2) (xCons (xUn dNeg (xC (.int 1))) xNil)))) (xC (.int 0))) xNil))))
    sNil)
    (sRet (xC (.int 0)))))))
def s_half_side : List D → R Sl := runF 5 x_half_side
/-- Bend_turn -/
def x_Bend_turn : XS :=
    (sSeq (sAsg (xCut (xUn (dFld 7 w_68696768) (xVar 0)) xNoPart (xPart (xC (.int 2)))) (gTp (Gy.gCons (gNm 1) (Gy.gCons (gNm 2) gNil))))
    (sSeq (sIf (tB (xBin dEq (xLook 1) (xC (.int 0))))
    (sRet (xC .non))
    sNil)
    (sSeq (sAsg (xIf (tB (xBin dGt (xLook 1) (xC (.int 0)))) (xTup (xCons (xUn dNeg (xLook 2)) (xCons (xBin dMul (xC (.int 2)) (xLook 1)) xNil))) (xTup (xCons (xVar 2) (xCons (xBin dMul (xUn dNeg (xC (.int 2))) (xLook 1)) xNil)))) (gTp (Gy.gCons (gNm 3) (Gy.gCons (gNm 4) gNil))))
    (sRet (xIf (tB (xChain dLt dLt (xC (.int 0)) (xLook 3) (xLook 4))) (xTup (xCons (xVar 3) (xCons (xVar 4) xNil))) (xC .non))))))
def s_Bend_turn : List D → R Sl := runF 5 x_Bend_turn
/-- Bend_init -/
def x_Bend_init : XS :=
    (sSeq (sAsg (xVar 1) (gTp (Gy.gCons (gNm 3) (Gy.gCons (gNm 4) (Gy.gCons (gNm 5) gNil)))))
    (sSeq (sSelf 7 0 w_68696768 (xTup (xCons (xBin dAdd (xBin dSub (xBin dIx (xLook 3) (xC (.int 1))) (xBin dMul (xC (.int 2)) (xBin dIx (xLook 4) (xC (.int 1))))) (xBin dIx (xLook 5) (xC (.int 1)))) (xCons (xBin dMul (xC (.int 2)) (xBin dSub (xBin dIx (xLook 4) (xC (.int 1))) (xBin dIx (xLook 3) (xC (.int 1))))) (xCons (xBin dSub (xBin dIx (xLook 3) (xC (.int 1))) (xBin dIx (xLook 2) (xC (.int 1)))) xNil)))))
    (sSelf 7 0 w_77696465 (xTup (xCons (xBin dAdd (xBin dSub (xBin dIx (xLook 3) (xC (.int 0))) (xBin dMul (xC (.int 2)) (xBin dIx (xLook 4) (xC (.int 0))))) (xBin dIx (xLook 5) (xC (.int 0)))) (xCons (xBin dMul (xC (.int 2)) (xBin dSub (xBin dIx (xLook 4) (xC (.int 0))) (xBin dIx (xLook 3) (xC (.int 0))))) (xCons (xBin dSub (xBin dIx (xLook 3) (xC (.int 0))) (xBin dIx (xLook 2) (xC (.int 0)))) xNil)))))))
def s_Bend_init : Nat → List D → R (List (Str × D)) := runI 6 7 x_Bend_init
/-- bend_side -/
def x_bend_side : XS :=
    (sSeq (sAsg (xMake 7 3 s_Bend_init (xCons (xVar 0) (xCons (xVar 1) xNil))) (gNm 2))
    (sSeq (sAsg (xObjM 7 w_7475726e 1 s_Bend_turn (xVar 2) xNil) (gNm 3))
    (sSeq (sIf (tB (xBin dIsN (xLook 3) (xC .non)))
    (sRet (xCall (atN 3 s_half_side) (xCons (xVar 2) (xCons (xTup (xCons (xC (.int 0)) (xCons (xC (.int 1)) xNil))) (xCons (xTup (xCons (xC (.int 1)) (xCons (xC (.int 1)) xNil))) xNil)))))
    sNil)
    (sRet (xBin dAdd (xCall (atN 3 s_half_side) (xCons (xVar 2) (xCons (xTup (xCons (xC (.int 0)) (xCons (xC (.int 1)) xNil))) (xCons (xVar 3) xNil)))) (xCall (atN 3 s_half_side) (xCons (xVar 2) (xCons (xVar 3) (xCons (xTup (xCons (xC (.int 1)) (xCons (xC (.int 1)) xNil))) xNil)))))))))
def s_bend_side : List D → R Sl := runF 4 x_bend_side
/-- rounds -/
def b_rounds_1 : XS :=
    (sAsg (xBin dAdd (xLook 2) (xIf (tB (xBin dEq (xFun (one dLen) (xCons (xLook 3) xNil)) (xC (.int 2)))) (xCall (atN 2 s_line_side) (xCons (xVar 3) (xCons (xVar 1) xNil))) (xCall (atN 2 s_bend_side) (xCons (xVar 3) (xCons (xVar 1) xNil))))) (gNm 2))
def x_rounds : XS :=
    (sSeq (sAsg (xC (.int 0)) (gNm 2))
    (sSeq (sFor (iSeq (xVar 0)) (gNm 3) b_rounds_1)
    (sRet (xVar 2))))
def s_rounds : List D → R Sl := runF 4 x_rounds
/-- winding -/
def x_winding : XS :=
    (sRet (xCall (atN 2 s_rounds) (xCons (xCall (atN 1 s_pieces) (xCons (xVar 0) xNil)) (xCons (xVar 1) xNil))))
def s_winding : List D → R Sl := runF 2 x_winding
/-- is_filled -/
def x_is_filled : XS :=
    (sRet (xIf (tB (xBin dEq (xLook 1) (xC (.str w_6f6464)))) (xBin dEq (xBin dMod (xLook 0) (xC (.int 2))) (xC (.int 1))) (xBin dNe (xLook 0) (xC (.int 0)))))
def s_is_filled : List D → R Sl := runF 2 x_is_filled
/-- is_inside -/
def x_is_inside : XS :=
    (sRet (xCall (atN 2 s_is_filled) (xCons (xCall (atN 2 s_winding) (xCons (xVar 0) (xCons (xVar 1) xNil))) (xCons (xVar 2) xNil))))
def s_is_inside : List D → R Sl := runF 3 x_is_inside
/-- _law_point -/
def x_law_point : XS :=
    (sSeq (sAsg (xCall (atN 2 s_law_mix) (xCons (xVar 0) (xCons (xVar 1) xNil))) (gNm 4))
    (sSeq (sAsg (xCall (atN 1 s_law_pieces) (xCons (xVar 2) xNil)) (gNm 5))
    (sSeq (sIf (tAnd (tTru (xLook 5)) (tB (xBin dGt (xBin dMod (xLook 4) (xC (.int 4))) (xC (.int 0)))))
    (sSeq (sAsg (xBin dIx (xLook 5) (xBin dMod (xBin dDiv (xLook 4) (xC (.int 4))) (xFun (one dLen) (xCons (xLook 5) xNil)))) (gNm 6))
    (sSeq (sPar 7 8 (xCons (xBin dIx (xLook 6) (xC (.int 0))) (xCons (xBin dIx (xLook 6) (xUn dNeg (xC (.int 1)))) xNil)))
    (sSeq (sAsg (xBin dIx (xLook 6) (xBin dDiv (xFun (one dLen) (xCons (xLook 6) xNil)) (xC (.int 2)))) (gNm 9))
    (sSeq (sOwn 10 (xLst (xCons (xVar 7) (xCons (xVar 8) (xCons (xVar 9) (xCons (xTup (xCons (xBin dDiv (xBin dAdd (xBin dIx (xLook 7) (xC (.int 0))) (xBin dIx (xLook 8) (xC (.int 0)))) (xC (.int 2))) (xCons (xBin dDiv (xBin dAdd (xBin dIx (xLook 7) (xC (.int 1))) (xBin dIx (xLook 8) (xC (.int 1)))) (xC (.int 2))) xNil))) xNil))))))
    (sSeq (sApp 10 (xTup (xCons (xBin dDiv (xBin dAdd (xBin dAdd (xBin dIx (xLook 7) (xC (.int 0))) (xBin dMul (xC (.int 2)) (xBin dIx (xLook 9) (xC (.int 0))))) (xBin dIx (xLook 8) (xC (.int 0)))) (xC (.int 4))) (xCons (xBin dDiv (xBin dAdd (xBin dAdd (xBin dIx (xLook 7) (xC (.int 1))) (xBin dMul (xC (.int 2)) (xBin dIx (xLook 9) (xC (.int 1))))) (xBin dIx (xLook 8) (xC (.int 1)))) (xC (.int 4))) xNil))))
    (sSeq (sApp 10 (xTup (xCons (xBin dIx (xLook 7) (xC (.int 0))) (xCons (xBin dIx (xLook 8) (xC (.int 1))) xNil))))
    (sSeq (sAsg (xBin dIx (xLook 10) (xBin dMod (xBin dDiv (xLook 4) (xC (.int 64))) (xC (.int 6)))) (gNm 11))
    (sRet (xTup (xCons (xBin dAdd (xBin dIx (xLook 11) (xC (.int 0))) (xBin dIx (xNew (xLst (xCons (xC (.int 0)) (xCons (xC (.int 0)) (xCons (xC (.int 1)) (xCons (xUn dNeg (xC (.int 1))) xNil)))))) (xBin dMod (xBin dDiv (xLook 4) (xC (.int 512))) (xC (.int 4))))) (xCons (xBin dAdd (xBin dIx (xLook 11) (xC (.int 1))) (xBin dIx (xNew (xLst (xCons (xC (.int 0)) (xCons (xC (.int 0)) (xCons (xC (.int 1)) (xCons (xUn dNeg (xC (.int 1))) xNil)))))) (xBin dMod (xBin dDiv (xLook 4) (xC (.int 2048))) (xC (.int 4))))) xNil)))))))))))
    sNil)
    (sRet (xTup (xCons (xCall (atN 3 s_law_number) (xCons (xVar 0) (xCons (xBin dAdd (xLook 1) (xC (.int 1))) (xCons (xVar 3) xNil)))) (xCons (xCall (atN 3 s_law_number) (xCons (xVar 0) (xCons (xBin dAdd (xLook 1) (xC (.int 2))) (xCons (xVar 3) xNil)))) xNil)))))))
def s_law_point : List D → R Sl := runF 12 x_law_point
/-- _law_sign -/
def x_law_sign : XS :=
    (sRet (xBin dSub (xFun (one bInt) (xCons (xBin dGt (xLook 0) (xC (.int 0))) xNil)) (xFun (one bInt) (xCons (xBin dLt (xLook 0) (xC (.int 0))) xNil))))
def s_law_sign : List D → R Sl := runF 1 x_law_sign
/-- _law_root_sign -/
def x_law_root_sign : XS :=
    (sSeq (sIf (tOr (tB (xBin dEq (xLook 1) (xC (.int 0)))) (tB (xBin dEq (xLook 2) (xC (.int 0)))))
    (sRet (xCall (atN 1 s_law_sign) (xCons (xVar 0) xNil)))
    sNil)
    (sSeq (sIf (tOr (tB (xBin dEq (xLook 0) (xC (.int 0)))) (tB (xBin dEq (xBin dGt (xLook 0) (xC (.int 0))) (xBin dGt (xLook 1) (xC (.int 0))))))
    (sRet (xCall (atN 1 s_law_sign) (xCons (xVar 1) xNil)))
    sNil)
    (sRet (xBin dMul (xCall (atN 1 s_law_sign) (xCons (xVar 0) xNil)) (xCall (atN 1 s_law_sign) (xCons (xBin dSub (xBin dMul (xLook 0) (xLook 0)) (xBin dMul (xBin dMul (xLook 1) (xLook 1)) (xLook 2))) xNil))))))
def s_law_root_sign : List D → R Sl := runF 3 x_law_root_sign
/-- _law_line -/
def x_law_line : XS :=
    (sSeq (sAsg (xCall (atN 1 s_law_sign) (xCons (xBin dSub (xBin dIx (xLook 1) (xC (.int 1))) (xBin dIx (xLook 0) (xC (.int 1)))) xNil)) (gNm 3))
    (sSeq (sAsg (xIf (tB (xBin dGt (xLook 3) (xC (.int 0)))) (xTup (xCons (xVar 0) (xCons (xVar 1) xNil))) (xTup (xCons (xVar 1) (xCons (xVar 0) xNil)))) (gTp (Gy.gCons (gNm 4) (Gy.gCons (gNm 5) gNil))))
    (sSeq (sIf (tNot (tB (xChain dLe dLt (xBin dIx (xLook 4) (xC (.int 1))) (xBin dIx (xLook 2) (xC (.int 1))) (xBin dIx (xLook 5) (xC (.int 1))))))
    (sRet (xC (.int 0)))
    sNil)
    (sSeq (sAsg (xBin dMul (xBin dSub (xBin dIx (xLook 4) (xC (.int 0))) (xBin dIx (xLook 2) (xC (.int 0)))) (xBin dSub (xBin dIx (xLook 5) (xC (.int 1))) (xBin dIx (xLook 4) (xC (.int 1))))) (gNm 6))
    (sSeq (sAsg (xBin dAdd (xLook 6) (xBin dMul (xBin dSub (xBin dIx (xLook 5) (xC (.int 0))) (xBin dIx (xLook 4) (xC (.int 0)))) (xBin dSub (xBin dIx (xLook 2) (xC (.int 1))) (xBin dIx (xLook 4) (xC (.int 1)))))) (gNm 6))
    (sRet (xBin dMul (xLook 3) (xFun (one bInt) (xCons (xBin dGt (xLook 6) (xC (.int 0))) xNil)))))))))
def s_law_line : List D → R Sl := runF 7 x_law_line
/-- _law_root -/
def x_law_root : XS :=
    (sSeq (sAsg (xVar 0) (gTp (Gy.gCons (gNm 3) (Gy.gCons (gNm 4) (Gy.gCons (gNm 5) gNil)))))
    (sSeq (sAsg (xBin dSub (xBin dMul (xLook 4) (xLook 4)) (xBin dMul (xBin dMul (xC (.int 4)) (xLook 3)) (xLook 5))) (gNm 6))
    (sSeq (sAsg (xBin dMul (xCall (atN 3 s_law_root_sign) (xCons (xUn dNeg (xLook 4)) (xCons (xVar 2) (xCons (xVar 6) xNil)))) (xCall (atN 1 s_law_sign) (xCons (xVar 3) xNil))) (gNm 7))
    (sSeq (sAsg (xBin dMul (xCall (atN 3 s_law_root_sign) (xCons (xBin dSub (xUn dNeg (xLook 4)) (xBin dMul (xC (.int 2)) (xLook 3))) (xCons (xVar 2) (xCons (xVar 6) xNil)))) (xCall (atN 1 s_law_sign) (xCons (xVar 3) xNil))) (gNm 8))
    (sSeq (sIf (tAnd (tB (xBin dLt (xLook 3) (xC (.int 0)))) (tB (xBin dEq (xLook 6) (xC (.int 0)))))
    (sRet (xC (.int 0)))
    sNil)
    (sSeq (sIf (tOr (tAnd (tB (xBin dGt (xLook 2) (xC (.int 0)))) (tOr (tB (xBin dLt (xLook 7) (xC (.int 0)))) (tB (xBin dGe (xLook 8) (xC (.int 0)))))) (tAnd (tB (xBin dLt (xLook 2) (xC (.int 0)))) (tOr (tB (xBin dLe (xLook 7) (xC (.int 0)))) (tB (xBin dGt (xLook 8) (xC (.int 0)))))))
    (sRet (xC (.int 0)))
    sNil)
    (sSeq (sAsg (xBin dSub (xBin dMul (xBin dIx (xLook 1) (xC (.int 0))) (xBin dAdd (xBin dMul (xLook 4) (xLook 4)) (xLook 6))) (xBin dMul (xBin dMul (xBin dMul (xC (.int 2)) (xLook 3)) (xLook 4)) (xBin dIx (xLook 1) (xC (.int 1))))) (gNm 9))
    (sSeq (sAsg (xBin dAdd (xLook 9) (xBin dMul (xBin dMul (xBin dMul (xC (.int 4)) (xLook 3)) (xLook 3)) (xBin dIx (xLook 1) (xC (.int 2))))) (gNm 9))
    (sSeq (sAsg (xBin dMul (xLook 2) (xBin dSub (xBin dMul (xBin dMul (xC (.int 2)) (xLook 3)) (xBin dIx (xLook 1) (xC (.int 1)))) (xBin dMul (xBin dMul (xC (.int 2)) (xBin dIx (xLook 1) (xC (.int 0)))) (xLook 4)))) (gNm 10))
    (sRet (xBin dMul (xLook 2) (xFun (one bInt) (xCons (xBin dGt (xCall (atN 3 s_law_root_sign) (xCons (xVar 9) (xCons (xVar 10) (xCons (xVar 6) xNil)))) (xC (.int 0))) xNil)))))))))))))
def s_law_root : List D → R Sl := runF 11 x_law_root
/-- _law_bend -/
def b_law_bend_1 : XS :=
    (sSeq (sAsg (xNew (xLc (iSeq (xVar 0)) (gNm 14) tYes (xBin dIx (xLook 14) (xLook 3)) [14])) (gLs (Gy.gCons (gNm 4) (Gy.gCons (gNm 5) (Gy.gCons (gNm 6) gNil)))))
    (sSeq (sAsg (xBin dAdd (xBin dSub (xLook 4) (xBin dMul (xC (.int 2)) (xLook 5))) (xLook 6)) (gNm 7))
    (sApp 2 (xTup (xCons (xVar 7) (xCons (xBin dSub (xBin dMul (xC (.int 2)) (xLook 5)) (xBin dMul (xC (.int 2)) (xLook 4))) (xCons (xBin dSub (xLook 4) (xBin dIx (xLook 1) (xLook 3))) xNil)))))))
def x_law_bend : XS :=
    (sSeq (sOwn 2 (xLst xNil))
    (sSeq (sFor (iSeq (xTup (xCons (xC (.int 1)) (xCons (xC (.int 0)) xNil)))) (gNm 3) b_law_bend_1)
    (sSeq (sFrz 2) (sSeq (sAsg (xVar 2) (gLs (Gy.gCons (gNm 8) (Gy.gCons (gNm 9) gNil))))
    (sSeq (sAsg (xVar 8) (gTp (Gy.gCons (gNm 10) (Gy.gCons (gNm 11) (Gy.gCons (gNm 12) gNil)))))
    (sSeq (sIf (tB (xBin dNe (xLook 10) (xC (.int 0))))
    (sSeq (sIf (tB (xBin dLt (xBin dMul (xLook 11) (xLook 11)) (xBin dMul (xBin dMul (xC (.int 4)) (xLook 10)) (xLook 12))))
    (sRet (xC (.int 0)))
    sNil)
    (sRet (xBin dAdd (xCall (atN 3 s_law_root) (xCons (xVar 8) (xCons (xVar 9) (xCons (xC (.int 1)) xNil)))) (xCall (atN 3 s_law_root) (xCons (xVar 8) (xCons (xVar 9) (xCons (xUn dNeg (xC (.int 1))) xNil)))))))
    sNil)
    (sSeq (sIf (tOr (tB (xBin dEq (xLook 11) (xC (.int 0)))) (tOr (tAnd (tB (xBin dGt (xLook 11) (xC (.int 0)))) (tOr (tB (xBin dGt (xLook 12) (xC (.int 0)))) (tB (xBin dGe (xUn dNeg (xLook 12)) (xLook 11))))) (tAnd (tB (xBin dLt (xLook 11) (xC (.int 0)))) (tOr (tB (xBin dLt (xUn dNeg (xLook 12)) (xLook 11))) (tB (xBin dLe (xLook 12) (xC (.int 0))))))))
    (sRet (xC (.int 0)))
    sNil)
    (sSeq (sAsg (xBin dAdd (xBin dSub (xBin dMul (xBin dMul (xBin dIx (xLook 9) (xC (.int 0))) (xLook 12)) (xLook 12)) (xBin dMul (xBin dMul (xBin dIx (xLook 9) (xC (.int 1))) (xLook 11)) (xLook 12))) (xBin dMul (xBin dMul (xBin dIx (xLook 9) (xC (.int 2))) (xLook 11)) (xLook 11))) (gNm 13))
    (sRet (xBin dMul (xCall (atN 1 s_law_sign) (xCons (xVar 11) xNil)) (xFun (one bInt) (xCons (xBin dGt (xLook 13) (xC (.int 0))) xNil))))))))))))
def s_law_bend : List D → R Sl := runF 15 x_law_bend
/-- _law_rounds -/
def b_law_rounds_1 : XS :=
    (sIf (tB (xBin dEq (xFun (one dLen) (xCons (xLook 3) xNil)) (xC (.int 2))))
    (sAsg (xBin dAdd (xLook 2) (xCall (atN 3 s_law_line) (xCons (xBin dIx (xLook 3) (xC (.int 0))) (xCons (xBin dIx (xLook 3) (xC (.int 1))) (xCons (xVar 1) xNil))))) (gNm 2))
    (sAsg (xBin dAdd (xLook 2) (xCall (atN 2 s_law_bend) (xCons (xVar 3) (xCons (xVar 1) xNil)))) (gNm 2)))
def x_law_rounds : XS :=
    (sSeq (sAsg (xC (.int 0)) (gNm 2))
    (sSeq (sFor (iSeq (xVar 0)) (gNm 3) b_law_rounds_1)
    (sRet (xVar 2))))
def s_law_rounds : List D → R Sl := runF 4 x_law_rounds
/-- cross_of -/
def x_cross_of : XS :=
    (sRet (xBin dSub (xBin dMul (xBin dIx (xLook 0) (xC (.int 0))) (xBin dIx (xLook 1) (xC (.int 1)))) (xBin dMul (xBin dIx (xLook 1) (xC (.int 0))) (xBin dIx (xLook 0) (xC (.int 1))))))
def s_cross_of : List D → R Sl := runF 2 x_cross_of
/-- area -/
def b_area_1 : XS :=
    (sIf (tB (xBin dEq (xFun (one dLen) (xCons (xLook 2) xNil)) (xC (.int 2))))
    (sAsg (xBin dAdd (xLook 1) (xBin dMul (xC (.int 3)) (xCall (atN 2 s_cross_of) (xCons (xBin dIx (xLook 2) (xC (.int 0))) (xCons (xBin dIx (xLook 2) (xC (.int 1))) xNil))))) (gNm 1))
    (sSeq (sAsg (xVar 2) (gTp (Gy.gCons (gNm 3) (Gy.gCons (gNm 4) (Gy.gCons (gNm 5) gNil)))))
    (sAsg (xBin dAdd (xBin dAdd (xBin dAdd (xLook 1) (xBin dMul (xC (.int 2)) (xCall (atN 2 s_cross_of) (xCons (xVar 3) (xCons (xVar 4) xNil))))) (xBin dMul (xC (.int 2)) (xCall (atN 2 s_cross_of) (xCons (xVar 4) (xCons (xVar 5) xNil))))) (xCall (atN 2 s_cross_of) (xCons (xVar 3) (xCons (xVar 5) xNil)))) (gNm 1))))
def x_area : XS :=
    (sSeq (sAsg (xC (.int 0)) (gNm 1))
    (sSeq (sFor (iSeq (xCall (atN 1 s_pieces) (xCons (xVar 0) xNil))) (gNm 2) b_area_1)
    (sRet (xVar 1))))
def s_area : List D → R Sl := runF 6 x_area
/-- lowest -/
def x_lowest : XS :=
    (sSeq (sAsg (xBin dAdd (xBin dSub (xLook 0) (xBin dMul (xC (.int 2)) (xLook 1))) (xLook 2)) (gNm 3))
    (sSeq (sIf (tOr (tB (xBin dLe (xLook 3) (xC (.int 0)))) (tOr (tB (xBin dGe (xLook 1) (xLook 0))) (tB (xBin dGe (xLook 1) (xLook 2)))))
    (sRet (xTup (xCons (xFun (two bMin) (xCons (xLook 0) (xCons (xLook 2) xNil))) (xCons (xC (.int 1)) xNil))))
    sNil)
    (sSeq (sAsg (xBin dSub (xBin dMul (xLook 0) (xLook 3)) (xBin dMul (xBin dSub (xLook 1) (xLook 0)) (xBin dSub (xLook 1) (xLook 0)))) (gNm 4))
    (sRet (xTup (xCons (xVar 4) (xCons (xVar 3) xNil)))))))
def s_lowest : List D → R Sl := runF 5 x_lowest
/-- less -/
def x_less : XS :=
    (sRet (xBin dLt (xBin dMul (xBin dIx (xLook 0) (xC (.int 0))) (xBin dIx (xLook 1) (xC (.int 1)))) (xBin dMul (xBin dIx (xLook 1) (xC (.int 0))) (xBin dIx (xLook 0) (xC (.int 1))))))
def s_less : List D → R Sl := runF 2 x_less
/-- least_of -/
def b_least_of_1 : XS :=
    (sIf (tB (xCall (atN 2 s_less) (xCons (xVar 2) (xCons (xVar 1) xNil))))
    (sAsg (xVar 2) (gNm 1))
    sNil)
def x_least_of : XS :=
    (sSeq (sAsg (xBin dIx (xLook 0) (xC (.int 0))) (gNm 1))
    (sSeq (sFor (iSeq (xVar 0)) (gNm 2) b_least_of_1)
    (sRet (xVar 1))))
def s_least_of : List D → R Sl := runF 3 x_least_of
/-- plain_of -/
def b_plain_of_1 : XS :=
    (sPar 1 2 (xCons (xVar 2) (xCons (xBin dMod (xLook 1) (xLook 2)) xNil)))
def x_plain_of : XS :=
    (sSeq (sPar 1 2 (xCons (xFun (one bAbs) (xCons (xBin dIx (xLook 0) (xC (.int 0))) xNil)) (xCons (xBin dIx (xLook 0) (xC (.int 1))) xNil)))
    (sSeq (sWh (tB (xBin dGt (xLook 2) (xC (.int 0)))) b_plain_of_1)
    (sRet (xTup (xCons (xBin dDiv (xBin dIx (xLook 0) (xC (.int 0))) (xLook 1)) (xCons (xBin dDiv (xBin dIx (xLook 0) (xC (.int 1))) (xLook 1)) xNil))))))
def s_plain_of : List D → R Sl := runF 3 x_plain_of
/-- bounds -/
def b_bounds_1 : XS :=
    (sSeq (sAsg (xNew (xLc (iSeq (xVar 6)) (gNm 9) tYes (xBin dMul (xLook 4) (xBin dIx (xLook 9) (xLook 3))) [9])) (gNm 7))
    (sApp 5 (xIf (tB (xBin dEq (xFun (one dLen) (xCons (xLook 6) xNil)) (xC (.int 3)))) (xCall (atN 3 s_lowest) (xCons (xBin dIx (xLook 7) (xC (.int 0))) (xCons (xBin dIx (xLook 7) (xC (.int 1))) (xCons (xBin dIx (xLook 7) (xUn dNeg (xC (.int 1)))) xNil)))) (xTup (xCons (xFun (one bMinL) (xCons (xLook 7) xNil)) (xCons (xC (.int 1)) xNil))))))
def b_bounds_2 : XS :=
    (sSeq (sOwn 5 (xLst xNil))
    (sSeq (sFor (iSeq (xVar 1)) (gNm 6) b_bounds_1)
    (sSeq (sFrz 5) (sSeq (sAsg (xCall (atN 1 s_least_of) (xCons (xVar 5) xNil)) (gNm 8))
    (sApp 2 (xCall (atN 1 s_plain_of) (xCons (xTup (xCons (xBin dMul (xLook 4) (xBin dIx (xLook 8) (xC (.int 0)))) (xCons (xBin dIx (xLook 8) (xC (.int 1))) xNil))) xNil)))))))
def b_bounds_3 : XS :=
    (sFor (iSeq (xTup (xCons (xC (.int 1)) (xCons (xUn dNeg (xC (.int 1))) xNil)))) (gNm 4) b_bounds_2)
def x_bounds : XS :=
    (sSeq (sAsg (xCall (atN 1 s_pieces) (xCons (xVar 0) xNil)) (gNm 1))
    (sSeq (sIf (tNot (tTru (xLook 1)))
    (sRet (xC .non))
    sNil)
    (sSeq (sOwn 2 (xLst xNil))
    (sSeq (sFor (iSeq (xTup (xCons (xC (.int 0)) (xCons (xC (.int 1)) xNil)))) (gNm 3) b_bounds_3)
    (sRet (xTup (xCons (xBin dIx (xLook 2) (xC (.int 0))) (xCons (xBin dIx (xLook 2) (xC (.int 2))) (xCons (xBin dIx (xLook 2) (xC (.int 1))) (xCons (xBin dIx (xLook 2) (xC (.int 3))) xNil))))))))))
def s_bounds : List D → R Sl := runF 10 x_bounds
/-- parts_for -/
def b_parts_for_1 : XS :=
    (sIf (tB (xBin dEq (xFun (one dLen) (xCons (xLook 3) xNil)) (xC (.int 3))))
    (sSeq (sAsg (xNew (xLc (iSeq (xTup (xCons (xC (.int 0)) (xCons (xC (.int 1)) xNil)))) (gNm 6) tYes (xBin dAdd (xBin dSub (xBin dIx (xBin dIx (xLook 3) (xC (.int 0))) (xLook 6)) (xBin dMul (xC (.int 2)) (xBin dIx (xBin dIx (xLook 3) (xC (.int 1))) (xLook 6)))) (xBin dIx (xBin dIx (xLook 3) (xC (.int 2))) (xLook 6))) [6])) (gNm 4))
    (sAsg (xFun (two bMax) (xCons (xLook 2) (xCons (xBin dAdd (xBin dMul (xBin dIx (xLook 4) (xC (.int 0))) (xBin dIx (xLook 4) (xC (.int 0)))) (xBin dMul (xBin dIx (xLook 4) (xC (.int 1))) (xBin dIx (xLook 4) (xC (.int 1))))) xNil))) (gNm 2)))
    sNil)
def b_parts_for_2 : XS :=
    (sAsg (xBin dAdd (xLook 5) (xC (.int 1))) (gNm 5))
def x_parts_for : XS :=
    (sSeq (sIf (tB (xBin dLt (xLook 1) (xC (.int 1))))
    (sRaise 2)
    sNil)
    (sSeq (sAsg (xC (.int 0)) (gNm 2))
    (sSeq (sFor (iSeq (xCall (atN 1 s_pieces) (xCons (xVar 0) xNil))) (gNm 3) b_parts_for_1)
    (sSeq (sAsg (xC (.int 1)) (gNm 5))
    (sSeq (sWh (tB (xBin dGt (xLook 2) (xBin dMul (xBin dMul (xBin dMul (xBin dMul (xBin dMul (xBin dMul (xC (.int 16)) (xLook 1)) (xLook 1)) (xLook 5)) (xLook 5)) (xLook 5)) (xLook 5)))) b_parts_for_2)
    (sRet (xVar 5)))))))
def s_parts_for : List D → R Sl := runF 7 x_parts_for
/-- at_time -/
def b_at_time_1 : XS :=
    (sSeq (sAsg (xNew (xLc (iSeq (xVar 0)) (gNm 9) tYes (xBin dIx (xLook 9) (xLook 5)) [9])) (gLs (Gy.gCons (gNm 6) (Gy.gCons (gNm 7) (Gy.gCons (gNm 8) gNil)))))
    (sApp 4 (xBin dAdd (xBin dAdd (xBin dMul (xBin dMul (xLook 3) (xLook 3)) (xLook 6)) (xBin dMul (xBin dMul (xBin dMul (xC (.int 2)) (xLook 3)) (xLook 2)) (xLook 7))) (xBin dMul (xBin dMul (xLook 2) (xLook 2)) (xLook 8)))))
def x_at_time : XS :=
    (sSeq (sAsg (xBin dSub (xLook 1) (xLook 2)) (gNm 3))
    (sSeq (sOwn 4 (xLst xNil))
    (sSeq (sFor (iSeq (xTup (xCons (xC (.int 0)) (xCons (xC (.int 1)) xNil)))) (gNm 5) b_at_time_1)
    (sRet (xFun (one dTupOf) (xCons (xLook 4) xNil))))))
def s_at_time : List D → R Sl := runF 10 x_at_time
/-- straight -/
def b_straight_1 : XS :=
    (sSeq (sIf (tB (xBin dEq (xBin dIx (xLook 5) (xC (.int 0))) (xC (.str w_746f))))
    (sAppR 2 (xLook 3) (xTup (xCons (xC (.str w_746f)) (xCons (xBin dMul (xBin dMul (xBin dIx (xLook 5) (xC (.int 1))) (xLook 1)) (xLook 1)) (xCons (xBin dMul (xBin dMul (xBin dIx (xLook 5) (xC (.int 2))) (xLook 1)) (xLook 1)) xNil)))))
    (sSeq (sAsg (xTup (xCons (xVar 4) (xCons (xCut (xLook 5) (xPart (xC (.int 1))) (xPart (xC (.int 3)))) (xCons (xCut (xLook 5) (xPart (xC (.int 3))) xNoPart) xNil)))) (gNm 6))
    (sExtR 2 (xLook 3) (xNew (xLc (iRng2 (xC (.int 1)) (xBin dAdd (xLook 1) (xC (.int 1)))) (gNm 7) tYes (xBin dAdd (xTup (xCons (xC (.str w_746f)) xNil)) (xCall (atN 3 s_at_time) (xCons (xVar 6) (xCons (xVar 1) (xCons (xVar 7) xNil))))) [7])))))
    (sAsg (xCut (xLook 5) (xPart (xUn dNeg (xC (.int 2)))) xNoPart) (gNm 4)))
def b_straight_2 : XS :=
    (sSeq (sAsg (xCut (xBin dIx (xBin dIx (xLook 0) (xLook 3)) (xC (.int 0))) (xPart (xC (.int 1))) xNoPart) (gNm 4))
    (sSeq (sApp2 2 (xLst (xCons (xTup (xCons (xC (.str w_6174)) (xCons (xBin dMul (xBin dMul (xBin dIx (xLook 4) (xC (.int 0))) (xLook 1)) (xLook 1)) (xCons (xBin dMul (xBin dMul (xBin dIx (xLook 4) (xC (.int 1))) (xLook 1)) (xLook 1)) xNil)))) xNil)))
    (sFor (iSeq (xCut (xBin dIx (xLook 0) (xLook 3)) (xPart (xC (.int 1))) xNoPart)) (gNm 5) b_straight_1)))
def x_straight : XS :=
    (sSeq (sIf (tNot (tB (xChain dLe dLe (xC (.int 1)) (xLook 1) (xC (.int 16)))))
    (sRaise 2)
    sNil)
    (sSeq (sDrop (xCall (atN 1 s_look_outline) (xCons (xVar 0) xNil)))
    (sSeq (sOwn2 2 (x2Lst x2Nil))
    (sSeq (sFor (iRng1 (xFun (one dLen) (xCons (xLook 0) xNil))) (gNm 3) b_straight_2)
    (sSeq (sFrz 2) (sSeq (sDrop (xCall (atN 1 s_look_outline) (xCons (xVar 2) xNil)))
    (sSeq (sFrz 2) (sRet (xVar 2)))))))))
def s_straight : List D → R Sl := runF 8 x_straight
/-- look_size -/
def x_look_size : XS :=
    (sIf (tOr (tNot (tB (xChain dLe dLe (xC (.int 1)) (xLook 0) (xC (.int 4096))))) (tOr (tNot (tB (xChain dLe dLe (xC (.int 1)) (xLook 1) (xC (.int 64))))) (tB (xBin (dInN true) (xLook 2) (xC (.tup ([w_616e79, w_6f6464].map D.str)))))))
    (sRaise 2)
    sNil)
def s_look_size : List D → R Sl := runF 3 x_look_size
/-- look_box -/
def x_look_box : XS :=
    (sSeq (sAsg (xVar 0) (gTp (Gy.gCons (gNm 1) (Gy.gCons (gNm 2) (Gy.gCons (gNm 3) (Gy.gCons (gNm 4) gNil))))))
    (sIf (tOr (tNot (tB (xChain dLe dLe (xC (.int 0)) (xLook 3) (xC (.int 64))))) (tOr (tNot (tB (xChain dLe dLe (xC (.int 0)) (xLook 4) (xC (.int 64))))) (tB (xBin dGt (xFun (two bMax) (xCons (xFun (one bAbs) (xCons (xLook 1) xNil)) (xCons (xFun (one bAbs) (xCons (xLook 2) xNil)) xNil))) (xC (.int 1000))))))
    (sRaise 2)
    sNil))
def s_look_box : List D → R Sl := runF 5 x_look_box
/-- filled -/
def b_filled_1 : XS :=
    (sSeq (sAsg (xBin dMul (xBin dAdd (xBin dMul (xC (.int 2)) (xLook 11)) (xC (.int 1))) (xLook 1)) (gNm 12))
    (sApp 10 (xNew (xLc (iRng2 (xLook 6) (xBin dAdd (xLook 6) (xLook 8))) (gNm 13) tYes (xCall (atN 2 s_is_filled) (xCons (xCall (atN 2 s_rounds) (xCons (xVar 5) (xCons (xTup (xCons (xBin dMul (xBin dAdd (xBin dMul (xC (.int 2)) (xLook 13)) (xC (.int 1))) (xLook 1)) (xCons (xVar 12) xNil))) xNil))) (xCons (xVar 3) xNil))) [13]))))
def x_filled : XS :=
    (sSeq (sAsg (xCall (atN 1 s_all_pieces) (xCons (xCall (atN 3 s_scaled) (xCons (xVar 0) (xCons (xBin dMul (xC (.int 2)) (xLook 2)) (xCons (xTup (xCons (xC (.int 0)) (xCons (xC (.int 0)) xNil))) xNil)))) xNil)) (gNm 5))
    (sSeq (sAsg (xVar 4) (gTp (Gy.gCons (gNm 6) (Gy.gCons (gNm 7) (Gy.gCons (gNm 8) (Gy.gCons (gNm 9) gNil))))))
    (sSeq (sOwn 10 (xLst xNil))
    (sSeq (sFor (iRng2 (xLook 7) (xBin dAdd (xLook 7) (xLook 9))) (gNm 11) b_filled_1)
    (sRetO 10)))))
def s_filled : List D → R Sl := runF 14 x_filled
/-- cells -/
def x_cells : XS :=
    (sSeq (sDrop (xCall (atN 3 s_look_size) (xCons (xVar 1) (xCons (xVar 2) (xCons (xVar 3) xNil)))))
    (sSeq (sDrop (xCall (atN 1 s_look_box) (xCons (xVar 4) xNil)))
    (sRetN (xCallN (atN 5 s_filled) (xCons (xVar 0) (xCons (xVar 1) (xCons (xVar 2) (xCons (xVar 3) (xCons (xVar 4) xNil)))))))))
def s_cells : List D → R Sl := runF 5 x_cells
/-- grey -/
def b_grey_1 : XS :=
    (sSeq (sAsg (xNew (xLc (iRng1 (xLook 5)) (gNm 16) tYes (xMeth dCount (xCut (xBin dIx (xLook 10) (xBin dAdd (xBin dMul (xLook 12) (xLook 5)) (xLook 16))) (xPart (xBin dMul (xLook 14) (xLook 5))) (xPart (xBin dAdd (xBin dMul (xLook 14) (xLook 5)) (xLook 5)))) (xC (.bl true))) [16])) (gNm 15))
    (sApp 13 (xFun (one bSum) (xCons (xLook 15) xNil))))
def b_grey_2 : XS :=
    (sSeq (sOwn 13 (xLst xNil))
    (sSeq (sFor (iRng1 (xLook 8)) (gNm 14) b_grey_1)
    (sSeq (sFrz 13) (sApp 11 (xVar 13)))))
def x_grey : XS :=
    (sSeq (sDrop (xCall (atN 3 s_look_size) (xCons (xVar 1) (xCons (xVar 2) (xCons (xVar 3) xNil)))))
    (sSeq (sDrop (xCall (atN 1 s_look_box) (xCons (xVar 4) xNil)))
    (sSeq (sIf (tNot (tB (xChain dLe dLe (xC (.int 1)) (xLook 5) (xC (.int 4)))))
    (sRaise 2)
    sNil)
    (sSeq (sAsg (xVar 4) (gTp (Gy.gCons (gNm 6) (Gy.gCons (gNm 7) (Gy.gCons (gNm 8) (Gy.gCons (gNm 9) gNil))))))
    (sSeq (sAsg (xCall (atN 5 s_filled) (xCons (xVar 0) (xCons (xVar 1) (xCons (xBin dMul (xLook 2) (xLook 5)) (xCons (xVar 3) (xCons (xTup (xCons (xBin dMul (xLook 6) (xLook 5)) (xCons (xBin dMul (xLook 7) (xLook 5)) (xCons (xBin dMul (xLook 8) (xLook 5)) (xCons (xBin dMul (xLook 9) (xLook 5)) xNil))))) xNil)))))) (gNm 10))
    (sSeq (sOwn 11 (xLst xNil))
    (sSeq (sFor (iRng1 (xLook 9)) (gNm 12) b_grey_2)
    (sRetO 11))))))))
def s_grey : List D → R Sl := runF 17 x_grey
/-- runs -/
def b_runs_1 : XS :=
    (sIf (tAnd (tTru (xBin dIx (xLook 0) (xLook 2))) (tOr (tB (xBin dEq (xLook 2) (xC (.int 0)))) (tNot (tTru (xBin dIx (xLook 0) (xBin dSub (xLook 2) (xC (.int 1))))))))
    (sApp 1 (xTup (xCons (xVar 2) (xCons (xBin dAdd (xLook 2) (xC (.int 1))) xNil))))
    (sIf (tTru (xBin dIx (xLook 0) (xLook 2)))
    (sPut 1 (xUn dNeg (xC (.int 1))) (xTup (xCons (xBin dIx (xBin dIx (xLook 1) (xUn dNeg (xC (.int 1)))) (xC (.int 0))) (xCons (xBin dAdd (xLook 2) (xC (.int 1))) xNil))))
    sNil))
def x_runs : XS :=
    (sSeq (sOwn 1 (xLst xNil))
    (sSeq (sFor (iRng1 (xFun (one dLen) (xCons (xLook 0) xNil))) (gNm 2) b_runs_1)
    (sRetO 1)))
def s_runs : List D → R Sl := runF 3 x_runs
/-- picture -/
def x_picture : XS :=
    (sRet (xBin dJoin (xC (.str w_0a)) (xNew (xLc (iRev (xVar 0)) (gNm 1) tYes (xBin dJoin (xC (.str w_nil)) (xNew (xLc (iSeq (xVar 1)) (gNm 2) tYes (xIf (tTru (xLook 2)) (xC (.str w_23)) (xC (.str w_2e))) [2]))) [1]))))
def s_picture : List D → R Sl := runF 3 x_picture
/-- look_stems -/
def b_look_stems_1 : XS :=
    (sExt 1 (xNew (xLst (xCons (xVar 2) (xCons (xVar 3) xNil)))))
def x_look_stems : XS :=
    (sSeq (sOwn 1 (xLst xNil))
    (sSeq (sFor (iSeq (xVar 0)) (gTp (Gy.gCons (gNm 2) (Gy.gCons (gNm 3) gNil))) b_look_stems_1)
    (sSeq (sFrz 1) (sSeq (sAsg (xAnd (xBin dLe (xFun (one dLen) (xCons (xLook 0) xNil)) (xC (.int 20))) (xFun (one bAll) (xCons (xNew (xLc (iSeq (xVar 1)) (gNm 5) tYes (xChain dLe dLe (xUn dNeg (xC (.int 100000))) (xLook 5) (xC (.int 100000))) [5])) xNil))) (gNm 4))
    (sIf (tOr (tNot (tTru (xLook 4))) (tNot (tB (xFun (one bAll) (xCons (xNew (xLc (iRng1 (xBin dSub (xFun (one dLen) (xCons (xLook 1) xNil)) (xC (.int 1)))) (gNm 6) tYes (xBin dLt (xBin dIx (xLook 1) (xLook 6)) (xBin dIx (xLook 1) (xBin dAdd (xLook 6) (xC (.int 1))))) [6])) xNil)))))
    (sRaise 3)
    sNil)))))
def s_look_stems : List D → R Sl := runF 7 x_look_stems
/-- rounded -/
def x_rounded : XS :=
    (sRet (xBin dDiv (xBin dAdd (xBin dMul (xC (.int 2)) (xLook 0)) (xLook 1)) (xBin dMul (xC (.int 2)) (xLook 1))))
def s_rounded : List D → R Sl := runF 2 x_rounded
/-- fitted -/
def b_fitted_1 : XS :=
    (sSeq (sAsg (xCall (atN 2 s_rounded) (xCons (xBin dMul (xLook 4) (xLook 2)) (xCons (xVar 1) xNil))) (gNm 6))
    (sSeq (sIf (tTru (xLook 3))
    (sAsg (xFun (two bMax) (xCons (xLook 6) (xCons (xBin dIx (xBin dIx (xLook 3) (xUn dNeg (xC (.int 1)))) (xC (.int 1))) xNil))) (gNm 6))
    sNil)
    (sApp 3 (xTup (xCons (xVar 6) (xCons (xBin dAdd (xLook 6) (xFun (two bMax) (xCons (xC (.int 1)) (xCons (xCall (atN 2 s_rounded) (xCons (xBin dMul (xBin dSub (xLook 5) (xLook 4)) (xLook 2)) (xCons (xVar 1) xNil))) xNil)))) xNil))))))
def x_fitted : XS :=
    (sSeq (sDrop (xCall (atN 3 s_look_size) (xCons (xVar 1) (xCons (xVar 2) (xCons (xC (.str w_616e79)) xNil)))))
    (sSeq (sDrop (xCall (atN 1 s_look_stems) (xCons (xVar 0) xNil)))
    (sSeq (sOwn 3 (xLst xNil))
    (sSeq (sFor (iSeq (xVar 0)) (gTp (Gy.gCons (gNm 4) (Gy.gCons (gNm 5) gNil))) b_fitted_1)
    (sRetO 3)))))
def s_fitted : List D → R Sl := runF 7 x_fitted
/-- ends_of -/
def b_ends_of_1 : XS :=
    (sExt 3 (xNew (xLst (xCons (xTup (xCons (xBin dIx (xBin dIx (xLook 0) (xLook 5)) (xC (.int 0))) (xCons (xBin dIx (xBin dIx (xLook 4) (xLook 5)) (xC (.int 0))) xNil))) (xCons (xTup (xCons (xBin dIx (xBin dIx (xLook 0) (xLook 5)) (xC (.int 1))) (xCons (xBin dIx (xBin dIx (xLook 4) (xLook 5)) (xC (.int 1))) xNil))) xNil)))))
def x_ends_of : XS :=
    (sSeq (sOwn 3 (xLst xNil))
    (sSeq (sAsg (xCall (atN 3 s_fitted) (xCons (xVar 0) (xCons (xVar 1) (xCons (xVar 2) xNil)))) (gNm 4))
    (sSeq (sFor (iRng1 (xFun (one dLen) (xCons (xLook 0) xNil))) (gNm 5) b_ends_of_1)
    (sRetO 3))))
def s_ends_of : List D → R Sl := runF 6 x_ends_of
/-- place_of -/
def x_place_of : XS :=
    (sSeq (sAsg (xNew (xLc (iSeq (xVar 0)) (gNm 10) (tB (xBin dLe (xBin dIx (xLook 10) (xC (.int 0))) (xLook 3))) (xVar 10) [10])) (gNm 4))
    (sSeq (sAsg (xNew (xLc (iSeq (xVar 0)) (gNm 10) (tB (xBin dGt (xBin dIx (xLook 10) (xC (.int 0))) (xLook 3))) (xVar 10) [10])) (gNm 5))
    (sSeq (sIf (tNot (tTru (xLook 0)))
    (sRet (xCall (atN 2 s_rounded) (xCons (xBin dMul (xBin dMul (xC (.int 64)) (xLook 3)) (xLook 2)) (xCons (xVar 1) xNil))))
    sNil)
    (sSeq (sIf (tOr (tNot (tTru (xLook 4))) (tNot (tTru (xLook 5))))
    (sSeq (sAsg (xIf (tNot (tTru (xLook 4))) (xBin dIx (xLook 5) (xC (.int 0))) (xBin dIx (xLook 4) (xUn dNeg (xC (.int 1))))) (gTp (Gy.gCons (gNm 6) (Gy.gCons (gNm 7) gNil))))
    (sRet (xBin dAdd (xBin dMul (xC (.int 64)) (xLook 7)) (xCall (atN 2 s_rounded) (xCons (xBin dMul (xBin dMul (xC (.int 64)) (xBin dSub (xLook 3) (xLook 6))) (xLook 2)) (xCons (xVar 1) xNil))))))
    sNil)
    (sSeq (sPar 8 9 (xCons (xBin dIx (xLook 4) (xUn dNeg (xC (.int 1)))) (xCons (xBin dIx (xLook 5) (xC (.int 0))) xNil)))
    (sRet (xBin dAdd (xBin dMul (xC (.int 64)) (xBin dIx (xLook 8) (xC (.int 1)))) (xCall (atN 2 s_rounded) (xCons (xBin dMul (xBin dMul (xC (.int 64)) (xBin dSub (xLook 3) (xBin dIx (xLook 8) (xC (.int 0))))) (xBin dSub (xBin dIx (xLook 9) (xC (.int 1))) (xBin dIx (xLook 8) (xC (.int 1))))) (xCons (xBin dSub (xBin dIx (xLook 9) (xC (.int 0))) (xBin dIx (xLook 8) (xC (.int 0)))) xNil))))))))))
def s_place_of : List D → R Sl := runF 11 x_place_of
/-- hinted -/
def b_hinted_1 : XS :=
    (sSeq (sAsg (xNew (xLc (iRng2 (xC (.int 1)) (xFun (one dLen) (xCons (xLook 9) xNil))) (gNm 11) tYes (xCall (atN 4 s_place_of) (xCons (xBin dIx (xLook 5) (xBin dMod (xBin dSub (xLook 11) (xC (.int 1))) (xC (.int 2)))) (xCons (xVar 3) (xCons (xVar 4) (xCons (xBin dIx (xLook 9) (xLook 11)) xNil))))) [11])) (gNm 10))
    (sApp 8 (xBin dAdd (xTup (xCons (xBin dIx (xLook 9) (xC (.int 0))) xNil)) (xFun (one dTupOf) (xCons (xLook 10) xNil)))))
def b_hinted_2 : XS :=
    (sSeq (sOwn 8 (xLst xNil))
    (sSeq (sFor (iSeq (xVar 7)) (gNm 9) b_hinted_1)
    (sSeq (sFrz 8) (sApp 6 (xVar 8)))))
def x_hinted : XS :=
    (sSeq (sDrop (xCall (atN 1 s_look_outline) (xCons (xVar 0) xNil)))
    (sSeq (sAsg (xNew (xLst (xCons (xCall (atN 3 s_ends_of) (xCons (xVar 1) (xCons (xVar 3) (xCons (xVar 4) xNil)))) (xCons (xCall (atN 3 s_ends_of) (xCons (xVar 2) (xCons (xVar 3) (xCons (xVar 4) xNil)))) xNil)))) (gNm 5))
    (sSeq (sOwn 6 (xLst xNil))
    (sSeq (sFor (iSeq (xVar 0)) (gNm 7) b_hinted_2)
    (sSeq (sFrz 6) (sSeq (sDrop (xCall (atN 1 s_look_outline) (xCons (xVar 6) xNil)))
    (sSeq (sFrz 6) (sRet (xVar 6)))))))))
def s_hinted : List D → R Sl := runF 12 x_hinted
/-- fraction -/
def b_fraction_1 : XS :=
    (sPar 2 3 (xCons (xVar 3) (xCons (xBin dMod (xLook 2) (xLook 3)) xNil)))
def x_fraction : XS :=
    (sSeq (sIf (tB (xBin dLt (xLook 1) (xC (.int 0))))
    (sPar 0 1 (xCons (xUn dNeg (xLook 0)) (xCons (xUn dNeg (xLook 1)) xNil)))
    sNil)
    (sSeq (sPar 2 3 (xCons (xFun (one bAbs) (xCons (xLook 0) xNil)) (xCons (xVar 1) xNil)))
    (sSeq (sWh (tB (xBin dGt (xLook 3) (xC (.int 0)))) b_fraction_1)
    (sRet (xTup (xCons (xBin dDiv (xLook 0) (xLook 2)) (xCons (xBin dDiv (xLook 1) (xLook 2)) xNil)))))))
def s_fraction : List D → R Sl := runF 4 x_fraction
/-- between -/
def x_between : XS :=
    (sRet (xCall (atN 2 s_fraction) (xCons (xBin dAdd (xBin dMul (xBin dIx (xLook 0) (xC (.int 0))) (xBin dIx (xLook 1) (xC (.int 1)))) (xBin dMul (xBin dIx (xLook 1) (xC (.int 0))) (xBin dIx (xLook 0) (xC (.int 1))))) (xCons (xBin dMul (xBin dMul (xC (.int 2)) (xBin dIx (xLook 0) (xC (.int 1)))) (xBin dIx (xLook 1) (xC (.int 1)))) xNil))))
def s_between : List D → R Sl := runF 2 x_between
/-- in_order -/
def b_in_order_1 : XS :=
    (sAsg (xBin dAdd (xLook 3) (xC (.int 1))) (gNm 3))
def b_in_order_2 : XS :=
    (sSeq (sAsg (xC (.int 0)) (gNm 3))
    (sSeq (sWh (tAnd (tB (xBin dLt (xLook 3) (xFun (one dLen) (xCons (xLook 1) xNil)))) (tB (xCall (atN 2 s_less) (xCons (xBin dIx (xLook 1) (xLook 3)) (xCons (xVar 2) xNil))))) b_in_order_1)
    (sIf (tOr (tB (xBin dEq (xLook 3) (xFun (one dLen) (xCons (xLook 1) xNil)))) (tB (xCall (atN 2 s_less) (xCons (xVar 2) (xCons (xBin dIx (xLook 1) (xLook 3)) xNil)))))
    (sIns 1 (xVar 3) (xVar 2))
    sNil)))
def x_in_order : XS :=
    (sSeq (sOwn 1 (xLst xNil))
    (sSeq (sFor (iSeq (xVar 0)) (gNm 2) b_in_order_2)
    (sRetO 1)))
def s_in_order : List D → R Sl := runF 4 x_in_order
/-- lines_of -/
def x_lines_of : XS :=
    (sSeq (sAsg (xCall (atN 1 s_pieces) (xCons (xVar 0) xNil)) (gNm 1))
    (sSeq (sIf (tB (xFun (one bAny) (xCons (xNew (xLc (iSeq (xVar 1)) (gNm 2) tYes (xBin dEq (xFun (one dLen) (xCons (xLook 2) xNil)) (xC (.int 3))) [2])) xNil)))
    (sRaise 0)
    sNil)
    (sSeq (sAsg (xNew (xLc (iSeq (xVar 1)) (gNm 2) (tB (xBin dNe (xBin dIx (xBin dIx (xLook 2) (xC (.int 0))) (xC (.int 1))) (xBin dIx (xBin dIx (xLook 2) (xC (.int 1))) (xC (.int 1))))) (xVar 2) [2])) (gNm 1))
    (sSeq (sIf (tB (xBin dGt (xFun (one dLen) (xCons (xLook 1) xNil)) (xC (.int 20))))
    (sRaise 0)
    sNil)
    (sRet (xVar 1))))))
def s_lines_of : List D → R Sl := runF 3 x_lines_of
/-- cross_height -/
def x_cross_height : XS :=
    (sSeq (sAsg (xTup (xCons (xBin dSub (xBin dIx (xBin dIx (xLook 0) (xC (.int 1))) (xC (.int 0))) (xBin dIx (xBin dIx (xLook 0) (xC (.int 0))) (xC (.int 0)))) (xCons (xBin dSub (xBin dIx (xBin dIx (xLook 0) (xC (.int 1))) (xC (.int 1))) (xBin dIx (xBin dIx (xLook 0) (xC (.int 0))) (xC (.int 1)))) xNil))) (gNm 2))
    (sSeq (sAsg (xTup (xCons (xBin dSub (xBin dIx (xBin dIx (xLook 1) (xC (.int 1))) (xC (.int 0))) (xBin dIx (xBin dIx (xLook 1) (xC (.int 0))) (xC (.int 0)))) (xCons (xBin dSub (xBin dIx (xBin dIx (xLook 1) (xC (.int 1))) (xC (.int 1))) (xBin dIx (xBin dIx (xLook 1) (xC (.int 0))) (xC (.int 1)))) xNil))) (gNm 3))
    (sSeq (sAsg (xTup (xCons (xBin dSub (xBin dIx (xBin dIx (xLook 1) (xC (.int 0))) (xC (.int 0))) (xBin dIx (xBin dIx (xLook 0) (xC (.int 0))) (xC (.int 0)))) (xCons (xBin dSub (xBin dIx (xBin dIx (xLook 1) (xC (.int 0))) (xC (.int 1))) (xBin dIx (xBin dIx (xLook 0) (xC (.int 0))) (xC (.int 1)))) xNil))) (gNm 4))
    (sSeq (sAsg (xBin dSub (xBin dMul (xBin dIx (xLook 2) (xC (.int 0))) (xBin dIx (xLook 3) (xC (.int 1)))) (xBin dMul (xBin dIx (xLook 2) (xC (.int 1))) (xBin dIx (xLook 3) (xC (.int 0))))) (gNm 5))
    (sSeq (sIf (tB (xBin dEq (xLook 5) (xC (.int 0))))
    (sRet (xC .non))
    sNil)
    (sSeq (sAsg (xBin dSub (xBin dMul (xBin dIx (xLook 4) (xC (.int 0))) (xBin dIx (xLook 3) (xC (.int 1)))) (xBin dMul (xBin dIx (xLook 4) (xC (.int 1))) (xBin dIx (xLook 3) (xC (.int 0))))) (gNm 6))
    (sSeq (sAsg (xBin dSub (xBin dMul (xBin dIx (xLook 4) (xC (.int 0))) (xBin dIx (xLook 2) (xC (.int 1)))) (xBin dMul (xBin dIx (xLook 4) (xC (.int 1))) (xBin dIx (xLook 2) (xC (.int 0))))) (gNm 7))
    (sSeq (sIf (tB (xBin dLt (xLook 5) (xC (.int 0))))
    (sPar3 6 7 5 (xCons (xUn dNeg (xLook 6)) (xCons (xUn dNeg (xLook 7)) (xCons (xUn dNeg (xLook 5)) xNil))))
    sNil)
    (sSeq (sIf (tOr (tNot (tB (xChain dLe dLe (xC (.int 0)) (xLook 6) (xLook 5)))) (tNot (tB (xChain dLe dLe (xC (.int 0)) (xLook 7) (xLook 5)))))
    (sRet (xC .non))
    sNil)
    (sRet (xCall (atN 2 s_fraction) (xCons (xBin dAdd (xBin dMul (xBin dIx (xBin dIx (xLook 0) (xC (.int 0))) (xC (.int 1))) (xLook 5)) (xBin dMul (xLook 6) (xBin dIx (xLook 2) (xC (.int 1))))) (xCons (xVar 5) xNil)))))))))))))
def s_cross_height : List D → R Sl := runF 8 x_cross_height
/-- heights -/
def b_heights_1 : XS :=
    (sSeq (sAsg (xCall (atN 2 s_cross_height) (xCons (xBin dIx (xLook 0) (xLook 2)) (xCons (xVar 3) xNil))) (gNm 4))
    (sIf (tB (xBin dNotN (xLook 4) (xC .non)))
    (sApp 1 (xVar 4))
    sNil))
def b_heights_2 : XS :=
    (sSeq (sExt 1 (xNew (xLst (xCons (xTup (xCons (xBin dIx (xBin dIx (xBin dIx (xLook 0) (xLook 2)) (xC (.int 0))) (xC (.int 1))) (xCons (xC (.int 1)) xNil))) (xCons (xTup (xCons (xBin dIx (xBin dIx (xBin dIx (xLook 0) (xLook 2)) (xC (.int 1))) (xC (.int 1))) (xCons (xC (.int 1)) xNil))) xNil)))))
    (sFor (iSeq (xCut (xLook 0) xNoPart (xPart (xLook 2)))) (gNm 3) b_heights_1))
def x_heights : XS :=
    (sSeq (sOwn 1 (xLst xNil))
    (sSeq (sFor (iRng1 (xFun (one dLen) (xCons (xLook 0) xNil))) (gNm 2) b_heights_2)
    (sSeq (sFrz 1) (sRetN (xCallN (atN 1 s_in_order) (xCons (xVar 1) xNil))))))
def s_heights : List D → R Sl := runF 5 x_heights
/-- crossings -/
def b_crossings_1 : XS :=
    (sSeq (sAsg (xIf (tB (xBin dLt (xBin dIx (xLook 3) (xC (.int 1))) (xBin dIx (xLook 4) (xC (.int 1))))) (xC (.int 1)) (xUn dNeg (xC (.int 1)))) (gNm 5))
    (sSeq (sAsg (xIf (tB (xBin dGt (xLook 5) (xC (.int 0)))) (xTup (xCons (xVar 3) (xCons (xVar 4) xNil))) (xTup (xCons (xVar 4) (xCons (xVar 3) xNil)))) (gTp (Gy.gCons (gNm 6) (Gy.gCons (gNm 7) gNil))))
    (sIf (tAnd (tB (xCall (atN 2 s_less) (xCons (xTup (xCons (xBin dIx (xLook 6) (xC (.int 1))) (xCons (xC (.int 1)) xNil))) (xCons (xVar 1) xNil)))) (tB (xCall (atN 2 s_less) (xCons (xVar 1) (xCons (xTup (xCons (xBin dIx (xLook 7) (xC (.int 1))) (xCons (xC (.int 1)) xNil))) xNil)))))
    (sSeq (sAsg (xBin dMul (xBin dSub (xBin dIx (xLook 7) (xC (.int 0))) (xBin dIx (xLook 6) (xC (.int 0)))) (xBin dSub (xBin dIx (xLook 1) (xC (.int 0))) (xBin dMul (xBin dIx (xLook 6) (xC (.int 1))) (xBin dIx (xLook 1) (xC (.int 1)))))) (gNm 8))
    (sSeq (sAsg (xBin dMul (xBin dSub (xBin dIx (xLook 7) (xC (.int 1))) (xBin dIx (xLook 6) (xC (.int 1)))) (xBin dIx (xLook 1) (xC (.int 1)))) (gNm 9))
    (sApp 2 (xTup (xCons (xCall (atN 2 s_fraction) (xCons (xBin dAdd (xBin dMul (xBin dIx (xLook 6) (xC (.int 0))) (xLook 9)) (xLook 8)) (xCons (xVar 9) xNil))) (xCons (xVar 5) xNil))))))
    sNil)))
def x_crossings : XS :=
    (sSeq (sOwn 2 (xLst xNil))
    (sSeq (sFor (iSeq (xVar 0)) (gTp (Gy.gCons (gNm 3) (Gy.gCons (gNm 4) gNil))) b_crossings_1)
    (sRetO 2)))
def s_crossings : List D → R Sl := runF 10 x_crossings
/-- is_filled3 -/
def x_is_filled3 : XS :=
    (sSeq (sAsg (xFun (one bSum) (xCons (xNew (xLc (iSeq (xVar 0)) (gTp (Gy.gCons (gNm 4) (Gy.gCons (gNm 5) gNil))) (tB (xCall (atN 2 s_less) (xCons (xVar 1) (xCons (xVar 4) xNil)))) (xVar 5) [4, 5])) xNil)) (gNm 3))
    (sRet (xIf (tB (xBin dEq (xLook 2) (xC (.str w_6f6464)))) (xBin dEq (xBin dMod (xLook 3) (xC (.int 2))) (xC (.int 1))) (xBin dNe (xLook 3) (xC (.int 0))))))
def s_is_filled3 : List D → R Sl := runF 6 x_is_filled3
/-- parting -/
def b_parting_1 : XS :=
    (sSeq (sAsg (xCall (atN 2 s_between) (xCons (xBin dIx (xLook 9) (xLook 10)) (xCons (xBin dIx (xLook 9) (xBin dAdd (xLook 10) (xC (.int 1)))) xNil))) (gNm 11))
    (sIf (tB (xBin dNe (xCall (atN 3 s_is_filled3) (xCons (xBin dIx (xLook 8) (xC (.int 0))) (xCons (xVar 11) (xCons (xVar 2) xNil)))) (xCall (atN 3 s_is_filled3) (xCons (xBin dIx (xLook 8) (xC (.int 1))) (xCons (xVar 11) (xCons (xVar 2) xNil))))))
    (sRet (xTup (xCons (xVar 11) (xCons (xVar 7) xNil))))
    sNil))
def b_parting_2 : XS :=
    (sSeq (sAsg (xCall (atN 2 s_between) (xCons (xBin dIx (xLook 5) (xLook 6)) (xCons (xBin dIx (xLook 5) (xBin dAdd (xLook 6) (xC (.int 1)))) xNil))) (gNm 7))
    (sSeq (sAsg (xNew (xLc (iSeq (xVar 3)) (gNm 13) tYes (xCall (atN 2 s_crossings) (xCons (xVar 13) (xCons (xVar 7) xNil))) [13])) (gNm 8))
    (sSeq (sAsg (xCall (atN 1 s_in_order) (xCons (xNew (xLc (iSeq (xBin dAdd (xBin dIx (xLook 8) (xC (.int 0))) (xBin dIx (xLook 8) (xC (.int 1))))) (gTp (Gy.gCons (gNm 11) (Gy.gCons (gNm 14) gNil))) tYes (xVar 11) [11, 14])) xNil)) (gNm 9))
    (sFor (iRng1 (xBin dSub (xFun (one dLen) (xCons (xLook 9) xNil)) (xC (.int 1)))) (gNm 10) b_parting_1))))
def x_parting : XS :=
    (sSeq (sAsg (xNew (xLst (xCons (xCall (atN 1 s_lines_of) (xCons (xVar 0) xNil)) (xCons (xCall (atN 1 s_lines_of) (xCons (xVar 1) xNil)) xNil)))) (gNm 3))
    (sSeq (sAsg (xNew (xLc (iSeq (xBin dAdd (xCall (atN 1 s_pieces) (xCons (xVar 0) xNil)) (xCall (atN 1 s_pieces) (xCons (xVar 1) xNil)))) (gNm 12) (tB (xBin dEq (xBin dIx (xBin dIx (xLook 12) (xC (.int 0))) (xC (.int 1))) (xBin dIx (xBin dIx (xLook 12) (xC (.int 1))) (xC (.int 1))))) (xTup (xCons (xBin dIx (xBin dIx (xLook 12) (xC (.int 0))) (xC (.int 1))) (xCons (xC (.int 1)) xNil))) [12])) (gNm 4))
    (sSeq (sAsg (xCall (atN 1 s_in_order) (xCons (xBin dAdd (xCall (atN 1 s_heights) (xCons (xBin dAdd (xBin dIx (xLook 3) (xC (.int 0))) (xBin dIx (xLook 3) (xC (.int 1)))) xNil)) (xLook 4)) xNil)) (gNm 5))
    (sSeq (sFor (iRng1 (xBin dSub (xFun (one dLen) (xCons (xLook 5) xNil)) (xC (.int 1)))) (gNm 6) b_parting_2)
    (sRet (xC .non))))))
def s_parting : List D → R Sl := runF 15 x_parting
/-- _law_straight -/
def b_law_straight_1 : XS :=
    (sSeq (sAsg (xCall (atN 3 s_law_number) (xCons (xVar 0) (xCons (xBin dAdd (xBin dAdd (xBin dAdd (xLook 1) (xC (.int 4))) (xBin dMul (xC (.int 12)) (xLook 4))) (xBin dMul (xC (.int 2)) (xLook 6))) (xCons (xVar 2) xNil)))) (gNm 7))
    (sApp 5 (xTup (xCons (xC (.str w_746f)) (xCons (xVar 7) (xCons (xCall (atN 3 s_law_number) (xCons (xVar 0) (xCons (xBin dAdd (xBin dAdd (xBin dAdd (xLook 1) (xC (.int 5))) (xBin dMul (xC (.int 12)) (xLook 4))) (xBin dMul (xC (.int 2)) (xLook 6))) (xCons (xVar 2) xNil)))) xNil))))))
def b_law_straight_2 : XS :=
    (sSeq (sOwn 5 (xLst (xCons (xTup (xCons (xC (.str w_6174)) (xCons (xCall (atN 3 s_law_number) (xCons (xVar 0) (xCons (xBin dAdd (xBin dAdd (xLook 1) (xC (.int 1))) (xBin dMul (xC (.int 12)) (xLook 4))) (xCons (xVar 2) xNil)))) (xCons (xCall (atN 3 s_law_number) (xCons (xVar 0) (xCons (xBin dAdd (xBin dAdd (xLook 1) (xC (.int 2))) (xBin dMul (xC (.int 12)) (xLook 4))) (xCons (xVar 2) xNil)))) xNil)))) xNil)))
    (sSeq (sFor (iRng1 (xBin dMod (xCall (atN 2 s_law_mix) (xCons (xVar 0) (xCons (xBin dAdd (xBin dAdd (xLook 1) (xC (.int 3))) (xBin dMul (xC (.int 12)) (xLook 4))) xNil))) (xC (.int 5)))) (gNm 6) b_law_straight_1)
    (sSeq (sFrz 5) (sApp 3 (xVar 5)))))
def x_law_straight : XS :=
    (sSeq (sOwn 3 (xLst xNil))
    (sSeq (sFor (iRng1 (xBin dIx (xNew (xLst (xCons (xC (.int 1)) (xCons (xC (.int 1)) (xCons (xC (.int 2)) (xCons (xC (.int 0)) (xCons (xC (.int 1)) (xCons (xC (.int 2)) xNil)))))))) (xBin dMod (xCall (atN 2 s_law_mix) (xCons (xVar 0) (xCons (xVar 1) xNil))) (xC (.int 6))))) (gNm 4) b_law_straight_2)
    (sRetO 3)))
def s_law_straight : List D → R Sl := runF 8 x_law_straight
/-- _wall -/
def b_wall_1 : XS :=
    sNil
def x_wall : XS :=
    (sWh (tB (xC (.bl true))) b_wall_1)
def s_wall : List D → R Sl := runF 1 x_wall
/-- _law_glyphs -/
def b_law_glyphs_1 : XS :=
    (sSeq (sAsg (xCall (atN 2 s_law_mix) (xCons (xVar 0) (xCons (xBin dAdd (xBin dAdd (xBin dAdd (xLook 1) (xC (.int 2))) (xBin dMul (xC (.int 40)) (xLook 3))) (xLook 7)) xNil))) (gNm 8))
    (sApp 6 (xTup (xCons (xBin dIx (xC (.str w_61626364)) (xBin dMod (xLook 8) (xLook 3))) (xCons (xBin dSub (xBin dMod (xBin dDiv (xLook 8) (xC (.int 8))) (xC (.int 30))) (xC (.int 9))) (xCons (xBin dSub (xBin dMod (xBin dDiv (xLook 8) (xC (.int 512))) (xC (.int 30))) (xC (.int 9))) xNil))))))
def b_law_glyphs_2 : XS :=
    (sSeq (sAsg (xCall (atN 2 s_law_mix) (xCons (xVar 0) (xCons (xBin dAdd (xBin dAdd (xLook 1) (xC (.int 1))) (xBin dMul (xC (.int 40)) (xLook 3))) xNil))) (gNm 4))
    (sSeq (sAsg (xBin dMul (xNew (xLst (xCons (xCall (atN 3 s_law_way) (xCons (xVar 0) (xCons (xBin dAdd (xBin dAdd (xLook 1) (xC (.int 10))) (xBin dMul (xC (.int 40)) (xLook 3))) (xCons (xC (.int 20)) xNil)))) xNil))) (xBin dMod (xLook 4) (xC (.int 3)))) (gNm 5))
    (sSeq (sOwn 6 (xLst xNil))
    (sSeq (sIf (tB (xBin dGt (xLook 3) (xC (.int 0))))
    (sFor (iRng1 (xBin dMod (xBin dDiv (xLook 4) (xC (.int 8))) (xC (.int 3)))) (gNm 7) b_law_glyphs_1)
    sNil)
    (sSeq (sFrz 6) (sApp 2 (xTup (xCons (xBin dIx (xC (.str w_61626364)) (xLook 3)) (xCons (xBin dMod (xBin dDiv (xLook 4) (xC (.int 64))) (xC (.int 30))) (xCons (xVar 5) (xCons (xVar 6) xNil)))))))))))
def x_law_glyphs : XS :=
    (sSeq (sOwn 2 (xLst xNil))
    (sSeq (sFor (iRng1 (xBin dAdd (xC (.int 1)) (xBin dMod (xCall (atN 2 s_law_mix) (xCons (xVar 0) (xCons (xVar 1) xNil))) (xC (.int 4))))) (gNm 3) b_law_glyphs_2)
    (sRetO 2)))
def s_law_glyphs : List D → R Sl := runF 9 x_law_glyphs
/-- _law_kerns -/
def b_law_kerns_1 : XS :=
    (sSeq (sAsg (xCall (atN 2 s_law_mix) (xCons (xVar 0) (xCons (xBin dAdd (xBin dAdd (xLook 1) (xC (.int 1))) (xLook 4)) xNil))) (gNm 5))
    (sApp 3 (xTup (xCons (xBin dIx (xBin dIx (xLook 2) (xBin dMod (xLook 5) (xFun (one dLen) (xCons (xLook 2) xNil)))) (xC (.int 0))) (xCons (xBin dIx (xBin dIx (xLook 2) (xBin dMod (xBin dDiv (xLook 5) (xC (.int 8))) (xFun (one dLen) (xCons (xLook 2) xNil)))) (xC (.int 0))) (xCons (xBin dSub (xBin dMod (xBin dDiv (xLook 5) (xC (.int 64))) (xC (.int 9))) (xC (.int 3))) xNil))))))
def x_law_kerns : XS :=
    (sSeq (sOwn 3 (xLst xNil))
    (sSeq (sFor (iRng1 (xBin dMod (xCall (atN 2 s_law_mix) (xCons (xVar 0) (xCons (xVar 1) xNil))) (xC (.int 4)))) (gNm 4) b_law_kerns_1)
    (sRetO 3)))
def s_law_kerns : List D → R Sl := runF 6 x_law_kerns
end
end Gy

end

section
set_option Elab.async false
set_option linter.all false
set_option maxRecDepth 100000
set_option maxHeartbeats 4000000
/-! GyL: plain lemmas about the defs that more laws than one reach. -/
namespace Gy
open PySem

/-! ### places -/
theorem getAt_nat {α : Type} {xs : List α} {i : Int} (h0 : 0 ≤ i) (h1 : i < xs.length) : getAt xs i = xs[i.toNat]? := by
  unfold getAt ixAt
  rw [if_pos h0, if_pos h1]
  rfl
@[simp] theorem getAt_0 {α : Type} (a : α) (r : List α) : getAt (a :: r) 0 = some a := by
  rw [getAt_nat (by omega) (by simp)]
  rfl
@[simp] theorem getAt_1 {α : Type} (a b : α) (r : List α) : getAt (a :: b :: r) 1 = some b := by
  rw [getAt_nat (by omega) (by simp; omega)]
  rfl
@[simp] theorem getAt_2 {α : Type} (a b c : α) (r : List α) : getAt (a :: b :: c :: r) 2 = some c := by
  rw [getAt_nat (by omega) (by simp; omega)]
  rfl
@[simp] theorem getAt_3 {α : Type} (a b c d : α) (r : List α) : getAt (a :: b :: c :: d :: r) 3 = some d := by
  rw [getAt_nat (by omega) (by simp; omega)]
  rfl
@[simp] theorem getAt_4 {α : Type} (a b c d e : α) (r : List α) : getAt (a :: b :: c :: d :: e :: r) 4 = some e := by
  rw [getAt_nat (by omega) (by simp; omega)]
  rfl

@[simp] theorem getAt_5 {α : Type} (a b c d e f : α) (r : List α) : getAt (a :: b :: c :: d :: e :: f :: r) 5 = some f := by
  rw [getAt_nat (by omega) (by simp; omega)]
  rfl
@[simp] theorem getAt_m1 {α : Type} (a : α) (r : List α) : getAt (a :: r) (-1) = some ((a :: r).getLast (List.cons_ne_nil a r)) := by
  unfold getAt ixAt
  have h1 : ¬ (0 : Int) ≤ -1 := by omega
  have h2 : -(((a :: r).length : Nat) : Int) ≤ -1 := by simp; omega
  rw [if_neg h1, if_pos h2]
  show (a :: r)[((-1 : Int) + ((a :: r).length : Nat)).toNat]? = _
  have e : ((-1 : Int) + ((a :: r).length : Nat)).toNat = (a :: r).length - 1 := by omega
  rw [e, ← List.getLast?_eq_getElem?, List.getLast?_eq_some_getLast]
theorem getAt_ix {α : Type} {xs : List α} {i : Nat} (h : i < xs.length) : getAt xs (i : Int) = some xs[i] := by
  rw [getAt_nat (by omega) (by omega)]
  simp [h]

/-! ### the script's numbers -/
def cellv (ns : List Int) (k : Int) : Int := if ns = [] then 0 else ns.getD (k % (ns.length : Int)).toNat 0
theorem cell_eq (ns : List Int) (k : Int) : s_law_cell [.scr ns, .int k] = .ok (.dat (.int (cellv ns k))) := by
  unfold s_law_cell runF x_law_cell cellv
  cases ns with
  | nil => simp
  | cons a r =>
    have hl : (0 : Int) < ((a :: r).length : Int) := by simp
    have h0 := Int.emod_nonneg k (show ((a :: r).length : Int) ≠ 0 by omega)
    have h1 := Int.emod_lt_of_pos k hl
    have e : getAt (a :: r) (k % ((a :: r).length : Int)) = some ((a :: r).getD (k % ((a :: r).length : Int)).toNat 0) := by
      rw [getAt_nat h0 h1]
      have h2 : (k % ((a :: r).length : Int)).toNat < (a :: r).length := by omega
      rw [List.getD_eq_getElem?_getD, List.getElem?_eq_getElem h2]
      rfl
    generalize hm : k % ((a :: r).length : Int) = m at e
    generalize hg : (a :: r).getD m.toNat 0 = g at e
    have hm' : k % ((r.length : Int) + 1) = m := by simpa using hm
    simp [hm', e]

/-- what _law_mix gives: a number from 0 on below M -/
def mixv (ns : List Int) (k : Int) : Int :=
  let a := ((cellv ns k + 104729 * (k + 1)) % 4294967291) ^ 5 % 4294967279
  (a / 64 * 69621 + a) % 4294967231
theorem mix_lo (ns : List Int) (k : Int) : 0 ≤ mixv ns k := Int.emod_nonneg _ (by decide)
theorem mix_hi (ns : List Int) (k : Int) : mixv ns k < 4294967231 := Int.emod_lt_of_pos _ (by decide)
theorem mix_eq (ns : List Int) (k : Int) (hk : k.natAbs < 1000000000) : s_law_mix [.scr ns, .int k] = .ok (.dat (.int (mixv ns k))) := by
  unfold s_law_mix runF x_law_mix mixv
  have s2 : Sm (k + 1) := sm_small (by omega)
  have b0 := Int.emod_nonneg (cellv ns k + 104729 * (k + 1)) (show (4294967291 : Int) ≠ 0 by decide)
  have b1 := Int.emod_lt_of_pos (cellv ns k + 104729 * (k + 1)) (show (0 : Int) < 4294967291 by decide)
  generalize ha : (cellv ns k + 104729 * (k + 1)) % 4294967291 = a at b0 b1
  have c0 := Int.emod_nonneg (a ^ 5) (show (4294967279 : Int) ≠ 0 by decide)
  have c1 := Int.emod_lt_of_pos (a ^ 5) (show (0 : Int) < 4294967279 by decide)
  have p1 : a.natAbs < 18446744073709551616 := by omega
  generalize hb : a ^ 5 % 4294967279 = b at c0 c1
  have s3 : Sm (b / 64) := sm_small (by omega)
  simp [cell_eq, s2, ha, hb, p1, s3]
/-- what _law_number gives -/
def numv (ns : List Int) (k most : Int) : Int :=
  let m := mixv ns k
  if m % 5 = 0 then 0 else if m % 5 = 1 then 1 else if m % 5 = 2 then -1 else if m % 5 = 3 then m / 8 % 11 - 5 else m / 8 % (2 * most + 1) - most
theorem num_eq (ns : List Int) (k most : Int) (hk : k.natAbs < 1000000000) (h0 : 0 ≤ most) (h1 : most < 1000000000) : s_law_number [.scr ns, .int k, .int most] = .ok (.dat (.int (numv ns k most))) := by
  unfold s_law_number runF x_law_number numv
  have m0 := mix_lo ns k
  have m1 := mix_hi ns k
  generalize hm : mixv ns k = m at m0 m1
  have s2 : Sm most := sm_small (by omega)
  have d1 : 0 < 2 * most + 1 := by omega
  have r0 := Int.emod_nonneg m (show (5 : Int) ≠ 0 by decide)
  have r1 := Int.emod_lt_of_pos m (show (0 : Int) < 5 by decide)
  have r : m % 5 = 0 ∨ m % 5 = 1 ∨ m % 5 = 2 ∨ m % 5 = 3 ∨ m % 5 = 4 := by omega
  simp [mix_eq ns k hk, hm, s2, d1]
  rcases r with r | r | r | r | r <;> simp [r]
theorem num_lo (ns : List Int) (k most : Int) (h0 : 0 ≤ most) : -(max 5 most) ≤ numv ns k most := by
  unfold numv
  have h := Int.emod_nonneg (mixv ns k / 8) (show (2 * most + 1 : Int) ≠ 0 by omega)
  dsimp only
  split
  · omega
  split
  · omega
  split
  · omega
  split <;> omega
theorem num_hi (ns : List Int) (k most : Int) (h0 : 0 ≤ most) : numv ns k most ≤ max 5 most := by
  unfold numv
  have h := Int.emod_lt_of_pos (mixv ns k / 8) (show (0 : Int) < 2 * most + 1 by omega)
  dsimp only
  split
  · omega
  split
  · omega
  split
  · omega
  split <;> omega

/-! ### outlines -/
inductive Stp where
  | to (x y : Int) | by (x y u v : Int)
structure Way where
  x : Int
  y : Int
  st : List Stp
def eStp : Stp → D
  | .to x y => .tup [.str w_746f, .int x, .int y]
  | .by x y u v => .tup [.str w_6279, .int x, .int y, .int u, .int v]
def eAt (x y : Int) : D := .tup [.str w_6174, .int x, .int y]
def eSteps (w : Way) : List D := eAt w.x w.y :: w.st.map eStp
def eWay (w : Way) : D := .lst (eSteps w)
def eOut (o : List Way) : D := .lst (o.map eWay)
@[simp] theorem good_at : strGood w_6174 = true := by decide +kernel
@[simp] theorem good_to : strGood w_746f = true := by decide +kernel
@[simp] theorem good_by : strGood w_6279 = true := by decide +kernel
@[simp] theorem at_to : (w_6174 = w_746f) = False := eq_false (by decide)
@[simp] theorem to_at : (w_746f = w_6174) = False := eq_false (by decide)
@[simp] theorem at_by : (w_6174 = w_6279) = False := eq_false (by decide)
@[simp] theorem by_at : (w_6279 = w_6174) = False := eq_false (by decide)
@[simp] theorem to_by : (w_746f = w_6279) = False := eq_false (by decide)
@[simp] theorem by_to : (w_6279 = w_746f) = False := eq_false (by decide)
theorem rng_4 : rng 0 4 = [.int 0, .int 1, .int 2, .int 3] := rfl
theorem rng_n (n : Nat) : rng 0 n = (List.range n).map fun (i : Nat) => D.int (i : Int) := by
  unfold rng
  simp
/-- what _law_step gives -/
def stepv (ns : List Int) (k most : Int) : Stp :=
  if mixv ns k % 5 < 2 then .to (numv ns (k + 1) most) (numv ns (k + 2) most)
  else .by (numv ns (k + 1) most) (numv ns (k + 1 + 1) most) (numv ns (k + 1 + 2) most) (numv ns (k + 1 + 3) most)
theorem step_eq (ns : List Int) (k most : Int) (hk : k.natAbs < 900000000) (h0 : 0 ≤ most) (h1 : most < 1000000000) : s_law_step [.scr ns, .int k, .int most] = .ok (.dat (eStp (stepv ns k most))) := by
  unfold s_law_step runF x_law_step stepv
  have n0 := num_eq ns (k + 1) most (by omega) h0 h1
  have n1 := num_eq ns (k + 2) most (by omega) h0 h1
  have n2 := num_eq ns (k + 1 + 1) most (by omega) h0 h1
  have n3 := num_eq ns (k + 1 + 2) most (by omega) h0 h1
  have n4 := num_eq ns (k + 1 + 3) most (by omega) h0 h1
  by_cases h : mixv ns k % 5 < 2
  · simp [mix_eq ns k (by omega), h, n0, n1, eStp]
  · simp [mix_eq ns k (by omega), h, n0, n2, n3, n4, rng_4, eStp]
/-- what _law_way gives -/
def wayv (ns : List Int) (k most : Int) : Way :=
  ⟨numv ns k most, numv ns (k + 1) most, (List.range (mixv ns (k + 2) % 5).toNat).map fun (j : Nat) => stepv ns (k + 3 + 3 * (j : Int)) most⟩
theorem way_eq (ns : List Int) (k most : Int) (hk : k.natAbs < 800000000) (h0 : 0 ≤ most) (h1 : most < 1000000000) : s_law_way [.scr ns, .int k, .int most] = .ok (.own (eSteps (wayv ns k most))) := by
  unfold s_law_way runF x_law_way
  have n0 := num_eq ns k most (by omega) h0 h1
  have n1 := num_eq ns (k + 1) most (by omega) h0 h1
  have m2 := mix_eq ns (k + 2) (by omega)
  have r0 := Int.emod_nonneg (mixv ns (k + 2)) (show (5 : Int) ≠ 0 by decide)
  have r1 := Int.emod_lt_of_pos (mixv ns (k + 2)) (show (0 : Int) < 5 by decide)
  unfold wayv eSteps
  generalize hm : mixv ns (k + 2) % 5 = m at r0 r1
  obtain ⟨n, rfl⟩ : ∃ n : Nat, m = n := ⟨m.toNat, by omega⟩
  have hr : RgN n := ⟨by omega, by omega⟩
  simp [n0, n1, m2, hm, rng_n, hr]
  obtain ⟨ρ', e1, j, rfl⟩ := for_app (g := gNm 4) (s := b_law_way_1) (fun (i : Nat) => D.int i) (fun (i : Nat) => eStp (stepv ns (k + 3 + 3 * (i : Int)) most)) (fun (z : List D) ρ => ∃ j, ρ = [Sl.dat (D.scr ns), Sl.dat (D.int k), Sl.dat (D.int most), Sl.own z, j])
      (List.range n) [D.tup [D.str w_6174, D.int (numv ns k most), D.int (numv ns (k + 1) most)]] _ ⟨_, rfl⟩ (by simp; omega) (by
    rintro z ρ i hi hz ⟨j, rfl⟩
    have hi : i < n := by simpa using hi
    have sm : Sm i := sm_small (by omega)
    have st := step_eq ns (k + 3 + 3 * (i : Int)) most (by omega) h0 h1
    exact ⟨_, _, rfl, by simp [b_law_way_1, sm, st, hz]; rfl, _, rfl⟩)
  rw [e1]
  simp [eAt]
/-- how many ways _law_outline makes -/
def cntv (ns : List Int) (k : Int) : Nat :=
  let m := mixv ns (k + 70) % 6
  if m = 0 then 1 else if m = 1 then 1 else if m = 2 then 2 else if m = 3 then 3 else if m = 4 then 0 else 2
def outv (ns : List Int) (k most : Int) : List Way := (List.range (cntv ns k)).map fun (j : Nat) => wayv ns (k + 20 * (j : Int)) most
theorem out_eq (ns : List Int) (k most : Int) (hk : k.natAbs < 700000000) (h0 : 0 ≤ most) (h1 : most < 1000000000) : s_law_outline [.scr ns, .int k, .int most] = .ok (.own ((outv ns k most).map eWay)) := by
  unfold s_law_outline runF x_law_outline
  have m7 := mix_eq ns (k + 70) (by omega)
  have r0 := Int.emod_nonneg (mixv ns (k + 70)) (show (6 : Int) ≠ 0 by decide)
  have r1 := Int.emod_lt_of_pos (mixv ns (k + 70)) (show (0 : Int) < 6 by decide)
  have key : ∀ n : Nat, n ≤ 3 → lcRun (gNm 3) tYes (xCall (atN 3 s_law_way) (xCons (xVar 0) (xCons (xBin dAdd (xLook 1) (xBin dMul (xC (.int 20)) (xLook 3))) (xCons (xVar 2) xNil))))
      [.dat (.scr ns), .dat (.int k), .dat (.int most), .no] ((List.range n).map fun (i : Nat) => D.int (i : Int)) = .ok (((List.range n).map fun (j : Nat) => wayv ns (k + 20 * (j : Int)) most).map eWay) := fun n hn => by
    rw [lc_map (fun (i : Nat) => D.int (i : Int)) (fun (j : Nat) => eWay (wayv ns (k + 20 * (j : Int)) most)), List.map_map]
    · rfl
    · intro i hi
      have hi : i < n := by simpa using hi
      have sm : Sm i := sm_small (by omega)
      have st := way_eq ns (k + 20 * (i : Int)) most (by omega) h0 h1
      exact ⟨_, rfl, by simp [sm, st]; rfl⟩
  have r : mixv ns (k + 70) % 6 = 0 ∨ mixv ns (k + 70) % 6 = 1 ∨ mixv ns (k + 70) % 6 = 2 ∨ mixv ns (k + 70) % 6 = 3 ∨ mixv ns (k + 70) % 6 = 4 ∨ mixv ns (k + 70) % 6 = 5 := by omega
  unfold outv cntv
  have w0 := way_eq ns k most (by omega) h0 h1
  have w1 := way_eq ns (k + 20) most (by omega) h0 h1
  have w2 := way_eq ns (k + 40) most (by omega) h0 h1
  have r00 : rng 0 0 = [] := rfl
  have r01 : rng 0 1 = [.int 0] := rfl
  have r02 : rng 0 2 = [.int 0, .int 1] := rfl
  have r03 : rng 0 3 = [.int 0, .int 1, .int 2] := rfl
  have l1 : List.range 1 = [0] := rfl
  have l2 : List.range 2 = [0, 1] := rfl
  have l3 : List.range 3 = [0, 1, 2] := rfl
  rcases r with r | r | r | r | r | r <;> simp [m7, r, r00, r01, r02, r03, w0, w1, w2, l1, l2, l3, eWay]

/-! ### what is an outline -/
def okN (n : Int) : Prop := -100000 ≤ n ∧ n ≤ 100000
def Stp.ok : Stp → Prop
  | .to x y => okN x ∧ okN y
  | .by x y u v => okN x ∧ okN y ∧ okN u ∧ okN v
structure Way.ok (w : Way) : Prop where
  x : okN w.x
  y : okN w.y
  st : ∀ s ∈ w.st, s.ok
  few : w.st.length ≤ 199
structure OutOk (o : List Way) : Prop where
  few : o.length ≤ 40
  ok : ∀ w ∈ o, w.ok
@[simp] theorem tc_at : t_COUNTS.lookup w_6174 = some (some (.int 3)) := rfl
@[simp] theorem tc_to : t_COUNTS.lookup w_746f = some (some (.int 3)) := rfl
@[simp] theorem tc_by : t_COUNTS.lookup w_6279 = some (some (.int 5)) := rfl
theorem cut_1 {α : Type} (a : α) (r : List α) : cutAt (a :: r) (some 1) none = r := by
  unfold cutAt clipAt
  have e : (min (1 : Int) ((a :: r).length : Nat)).toNat = 1 := by simp; omega
  simp only [show ¬ (1 : Int) < 0 by omega, if_false]
  rw [e]
  simp
theorem look_way_eq (w : Way) (h : w.ok) : s_look_way [eWay w] = .ok (.dat .non) := by
  unfold s_look_way runF x_look_way
  obtain ⟨hx, hy, hst, hf⟩ := h
  have hx := hx
  unfold okN at hx hy
  have len : (eSteps w).length = w.st.length + 1 := by simp [eSteps]
  have hr : RgN ((w.st.length : Int) + 1) := ⟨by omega, by omega⟩
  have c1 : (1 : Int) ≤ (w.st.length : Int) + 1 := by omega
  have c2 : (w.st.length : Int) + 1 ≤ 200 := by omega
  have g0 : getAt (eSteps w) 0 = some (eAt w.x w.y) := by simp [eSteps]
  simp [eWay, len, hr, c1, c2, g0, eAt, rng_n]
  obtain ⟨ρ', e1, _⟩ := for_map (g := gNm 1) (s := b_look_way_1) (fun (i : Nat) => D.int i) (fun (z : Unit) ρ => ∃ a b, ρ = [Sl.dat (D.lst (eSteps w)), a, b, Sl.no]) (fun _ _ => ()) (List.range (w.st.length + 1)) () [Sl.dat (D.lst (eSteps w)), Sl.no, Sl.no, Sl.no] ⟨_, _, rfl⟩ (by
    rintro _ ρ i hi ⟨a, b, rfl⟩
    have hi : i < w.st.length + 1 := by simpa using hi
    have gi : getAt (eSteps w) (i : Int) = some ((eSteps w)[i]'(by rw [len]; exact hi)) := getAt_ix (by rw [len]; exact hi)
    cases i with
    | zero =>
      exact ⟨_, _, rfl, by simp [b_look_way_1, g0, eAt, cut_1, hx, hy]; exact ⟨rfl, rfl⟩, _, _, rfl⟩
    | succ i =>
      have hs := hst (w.st[i]) (List.getElem_mem _)
      have gi : getAt (eSteps w) ((i : Int) + 1) = some (eStp (w.st[i])) := by
        have z := gi
        simp [eSteps] at z
        exact z
      have p0 : (0 : Int) < (i : Int) + 1 := by omega
      cases e : w.st[i] with
      | to x y =>
        rw [e] at gi hs
        have h1 : okN x := hs.1
        have h2 : okN y := hs.2
        unfold okN at h1 h2
        exact ⟨_, _, rfl, by simp [b_look_way_1, gi, eStp, cut_1, h1, h2, p0]; exact ⟨rfl, rfl⟩, _, _, rfl⟩
      | «by» x y u v =>
        rw [e] at gi hs
        have h1 : okN x := hs.1
        have h2 : okN y := hs.2.1
        have h3 : okN u := hs.2.2.1
        have h4 : okN v := hs.2.2.2
        unfold okN at h1 h2 h3 h4
        exact ⟨_, _, rfl, by simp [b_look_way_1, gi, eStp, cut_1, h1, h2, h3, h4, p0]; exact ⟨rfl, rfl⟩, _, _, rfl⟩)
  rw [e1]
theorem look_eq (o : List Way) (h : OutOk o) : s_look_outline [eOut o] = .ok (.dat .non) := by
  unfold s_look_outline runF x_look_outline
  have hf := h.few
  have c1 : ¬ (40 : Int) < (o.length : Int) := by omega
  simp [eOut, c1]
  obtain ⟨ρ', e1, _⟩ := for_map (g := gNm 1) (s := b_look_outline_1) eWay (fun (z : Unit) ρ => ∃ a, ρ = [Sl.dat (D.lst (o.map eWay)), a]) (fun _ _ => ()) o () [Sl.dat (D.lst (o.map eWay)), Sl.no] ⟨_, rfl⟩ (by
    rintro _ ρ w hw ⟨a, rfl⟩
    exact ⟨_, _, rfl, by simp [b_look_outline_1, look_way_eq w (h.ok w hw)]; rfl, _, rfl⟩)
  rw [e1]

/-! ### pieces -/
abbrev Pt := Int × Int
def ePt (p : Pt) : D := .tup [.int p.1, .int p.2]
inductive Pc where
  | ln (a b : Pt) | bd (a b c : Pt)
def ePc : Pc → D
  | .ln a b => .tup [ePt a, ePt b]
  | .bd a b c => .tup [ePt a, ePt b, ePt c]
def Stp.pc (h : Pt) : Stp → Pc
  | .to x y => .ln h (x, y)
  | .by x y u v => .bd h (x, y) (u, v)
def Stp.fin : Stp → Pt
  | .to x y => (x, y)
  | .by _ _ u v => (u, v)
def linesFrom : Pt → List Stp → List Pc
  | _, [] => []
  | h, s :: r => s.pc h :: linesFrom s.fin r
def endFrom : Pt → List Stp → Pt
  | h, [] => h
  | _, s :: r => endFrom s.fin r
def Way.at (w : Way) : Pt := (w.x, w.y)
def Way.pcs (w : Way) : List Pc := linesFrom w.at w.st ++ if endFrom w.at w.st = w.at then [] else [.ln (endFrom w.at w.st) w.at]
def pcs (o : List Way) : List Pc := o.flatMap Way.pcs
theorem lines_len : ∀ (h : Pt) (st : List Stp), (linesFrom h st).length = st.length
  | _, [] => rfl
  | h, s :: r => by rw [linesFrom, List.length_cons, List.length_cons, lines_len]
theorem cut_13 (a b c d e : D) : cutAt [a, b, c, d, e] (some 1) (some 3) = [b, c] := rfl
theorem cut_3 (a b c d e : D) : cutAt [a, b, c, d, e] (some 3) none = [d, e] := rfl
theorem cut_13' (a b c : D) : cutAt [a, b, c] (some 1) (some 3) = [b, c] := rfl
theorem cut_m23 (a b c : D) : cutAt [a, b, c] (some (-2)) none = [b, c] := rfl
theorem cut_m25 (a b c d e : D) : cutAt [a, b, c, d, e] (some (-2)) none = [d, e] := rfl
theorem cut_35 (a b c d e : D) : cutAt [a, b, c, d, e] (some 3) (some 5) = [d, e] := rfl
theorem cut_3' (a b c : D) : cutAt [a, b, c] (some 3) none = [] := rfl
theorem pc_loop (wy : D) (b : Pt) : ∀ (st : List Stp) (z : List D) (h : Pt) (t : Sl), z.length + st.length ≤ 16000000 →
    ∃ t', forRun (gNm 4) b_pieces_of_1 (st.map eStp) [.dat wy, .own z, .dat (ePt b), .dat (ePt h), t] = .nx [.dat wy, .own (z ++ (linesFrom h st).map ePc), .dat (ePt b), .dat (ePt (endFrom h st)), t']
  | [], z, h, t, _ => ⟨t, by simp [linesFrom, endFrom]⟩
  | s :: r, z, h, t, hl => by
    have hz : Ln z.length := ⟨by simp at hl; omega⟩
    have hl' : (z ++ [ePc (s.pc h)]).length + r.length ≤ 16000000 := by simp at hl ⊢; omega
    obtain ⟨t', e⟩ := pc_loop wy b r (z ++ [ePc (s.pc h)]) s.fin (.dat (eStp s)) hl'
    refine ⟨t', ?_⟩
    rw [List.map_cons, for_nx (ρ' := [.dat wy, .own z, .dat (ePt b), .dat (ePt h), .dat (eStp s)]) rfl (ρ2 := [.dat wy, .own (z ++ [ePc (s.pc h)]), .dat (ePt b), .dat (ePt s.fin), .dat (eStp s)]) ?_, e]
    · simp [linesFrom, endFrom]
    · cases s <;> simp [b_pieces_of_1, eStp, cut_1, cut_13, cut_3, hz, Stp.pc, Stp.fin, ePc, ePt]
theorem ept_eqv (a b : Pt) : dEqv (ePt a) (ePt b) = decide (a = b) := by
  cases a
  cases b
  simp [ePt, Prod.ext_iff]
@[simp] theorem lay_pt (a : Pt) : dLay (ePt a) = true := by simp [ePt]
@[simp] theorem deep_pt (a : Pt) : dDeep (ePt a) = 1 := by simp [ePt]
theorem pieces_of_eq (w : Way) (hw : w.st.length ≤ 1000) : s_pieces_of [eWay w] = .ok (.own (w.pcs.map ePc)) := by
  unfold s_pieces_of runF x_pieces_of
  obtain ⟨t', e⟩ := pc_loop (eWay w) w.at w.st [] w.at .no (by simp; omega)
  have hl : Ln (linesFrom w.at w.st).length := ⟨by rw [lines_len]; omega⟩
  have e' : forRun (gNm 4) b_pieces_of_1 (w.st.map eStp) [.dat (.lst (eSteps w)), .own [], .dat (.tup [.int w.x, .int w.y]), .dat (.tup [.int w.x, .int w.y]), .no] = _ := e
  simp [eWay, eSteps, eAt, cut_1] at e' ⊢
  rw [e']
  by_cases h : endFrom w.at w.st = w.at
  · simp [ept_eqv, h, Way.pcs]
  · simp [ept_eqv, h, hl, Way.pcs, ePc]
theorem all_pieces_eq (o : List Way) (ho : o.length ≤ 1000) (h : ∀ w ∈ o, w.st.length ≤ 1000) : s_all_pieces [eOut o] = .ok (.own ((pcs o).map ePc)) := by
  unfold s_all_pieces runF x_all_pieces
  have len : ∀ w ∈ o, (w.pcs.map ePc).length ≤ 1001 := fun w hw => by
    have := h w hw
    have := lines_len w.at w.st
    unfold Way.pcs
    split <;> simp <;> omega
  have tot : ∀ (p : List Way), (∀ w ∈ p, (w.pcs.map ePc).length ≤ 1001) → (p.flatMap fun w => w.pcs.map ePc).length ≤ 1001 * p.length := fun p => by
    induction p with
    | nil => intro _; simp
    | cons w r ih =>
      intro hp
      rw [List.flatMap_cons, List.length_append, List.length_cons]
      have := ih fun x hx => hp x (List.mem_cons_of_mem _ hx)
      have := hp w List.mem_cons_self
      omega
  obtain ⟨ρ', e1, t, rfl⟩ := for_cat (g := gNm 2) (s := b_all_pieces_1) eWay (fun w => w.pcs.map ePc) (fun z ρ => ∃ t, ρ = [.dat (eOut o), .own z, t]) o [] [.dat (eOut o), .own [], .no] ⟨_, rfl⟩ (by have := tot o len; simp only [List.length_nil]; omega) (by
    rintro z ρ w hw hz ⟨t, rfl⟩
    have hz' : Ln (z.length + w.pcs.length) := by simpa using hz
    exact ⟨_, _, rfl, by simp [b_all_pieces_1, pieces_of_eq w (h w hw), hz']; rfl, _, rfl⟩)
  have e2 : forRun (gNm 2) b_all_pieces_1 (o.map eWay) [.dat (.lst (o.map eWay)), .own [], .no] = _ := e1
  simp [eOut] at e2 ⊢
  rw [e2]
  simp [pcs, List.map_flatMap]
theorem pieces_eq (o : List Way) (h : OutOk o) : s_pieces [eOut o] = .ok (.own ((pcs o).map ePc)) := by
  unfold s_pieces runF x_pieces
  have h1 := all_pieces_eq o (by have := h.few; omega) fun w hw => by have := (h.ok w hw).few; omega
  simp [look_eq o h, h1]
/-- the law's own pieces -/
theorem rngC_3 : rngC 1 2 1 = [.int 1] := rfl
theorem rngC_5 : rngC 1 2 2 = [.int 1, .int 3] := rfl
theorem lp_loop (o : D) (f : D) : ∀ (st : List Stp) (z : List D) (h : Pt) (t : Sl), z.length + st.length ≤ 16000000 →
    ∃ t', forRun (gNm 4) b_law_pieces_1 (st.map eStp) [.dat o, .own z, .dat f, .dat (ePt h), t, .no] = .nx [.dat o, .own (z ++ (linesFrom h st).map ePc), .dat f, .dat (ePt (endFrom h st)), t', .no]
  | [], z, h, t, _ => ⟨t, by simp [linesFrom, endFrom]⟩
  | s :: r, z, h, t, hl => by
    have hz : Ln z.length := ⟨by simp at hl; omega⟩
    have hl' : (z ++ [ePc (s.pc h)]).length + r.length ≤ 16000000 := by simp at hl ⊢; omega
    obtain ⟨t', e⟩ := lp_loop o f r (z ++ [ePc (s.pc h)]) s.fin (.dat (eStp s)) hl'
    refine ⟨t', ?_⟩
    rw [List.map_cons, for_nx (ρ' := [.dat o, .own z, .dat f, .dat (ePt h), .dat (eStp s), .no]) rfl (ρ2 := [.dat o, .own (z ++ [ePc (s.pc h)]), .dat f, .dat (ePt s.fin), .dat (eStp s), .no]) ?_, e]
    · simp [linesFrom, endFrom]
    · cases s with
      | to x y => simp [b_law_pieces_1, eStp, cut_13', cut_m23, hz, Stp.pc, Stp.fin, ePc, ePt, rngC_3]
      | «by» x y u v => simp [b_law_pieces_1, eStp, cut_13, cut_35, cut_m25, hz, Stp.pc, Stp.fin, ePc, ePt, rngC_5]
theorem law_pieces_eq (o : List Way) (ho : o.length ≤ 1000) (h : ∀ w ∈ o, w.st.length ≤ 1000) : s_law_pieces [eOut o] = .ok (.own ((pcs o).map ePc)) := by
  unfold s_law_pieces runF x_law_pieces
  have key : ∀ (p : List Way) (z : List D) (t1 t2 t3 : Sl), (∀ w ∈ p, w.st.length ≤ 1000) → z.length + 1001 * p.length ≤ 16000000 →
      ∃ t1' t2' t3', forRun (gNm 2) b_law_pieces_2 (p.map eWay) [.dat (eOut o), .own z, t1, t2, t3, .no] = .nx [.dat (eOut o), .own (z ++ (pcs p).map ePc), t1', t2', t3', .no] := fun p => by
    induction p with
    | nil => intro z t1 t2 t3 _ _; exact ⟨t1, t2, t3, by simp [pcs]⟩
    | cons w r ih =>
      intro z t1 t2 t3 hp hl
      have hw := hp w List.mem_cons_self
      rw [List.length_cons] at hl
      obtain ⟨t', e⟩ := lp_loop (eOut o) (eWay w) w.st z w.at t3 (by omega)
      have hll := lines_len w.at w.st
      have hpl : (z ++ w.pcs.map ePc).length ≤ z.length + 1001 := by
        unfold Way.pcs
        split <;> simp <;> omega
      obtain ⟨u1, u2, u3, e2⟩ := ih (z ++ w.pcs.map ePc) (.dat (eWay w)) (.dat (ePt (endFrom w.at w.st))) t' (fun x hx => hp x (List.mem_cons_of_mem _ hx)) (by omega)
      refine ⟨u1, u2, u3, ?_⟩
      rw [List.map_cons, for_nx (ρ' := [.dat (eOut o), .own z, .dat (eWay w), t2, t3, .no]) rfl (ρ2 := [.dat (eOut o), .own (z ++ w.pcs.map ePc), .dat (eWay w), .dat (ePt (endFrom w.at w.st)), t', .no]) ?_, e2]
      · simp [pcs]
      · have hz : Ln (z.length + (linesFrom w.at w.st).length) := ⟨by omega⟩
        have e' : forRun (gNm 4) b_law_pieces_1 (w.st.map eStp) [.dat (eOut o), .own z, .dat (.lst (.tup [.str w_6174, .int w.x, .int w.y] :: w.st.map eStp)), .dat (.tup [.int w.x, .int w.y]), t3, .no] = _ := e
        simp [b_law_pieces_2, eWay, eSteps, eAt, cut_1]
        rw [e']
        by_cases h : endFrom w.at w.st = w.at
        · have h' : dEqv (ePt (endFrom w.at w.st)) (.tup [.int w.x, .int w.y]) = true := by
            have := ept_eqv (endFrom w.at w.st) w.at
            rw [decide_eq_true h] at this
            exact this
          rw [h] at h'
          simp [eAt, cut_1, h', h, Way.pcs, eWay, eSteps]
        · have h' : dEqv (ePt (endFrom w.at w.st)) (.tup [.int w.x, .int w.y]) = false := by
            have := ept_eqv (endFrom w.at w.st) w.at
            rw [decide_eq_false h] at this
            exact this
          simp [eAt, cut_1, h', h, hz, Way.pcs, ePc, eWay, eSteps]
          rfl
  obtain ⟨t1, t2, t3, e⟩ := key o [] .no .no .no h (by simp only [List.length_nil]; omega)
  have e' : forRun (gNm 2) b_law_pieces_2 (o.map eWay) [.dat (.lst (o.map eWay)), .own [], .no, .no, .no, .no] = _ := e
  simp [eOut] at e' ⊢
  rw [e']
  simp
end Gy

end

section
set_option Elab.async false
set_option linter.all false
set_option maxRecDepth 100000
set_option maxHeartbeats 4000000
/-! GyL2: outlines turned about, moved. -/
namespace Gy
open PySem
def Pc.beg : Pc → Pt
  | .ln a _ => a
  | .bd a _ _ => a
def Pc.fin : Pc → Pt
  | .ln _ b => b
  | .bd _ _ c => c
def Pc.flip : Pc → Pc
  | .ln a b => .ln b a
  | .bd a b c => .bd c b a
def Pc.stp : Pc → Stp
  | .ln _ b => .to b.1 b.2
  | .bd _ b c => .by b.1 b.2 c.1 c.2
@[simp] theorem flip_beg (p : Pc) : p.flip.beg = p.fin := by cases p <;> rfl
@[simp] theorem flip_fin (p : Pc) : p.flip.fin = p.beg := by cases p <;> rfl
@[simp] theorem flip_flip (p : Pc) : p.flip.flip = p := by cases p <;> rfl
@[simp] theorem stp_fin (p : Pc) : p.stp.fin = p.fin := by cases p <;> rfl
@[simp] theorem stp_pc (p : Pc) : p.stp.pc p.beg = p := by cases p <;> rfl
@[simp] theorem pc_beg (s : Stp) (h : Pt) : (s.pc h).beg = h := by cases s <;> rfl
@[simp] theorem pc_fin (s : Stp) (h : Pt) : (s.pc h).fin = s.fin := by cases s <;> rfl
/-- from one point to another, piece by piece -/
def Chain : Pt → List Pc → Pt → Prop
  | a, [], b => a = b
  | a, p :: r, b => p.beg = a ∧ Chain p.fin r b
theorem Chain.app {a b c : Pt} : ∀ {xs ys : List Pc}, Chain a xs b → Chain b ys c → Chain a (xs ++ ys) c := fun {xs ys} => by
  induction xs generalizing a with
  | nil =>
    intro h g
    cases h
    exact g
  | cons p r ih =>
    rintro ⟨h1, h2⟩ g
    exact ⟨h1, ih h2 g⟩
theorem chain_lines : ∀ (h : Pt) (st : List Stp), Chain h (linesFrom h st) (endFrom h st)
  | _, [] => rfl
  | h, s :: r => ⟨pc_beg s h, by rw [pc_fin]; exact chain_lines s.fin r⟩
theorem chain_pcs (w : Way) : Chain w.at w.pcs w.at := by
  unfold Way.pcs
  refine (chain_lines w.at w.st).app ?_
  split
  · assumption
  · exact ⟨rfl, rfl⟩
theorem Chain.flip {a b : Pt} : ∀ {ps : List Pc}, Chain a ps b → Chain b (ps.map Pc.flip).reverse a := fun {ps} => by
  induction ps generalizing a with
  | nil =>
    intro h
    exact h.symm
  | cons p r ih =>
    rintro ⟨h1, h2⟩
    rw [List.map_cons, List.reverse_cons]
    exact (ih h2).app ⟨flip_beg p, by rw [flip_fin]; exact h1⟩
theorem lines_stp {h e : Pt} : ∀ {ps : List Pc}, Chain h ps e → linesFrom h (ps.map Pc.stp) = ps ∧ endFrom h (ps.map Pc.stp) = e := fun {ps} => by
  induction ps generalizing h with
  | nil =>
    intro z
    exact ⟨rfl, z⟩
  | cons p r ih =>
    rintro ⟨h1, h2⟩
    have := ih h2
    subst h1
    simp only [List.map_cons, linesFrom, endFrom, stp_pc, stp_fin, this.1, this.2, and_self]
/-- the way of pieces that are closed -/
def wayOf (p : Pc) (r : List Pc) : Way := ⟨p.beg.1, p.beg.2, (p :: r).map Pc.stp⟩
theorem wayOf_pcs {p : Pc} {r : List Pc} (h : Chain p.beg (p :: r) p.beg) : (wayOf p r).pcs = p :: r := by
  have e := lines_stp h
  have ea : (wayOf p r).at = p.beg := rfl
  have es : (wayOf p r).st = (p :: r).map Pc.stp := rfl
  unfold Way.pcs
  rw [ea, es, e.1, e.2, if_pos rfl, List.append_nil]
def Way.turned (w : Way) : Way := match (w.pcs.map Pc.flip).reverse with
  | [] => w
  | p :: r => wayOf p r
theorem turned_pcs (w : Way) : w.turned.pcs = (w.pcs.map Pc.flip).reverse := by
  unfold Way.turned
  have hc := (chain_pcs w).flip
  split
  · rename_i h
    rw [h]
    have : w.pcs.map Pc.flip = [] := by simpa using h
    simpa using this
  · rename_i p r h
    rw [h] at hc ⊢
    have e := hc.1
    exact wayOf_pcs (by rw [e]; exact hc)
/-- numbers no further off than m -/
def Pt.bn (m : Nat) (p : Pt) : Prop := p.1.natAbs ≤ m ∧ p.2.natAbs ≤ m
def Pc.bn (m : Nat) : Pc → Prop
  | .ln a b => Pt.bn m a ∧ Pt.bn m b
  | .bd a b c => Pt.bn m a ∧ Pt.bn m b ∧ Pt.bn m c
def Stp.bn (m : Nat) : Stp → Prop
  | .to x y => x.natAbs ≤ m ∧ y.natAbs ≤ m
  | .by x y u v => (x.natAbs ≤ m ∧ y.natAbs ≤ m) ∧ u.natAbs ≤ m ∧ v.natAbs ≤ m
structure Way.bn (m : Nat) (w : Way) : Prop where
  h : Pt.bn m w.at
  st : ∀ s ∈ w.st, s.bn m
theorem bn_fin {m : Nat} {s : Stp} (h : s.bn m) : Pt.bn m s.fin := by
  cases s with
  | to x y => exact h
  | «by» x y u v => exact h.2
theorem bn_pc {m : Nat} {s : Stp} {p : Pt} (h : s.bn m) (hp : Pt.bn m p) : (s.pc p).bn m := by
  cases s with
  | to x y => exact ⟨hp, h⟩
  | «by» x y u v => exact ⟨hp, h.1, h.2⟩
theorem bn_lines {m : Nat} : ∀ {h : Pt} {st : List Stp}, Pt.bn m h → (∀ s ∈ st, s.bn m) → (∀ p ∈ linesFrom h st, p.bn m) ∧ Pt.bn m (endFrom h st) := fun {h st} => by
  induction st generalizing h with
  | nil =>
    intro hp _
    exact ⟨fun p z => (by cases z), hp⟩
  | cons s r ih =>
    intro hp hs
    have h1 := hs s List.mem_cons_self
    have := ih (bn_fin h1) fun x hx => hs x (List.mem_cons_of_mem _ hx)
    refine ⟨fun p z => ?_, this.2⟩
    rcases List.mem_cons.mp z with rfl | z
    · exact bn_pc h1 hp
    · exact this.1 p z
theorem bn_pcs {m : Nat} {w : Way} (h : w.bn m) : ∀ p ∈ w.pcs, p.bn m := fun p hp => by
  have := bn_lines h.h h.st
  unfold Way.pcs at hp
  rcases List.mem_append.mp hp with z | z
  · exact this.1 p z
  · split at z
    · cases z
    · have e : p = .ln (endFrom w.at w.st) w.at := by simpa using z
      subst e
      exact ⟨this.2, h.h⟩
theorem bn_flip {m : Nat} {p : Pc} (h : p.bn m) : p.flip.bn m := by
  cases p with
  | ln a b => exact ⟨h.2, h.1⟩
  | bd a b c => exact ⟨h.2.2, h.2.1, h.1⟩
theorem bn_beg {m : Nat} {p : Pc} (h : p.bn m) : Pt.bn m p.beg := by
  cases p with
  | ln a b => exact h.1
  | bd a b c => exact h.1
theorem bn_stp {m : Nat} {p : Pc} (h : p.bn m) : p.stp.bn m := by
  cases p with
  | ln a b => exact h.2
  | bd a b c => exact h.2
theorem bn_turned {m : Nat} {w : Way} (h : w.bn m) : w.turned.bn m := by
  have hp : ∀ p ∈ (w.pcs.map Pc.flip).reverse, p.bn m := fun p hp => by
    obtain ⟨q, hq, rfl⟩ := List.mem_map.mp (List.mem_reverse.mp hp)
    exact bn_flip (bn_pcs h q hq)
  unfold Way.turned
  split
  · exact h
  · rename_i p r e
    rw [e] at hp
    refine ⟨bn_beg (hp p List.mem_cons_self), fun s hs => ?_⟩
    obtain ⟨q, hq, rfl⟩ := List.mem_map.mp hs
    exact bn_stp (hp q hq)
theorem pcs_len (w : Way) : w.pcs.length ≤ w.st.length + 1 := by
  have := lines_len w.at w.st
  unfold Way.pcs
  split <;> simp <;> omega
theorem turned_len (w : Way) : w.turned.st.length ≤ w.st.length + 1 := by
  have h0 := pcs_len w
  unfold Way.turned
  split
  · omega
  · rename_i p r e
    have := congrArg List.length e
    simp at this
    simp [wayOf]
    omega
theorem bn_ok {m : Nat} {s : Stp} (hm : m ≤ 100000) (h : s.bn m) : s.ok := by
  cases s with
  | to x y =>
    obtain ⟨h1, h2⟩ := h
    exact ⟨⟨by omega, by omega⟩, ⟨by omega, by omega⟩⟩
  | «by» x y u v =>
    obtain ⟨⟨h1, h2⟩, h3, h4⟩ := h
    exact ⟨⟨by omega, by omega⟩, ⟨by omega, by omega⟩, ⟨by omega, by omega⟩, ⟨by omega, by omega⟩⟩
theorem way_ok {m : Nat} {w : Way} (hm : m ≤ 100000) (h : w.bn m) (hl : w.st.length ≤ 199) : w.ok := by
  obtain ⟨⟨h1, h2⟩, h3⟩ := h
  have h1 : w.x.natAbs ≤ m := h1
  have h2 : w.y.natAbs ≤ m := h2
  exact ⟨⟨by omega, by omega⟩, ⟨by omega, by omega⟩, fun s hs => bn_ok hm (h3 s hs), hl⟩
theorem ok_bn {w : Way} (h : w.ok) : w.bn 100000 := by
  obtain ⟨⟨a, b⟩, ⟨c, d⟩, hs, _⟩ := h
  refine ⟨⟨by show w.x.natAbs ≤ _; omega, by show w.y.natAbs ≤ _; omega⟩, fun s z => ?_⟩
  have := hs s z
  cases s with
  | to x y =>
    obtain ⟨⟨h1, h2⟩, h3, h4⟩ := this
    exact ⟨by omega, by omega⟩
  | «by» x y u v =>
    obtain ⟨⟨h1, h2⟩, ⟨h3, h4⟩, ⟨h5, h6⟩, h7, h8⟩ := this
    exact ⟨⟨by omega, by omega⟩, by omega, by omega⟩

/-! ### the code -/
@[simp] theorem epc_beg (p : Pc) : dIx (ePc p) (.int 0) = .ok (ePt p.beg) := by cases p <;> simp [ePc, Pc.beg]
@[simp] theorem epc_1 (p : Pc) : ∃ d, dIx (ePc p) (.int 1) = .ok d := by cases p <;> exact ⟨_, by simp [ePc]; rfl⟩
theorem epc_back (p : Pc) : dBack (ePc p) = .ok (ePc p.flip) := by cases p <;> simp [ePc, Pc.flip]
theorem way_of_eq (p : Pc) (r : List Pc) (hl : r.length ≤ 1000) : s_way_of [.lst ((p :: r).map ePc)] = .ok (.own (eSteps (wayOf p r))) := by
  unfold s_way_of runF x_way_of
  obtain ⟨ρ', e1, t, rfl⟩ := for_app (g := gNm 2) (s := b_way_of_1) ePc (fun p => eStp p.stp) (fun z ρ => ∃ t, ρ = [.dat (.lst ((p :: r).map ePc)), .own z, t]) (p :: r) [eAt p.beg.1 p.beg.2] [.dat (.lst ((p :: r).map ePc)), .own [eAt p.beg.1 p.beg.2], .no] ⟨_, rfl⟩ (by simp; omega) (by
    rintro z ρ q hq hz ⟨t, rfl⟩
    refine ⟨_, [.dat (.lst ((p :: r).map ePc)), .own (z ++ [eStp q.stp]), .dat (ePc q)], rfl, ?_, _, rfl⟩
    cases q with
    | ln a b =>
      obtain ⟨a1, a2⟩ := a
      obtain ⟨b1, b2⟩ := b
      simp [b_way_of_1, ePc, hz, ePt, Pc.stp, eStp]
    | bd a b c =>
      obtain ⟨a1, a2⟩ := a
      obtain ⟨b1, b2⟩ := b
      obtain ⟨c1, c2⟩ := c
      simp [b_way_of_1, ePc, hz, ePt, Pc.stp, eStp])
  simp [eAt, ePt] at e1 ⊢
  rw [e1]
  simp [eSteps, wayOf, eAt]
theorem blist_way (w : Way) : bList [eWay w] = .ok (eSteps w) := rfl
theorem turned_way (w : Way) : ∀ q, (w.pcs.map Pc.flip).reverse = q → (q = [] ∧ w.turned = w) ∨ ∃ p r, q = p :: r ∧ w.turned = wayOf p r := fun q h => by
  unfold Way.turned
  rw [h]
  cases q with
  | nil => exact .inl ⟨rfl, rfl⟩
  | cons p r => exact .inr ⟨p, r, rfl, rfl⟩
theorem turned_ok (o : List Way) (h : OutOk o) (hl : ∀ w ∈ o, w.st.length ≤ 198) : OutOk (o.map Way.turned) :=
  ⟨by rw [List.length_map]; exact h.few, fun w hw => by
    obtain ⟨v, hv, rfl⟩ := List.mem_map.mp hw
    have := turned_len v
    have := hl v hv
    exact way_ok (Nat.le_refl _) (bn_turned (ok_bn (h.ok v hv))) (by omega)⟩
theorem turned_eq (o : List Way) (h : OutOk o) (hl : ∀ w ∈ o, w.st.length ≤ 198) : s_turned_about [eOut o] = .ok (.dat (eOut (o.map Way.turned))) := by
  have ok2 := turned_ok o h hl
  unfold s_turned_about runF x_turned_about
  have hf := h.few
  obtain ⟨ρ', e1, t, u, rfl⟩ := for_app (g := gNm 2) (s := b_turned_about_1) eWay (fun w => eWay w.turned) (fun z ρ => ∃ t u, ρ = [.dat (eOut o), .own z, t, u, .no]) o [] [.dat (eOut o), .own [], .no, .no, .no] ⟨_, _, rfl⟩ (by simp only [List.length_nil]; omega) (by
    rintro z ρ w hw hz ⟨t, u, rfl⟩
    have hpl := pcs_len w
    have hwl := hl w hw
    have hp := pieces_of_eq w (by omega)
    have el : ∀ ρ : Rho, ρ.length = 5 → lcRun (gNm 4) tYes (xUn dBack (xLook 4)) ρ (w.pcs.map ePc).reverse = .ok ((w.pcs.map Pc.flip).reverse.map ePc) := fun ρ hρ => by
      rw [← List.map_reverse, lc_map ePc (fun p => ePc p.flip)]
      · rw [← List.map_reverse, List.map_map]
        rfl
      · intro p hp
        exact ⟨_, rfl, by simp [epc_back, hρ]⟩
    have ll : Ln w.pcs.length := ⟨by omega⟩
    have key : ((w.pcs.map Pc.flip).reverse).length ≤ 1000 := by
      simp
      omega
    generalize hq : (w.pcs.map Pc.flip).reverse = q at el key
    refine ⟨_, [.dat (eOut o), .own (z ++ [eWay w.turned]), .dat (eWay w), .dat (.lst (q.map ePc)), .no], rfl, ?_, _, _, rfl⟩
    have el' := el [Sl.dat (eOut o), Sl.own z, Sl.dat (eWay w), u, Sl.no] rfl
    rcases turned_way w q hq with ⟨rfl, et⟩ | ⟨p, r, rfl, et⟩
    · simp at el'
      simp [b_turned_about_1, hp, ll, el', hz, et, blist_way]
      rfl
    · have hw := way_of_eq p r (by simp at key; omega)
      simp at el' hw
      simp [b_turned_about_1, hp, ll, el', hz, et, hw]
      rfl)
  have el : List.map (fun (w : Way) => eWay w.turned) o = (o.map Way.turned).map eWay := by simp
  rw [List.nil_append, el] at e1
  have l1 : s_look_outline [.lst (o.map eWay)] = _ := look_eq o h
  have l2 : s_look_outline [.lst ((o.map Way.turned).map eWay)] = _ := look_eq _ ok2
  have e1 : forRun (gNm 2) b_turned_about_1 (o.map eWay) [.dat (.lst (o.map eWay)), .own [], .no, .no, .no] = .nx [.dat (.lst (o.map eWay)), .own ((o.map Way.turned).map eWay), t, u, .no] := e1
  unfold eOut
  generalize (o.map Way.turned).map eWay = q at *
  simp [l1, e1, l2]
end Gy

end

section
set_option Elab.async false
set_option linter.all false
set_option maxRecDepth 100000
set_option maxHeartbeats 4000000
/-! GyL3: bounds of the law's own outlines; small things about lists of truths. -/
namespace Gy
open PySem
theorem num_bn (ns : List Int) (k most : Int) (h0 : 0 ≤ most) : (numv ns k most).natAbs ≤ (max 5 most).toNat := by
  have h1 := num_lo ns k most h0
  have h2 := num_hi ns k most h0
  omega
theorem step_bn (ns : List Int) (k most : Int) (h0 : 0 ≤ most) : (stepv ns k most).bn (max 5 most).toNat := by
  unfold stepv
  split
  · exact ⟨num_bn _ _ _ h0, num_bn _ _ _ h0⟩
  · exact ⟨⟨num_bn _ _ _ h0, num_bn _ _ _ h0⟩, num_bn _ _ _ h0, num_bn _ _ _ h0⟩
theorem wayv_bn (ns : List Int) (k most : Int) (h0 : 0 ≤ most) : (wayv ns k most).bn (max 5 most).toNat :=
  ⟨⟨num_bn _ _ _ h0, num_bn _ _ _ h0⟩, fun s hs => by
    obtain ⟨j, _, rfl⟩ := List.mem_map.mp hs
    exact step_bn _ _ _ h0⟩
theorem wayv_len (ns : List Int) (k most : Int) : (wayv ns k most).st.length ≤ 4 := by
  have r0 := Int.emod_nonneg (mixv ns (k + 2)) (show (5 : Int) ≠ 0 by decide)
  have r1 := Int.emod_lt_of_pos (mixv ns (k + 2)) (show (0 : Int) < 5 by decide)
  simp [wayv]
  omega
theorem outv_bn (ns : List Int) (k most : Int) (h0 : 0 ≤ most) : ∀ w ∈ outv ns k most, w.bn (max 5 most).toNat ∧ w.st.length ≤ 4 := fun w hw => by
  obtain ⟨j, _, rfl⟩ := List.mem_map.mp hw
  exact ⟨wayv_bn _ _ _ h0, wayv_len _ _ _⟩
theorem outv_len (ns : List Int) (k most : Int) : (outv ns k most).length ≤ 3 := by
  unfold outv cntv
  simp only [List.length_map, List.length_range]
  split
  · omega
  split
  · omega
  split
  · omega
  split
  · omega
  split <;> omega
theorem outv_ok (ns : List Int) (k most : Int) (h0 : 0 ≤ most) (h1 : most ≤ 100000) : OutOk (outv ns k most) :=
  ⟨by have := outv_len ns k most; omega, fun w hw => by
    have := outv_bn ns k most h0 w hw
    exact way_ok (by omega) this.1 (by omega)⟩
theorem pcs_bn {m : Nat} {o : List Way} (h : ∀ w ∈ o, w.bn m) : ∀ p ∈ pcs o, p.bn m := fun p hp => by
  obtain ⟨w, hw, hp⟩ := List.mem_flatMap.mp hp
  exact bn_pcs (h w hw) p hp
theorem pcs_tot {n : Nat} : ∀ (o : List Way), (∀ w ∈ o, w.st.length ≤ n) → (pcs o).length ≤ (n + 1) * o.length := fun o => by
  induction o with
  | nil => intro _; simp [pcs]
  | cons w r ih =>
    intro h
    have h1 := ih fun w hw => h w (List.mem_cons_of_mem _ hw)
    have h2 := h w List.mem_cons_self
    have h3 := pcs_len w
    have e : pcs (w :: r) = w.pcs ++ pcs r := by simp [pcs]
    rw [e, List.length_append, List.length_cons, Nat.mul_add]
    omega
theorem bn_mono {m n : Nat} (h : m ≤ n) {p : Pc} (hp : p.bn m) : p.bn n := by
  cases p with
  | ln a b =>
    obtain ⟨⟨h1, h2⟩, h3, h4⟩ := hp
    exact ⟨⟨by omega, by omega⟩, by omega, by omega⟩
  | bd a b c =>
    obtain ⟨⟨h1, h2⟩, ⟨h3, h4⟩, h5, h6⟩ := hp
    exact ⟨⟨by omega, by omega⟩, ⟨by omega, by omega⟩, by omega, by omega⟩
theorem bns_mono {m n : Nat} (h : m ≤ n) {s : Stp} (hs : s.bn m) : s.bn n := by
  cases s with
  | to x y =>
    obtain ⟨h1, h2⟩ := hs
    exact ⟨by omega, by omega⟩
  | «by» x y u v =>
    obtain ⟨⟨h1, h2⟩, h3, h4⟩ := hs
    exact ⟨⟨by omega, by omega⟩, by omega, by omega⟩
theorem bls_map {α : Type} (f : α → Bool) : ∀ (l : List α), dBls (l.map fun q => D.bl (f q)) = some (l.map f)
  | [] => rfl
  | a :: r => by
    rw [List.map_cons, dBls_c, bls_map f r]
    rfl
theorem any_map {α : Type} (f : α → Bool) (l : List α) : bAny (.lst (l.map fun q => D.bl (f q))) = .ok (.bl (l.any f)) := by
  rw [bAny_l, bls_map]
  simp [List.any_map]
theorem all_map {α : Type} (f : α → Bool) (l : List α) : bAll (.lst (l.map fun q => D.bl (f q))) = .ok (.bl (l.all f)) := by
  rw [bAll_l, bls_map]
  simp [List.all_map]
theorem rng9 : rng 0 9 = (List.range 9).map fun (i : Nat) => D.int (i : Int) := rng_n 9
theorem rng2 : rng 0 2 = [.int 0, .int 1] := rfl
theorem rng3 : rng 0 3 = [.int 0, .int 1, .int 2] := rfl
end Gy

end

section
set_option Elab.async false
set_option linter.all false
set_option maxRecDepth 100000
set_option maxHeartbeats 1000000
/-! GyL4: refusals; the law's straight outlines. -/
namespace Gy
open PySem
/-- the word of the k-th class of errors -/
def refW : Nat → Str
  | 0 => w_6f75746c696e65
  | 2 => w_73697a65
  | 3 => w_68696e7473
  | 4 => w_66616365
  | _ => w_6f6b
theorem refusal_non : s_law_refusal [.non] = .ok (.dat (.str w_6f6b)) := by
  unfold s_law_refusal runF x_law_refusal
  simp
theorem refusal_exc {k : Nat} (h : k = 0 ∨ k = 2 ∨ k = 3 ∨ k = 4) (xs : List D) : s_law_refusal [.exc k xs] = .ok (.dat (.str (refW k))) := by
  unfold s_law_refusal runF x_law_refusal
  have i0 : dIndex [D.bl true, .bl false, .bl false, .bl false, .bl false, .bl false] (.bl true) = .ok (.int 0) := rfl
  have i2 : dIndex [D.bl false, .bl false, .bl true, .bl false, .bl false, .bl false] (.bl true) = .ok (.int 2) := rfl
  have i3 : dIndex [D.bl false, .bl false, .bl false, .bl true, .bl false, .bl false] (.bl true) = .ok (.int 3) := rfl
  have i4 : dIndex [D.bl false, .bl false, .bl false, .bl false, .bl true, .bl false] (.bl true) = .ok (.int 4) := rfl
  have c0 : dCount [D.bl true, .bl false, .bl false, .bl false, .bl false, .bl false] (.bl true) = .ok (.int 1) := rfl
  have c2 : dCount [D.bl false, .bl false, .bl true, .bl false, .bl false, .bl false] (.bl true) = .ok (.int 1) := rfl
  have c3 : dCount [D.bl false, .bl false, .bl false, .bl true, .bl false, .bl false] (.bl true) = .ok (.int 1) := rfl
  have c4 : dCount [D.bl false, .bl false, .bl false, .bl false, .bl true, .bl false] (.bl true) = .ok (.int 1) := rfl
  rcases h with rfl | rfl | rfl | rfl <;> simp [i0, i2, i3, i4, c0, c2, c3, c4, refW]
def strw (ns : List Int) (k most : Int) (j : Nat) : Way :=
  ⟨numv ns (k + 1 + 12 * (j : Int)) most, numv ns (k + 2 + 12 * (j : Int)) most, (List.range (mixv ns (k + 3 + 12 * (j : Int)) % 5).toNat).map fun (i : Nat) => .to (numv ns (k + 4 + 12 * (j : Int) + 2 * (i : Int)) most) (numv ns (k + 5 + 12 * (j : Int) + 2 * (i : Int)) most)⟩
def strn (ns : List Int) (k : Int) : Nat :=
  let m := mixv ns k % 6
  if m = 0 then 1 else if m = 1 then 1 else if m = 2 then 2 else if m = 3 then 0 else if m = 4 then 1 else 2
def strv (ns : List Int) (k most : Int) : List Way := (List.range (strn ns k)).map (strw ns k most)
theorem str_in (ns : List Int) (k most : Int) (hk : k.natAbs < 700000000) (h0 : 0 ≤ most) (h1 : most < 1000000000) (j : Nat) (hj : j < 100) (z : List D) (hz : Ln z.length) (t5 t6 t7 : Sl) :
    ∃ u5 u6 u7, b_law_straight_2 [.dat (.scr ns), .dat (.int k), .dat (.int most), .own z, .dat (.int j), t5, t6, t7] = .nx [.dat (.scr ns), .dat (.int k), .dat (.int most), .own (z ++ [eWay (strw ns k most j)]), .dat (.int j), u5, u6, u7] := by
  have n0 := num_eq ns (k + 1 + 12 * (j : Int)) most (by omega) h0 h1
  have n1 := num_eq ns (k + 2 + 12 * (j : Int)) most (by omega) h0 h1
  have m2 := mix_eq ns (k + 3 + 12 * (j : Int)) (by omega)
  have sj : Sm (j : Int) := sm_small (by omega)
  have r0 := Int.emod_nonneg (mixv ns (k + 3 + 12 * (j : Int))) (show (5 : Int) ≠ 0 by decide)
  have r1 := Int.emod_lt_of_pos (mixv ns (k + 3 + 12 * (j : Int))) (show (0 : Int) < 5 by decide)
  unfold strw
  generalize hm : mixv ns (k + 3 + 12 * (j : Int)) % 5 = m at r0 r1
  obtain ⟨n, rfl⟩ : ∃ n : Nat, m = n := ⟨m.toNat, by omega⟩
  have hr : RgN n := ⟨by omega, by omega⟩
  obtain ⟨ρ', e1, u6, u7, rfl⟩ := for_app (g := gNm 6) (s := b_law_straight_1) (fun (i : Nat) => D.int i) (fun (i : Nat) => eStp (.to (numv ns (k + 4 + 12 * (j : Int) + 2 * (i : Int)) most) (numv ns (k + 5 + 12 * (j : Int) + 2 * (i : Int)) most))) (fun (y : List D) ρ => ∃ u6 u7, ρ = [Sl.dat (D.scr ns), Sl.dat (D.int k), Sl.dat (D.int most), Sl.own z, .dat (.int j), .own y, u6, u7])
      (List.range n) [D.tup [D.str w_6174, D.int (numv ns (k + 1 + 12 * (j : Int)) most), D.int (numv ns (k + 2 + 12 * (j : Int)) most)]] [Sl.dat (D.scr ns), Sl.dat (D.int k), Sl.dat (D.int most), Sl.own z, .dat (.int j), .own [D.tup [D.str w_6174, D.int (numv ns (k + 1 + 12 * (j : Int)) most), D.int (numv ns (k + 2 + 12 * (j : Int)) most)]], t6, t7] ⟨_, _, rfl⟩ (by simp; omega) (by
    rintro y ρ i hi hy ⟨u6, u7, rfl⟩
    have hi : i < n := by simpa using hi
    have sm : Sm i := sm_small (by omega)
    have a0 := num_eq ns (k + 4 + 12 * (j : Int) + 2 * (i : Int)) most (by omega) h0 h1
    have a1 := num_eq ns (k + 5 + 12 * (j : Int) + 2 * (i : Int)) most (by omega) h0 h1
    refine ⟨_, [Sl.dat (D.scr ns), Sl.dat (D.int k), Sl.dat (D.int most), Sl.own z, .dat (.int j), .own (y ++ [eStp (.to (numv ns (k + 4 + 12 * (j : Int) + 2 * (i : Int)) most) (numv ns (k + 5 + 12 * (j : Int) + 2 * (i : Int)) most))]), .dat (.int i), .dat (.int (numv ns (k + 4 + 12 * (j : Int) + 2 * (i : Int)) most))], rfl, ?_, _, _, rfl⟩
    simp [b_law_straight_1, sj, sm, a0, a1, hy, eStp])
  refine ⟨.dat (eWay ⟨numv ns (k + 1 + 12 * (j : Int)) most, numv ns (k + 2 + 12 * (j : Int)) most, (List.range n).map fun (i : Nat) => .to (numv ns (k + 4 + 12 * (j : Int) + 2 * (i : Int)) most) (numv ns (k + 5 + 12 * (j : Int) + 2 * (i : Int)) most)⟩), u6, u7, ?_⟩
  simp [b_law_straight_2, sj, n0, n1, m2, hm, hr, rng_n, e1, hz, eWay, eSteps, eAt]
theorem str_eq (ns : List Int) (k most : Int) (hk : k.natAbs < 700000000) (h0 : 0 ≤ most) (h1 : most < 1000000000) : s_law_straight [.scr ns, .int k, .int most] = .ok (.own ((strv ns k most).map eWay)) := by
  unfold s_law_straight runF x_law_straight
  have m := mix_eq ns k (by omega)
  have r0 := Int.emod_nonneg (mixv ns k) (show (6 : Int) ≠ 0 by decide)
  have r1 := Int.emod_lt_of_pos (mixv ns k) (show (0 : Int) < 6 by decide)
  have key : ∀ n : Nat, n ≤ 2 → ∃ u4 u5 u6 u7, forRun (gNm 4) b_law_straight_2 ((List.range n).map fun (j : Nat) => D.int (j : Int)) [.dat (.scr ns), .dat (.int k), .dat (.int most), .own [], .no, .no, .no, .no] = .nx [.dat (.scr ns), .dat (.int k), .dat (.int most), .own ((List.range n).map fun j => eWay (strw ns k most j)), u4, u5, u6, u7] := fun n hn => by
    obtain ⟨ρ', e1, u4, u5, u6, u7, rfl⟩ := for_app (g := gNm 4) (s := b_law_straight_2) (fun (j : Nat) => D.int (j : Int)) (fun j => eWay (strw ns k most j)) (fun (y : List D) ρ => ∃ u4 u5 u6 u7, ρ = [Sl.dat (D.scr ns), Sl.dat (D.int k), Sl.dat (D.int most), Sl.own y, u4, u5, u6, u7])
      (List.range n) [] [.dat (.scr ns), .dat (.int k), .dat (.int most), .own [], .no, .no, .no, .no] ⟨_, _, _, _, rfl⟩ (by simp; omega) (by
      rintro y ρ j hj hy ⟨u4, u5, u6, u7, rfl⟩
      have hj : j < n := by simpa using hj
      obtain ⟨v5, v6, v7, e⟩ := str_in ns k most hk h0 h1 j (by omega) y hy u5 u6 u7
      exact ⟨_, _, rfl, e, _, _, _, _, rfl⟩)
    exact ⟨u4, u5, u6, u7, by simpa using e1⟩
  obtain ⟨a4, a5, a6, a7, e0⟩ := key 0 (by omega)
  obtain ⟨b4, b5, b6, b7, e1⟩ := key 1 (by omega)
  obtain ⟨c4, c5, c6, c7, e2⟩ := key 2 (by omega)
  have q0 : rng 0 0 = [] := rfl
  have q0' : List.range 0 = [] := rfl
  have q1 : rng 0 1 = (List.range 1).map fun (j : Nat) => D.int (j : Int) := rng_n 1
  have q2 : rng 0 2 = (List.range 2).map fun (j : Nat) => D.int (j : Int) := rng_n 2
  have r : mixv ns k % 6 = 0 ∨ mixv ns k % 6 = 1 ∨ mixv ns k % 6 = 2 ∨ mixv ns k % 6 = 3 ∨ mixv ns k % 6 = 4 ∨ mixv ns k % 6 = 5 := by omega
  unfold strv strn
  have l0 : List.range 0 = [] := rfl
  have l1 : List.range 1 = [0] := rfl
  have l2 : List.range 2 = [0, 1] := rfl
  rw [q0'] at e0
  rw [l1] at e1 q1
  rw [l2] at e2 q2
  simp at e0 e1 e2 q1 q2
  rcases r with r | r | r | r | r | r <;> simp [m, r, q0, q1, q2, l0, l1, l2, e1, e2]
end Gy

end

section
set_option Elab.async false
set_option linter.all false
set_option maxRecDepth 100000
set_option maxHeartbeats 4000000
/-! GyM: plain lemmas about measures: area, bounds. -/
namespace Gy
open PySem
theorem ab_mul {a b : Int} {A B : Nat} (ha : a.natAbs ≤ A) (hb : b.natAbs ≤ B) : (a * b).natAbs ≤ A * B := by
  rw [Int.natAbs_mul]
  exact Nat.mul_le_mul ha hb
def crs (a b : Pt) : Int := a.1 * b.2 - b.1 * a.2
theorem crs_bn {m : Nat} {a b : Pt} (ha : Pt.bn m a) (hb : Pt.bn m b) : (crs a b).natAbs ≤ m * m + m * m := by
  have h1 := ab_mul ha.1 hb.2
  have h2 := ab_mul hb.1 ha.2
  unfold crs
  omega
theorem sm_bn {m : Nat} {i : Int} (h : i.natAbs ≤ m) (hm : m ≤ 1000000000000000) : Sm i := sm_small (by omega)
theorem cross_eq {a b : Pt} (ha : Pt.bn 100000 a) (hb : Pt.bn 100000 b) : s_cross_of [ePt a, ePt b] = .ok (.dat (.int (crs a b))) := by
  unfold s_cross_of runF x_cross_of
  obtain ⟨a1, a2⟩ := a
  obtain ⟨b1, b2⟩ := b
  have h1 := sm_bn ha.1 (by omega)
  have h2 := sm_bn ha.2 (by omega)
  have h3 := sm_bn hb.1 (by omega)
  have h4 := sm_bn hb.2 (by omega)
  simp at h1 h2 h3 h4
  simp [ePt, h1, h2, h3, h4, crs]
def Pc.ar : Pc → Int
  | .ln a b => 3 * crs a b
  | .bd a b c => 2 * crs a b + 2 * crs b c + crs a c
theorem ar_flip (p : Pc) : p.flip.ar = -p.ar := by
  cases p with
  | ln a b =>
    simp only [Pc.flip, Pc.ar, crs]
    grind
  | bd a b c =>
    simp only [Pc.flip, Pc.ar, crs]
    grind
theorem fold_ar : ∀ (ps : List Pc) (z : Int), ps.foldl (fun z p => z + p.ar) z = z + (ps.map Pc.ar).sum
  | [], z => by simp
  | p :: r, z => by
    rw [List.foldl_cons, fold_ar r, List.map_cons, List.sum_cons]
    omega
theorem area_eq (o : List Way) (h : OutOk o) : s_area [eOut o] = .ok (.dat (.int ((pcs o).map Pc.ar).sum)) := by
  unfold s_area runF x_area
  have hp := pieces_eq o h
  have hb : ∀ p ∈ pcs o, p.bn 100000 := fun p hp => by
    obtain ⟨w, hw, hp⟩ := List.mem_flatMap.mp hp
    exact bn_pcs (ok_bn (h.ok w hw)) p hp
  obtain ⟨ρ', e1, t, u, v, x, rfl⟩ := for_map (g := gNm 2) (s := b_area_1) ePc (fun (z : Int) ρ => ∃ t u v x, ρ = [Sl.dat (eOut o), Sl.dat (.int z), t, u, v, x]) (fun z p => z + p.ar) (pcs o) 0 [Sl.dat (eOut o), Sl.dat (.int 0), .no, .no, .no, .no] ⟨_, _, _, _, rfl⟩ (by
    rintro z ρ p hp ⟨t, u, v, x, rfl⟩
    have hb := hb p hp
    cases p with
    | ln a b =>
      have c1 := cross_eq hb.1 hb.2
      have s1 := sm_bn (crs_bn hb.1 hb.2) (by omega)
      refine ⟨_, [Sl.dat (eOut o), Sl.dat (.int (z + (Pc.ln a b).ar)), .dat (ePc (.ln a b)), u, v, x], rfl, ?_, _, _, _, _, rfl⟩
      simp [b_area_1, ePc, c1, s1, Pc.ar]
    | bd a b c =>
      have c1 := cross_eq hb.1 hb.2.1
      have c2 := cross_eq hb.2.1 hb.2.2
      have c3 := cross_eq hb.1 hb.2.2
      have s1 := sm_bn (crs_bn hb.1 hb.2.1) (by omega)
      have s2 := sm_bn (crs_bn hb.2.1 hb.2.2) (by omega)
      have s3 := sm_bn (crs_bn hb.1 hb.2.2) (by omega)
      refine ⟨_, [Sl.dat (eOut o), Sl.dat (.int (z + (Pc.bd a b c).ar)), .dat (ePc (.bd a b c)), .dat (ePt a), .dat (ePt b), .dat (ePt c)], rfl, ?_, _, _, _, _, rfl⟩
      simp [b_area_1, ePc, c1, s1, c2, s2, c3, s3, Pc.ar]
      omega)
  simp [hp, e1, fold_ar]
theorem sum_neg : ∀ (ps : List Pc), (ps.map fun p => -p.ar).sum = -(ps.map Pc.ar).sum
  | [] => rfl
  | p :: r => by
    rw [List.map_cons, List.sum_cons, List.map_cons, List.sum_cons, sum_neg r]
    omega
theorem sum_rev : ∀ (ns : List Int), ns.reverse.sum = ns.sum := fun ns => by
  induction ns with
  | nil => rfl
  | cons a r ih =>
    rw [List.reverse_cons, List.sum_append, ih, List.sum_cons]
    simp
    omega
theorem turned_ar (o : List Way) : ((pcs (o.map Way.turned)).map Pc.ar).sum = -((pcs o).map Pc.ar).sum := by
  induction o with
  | nil => rfl
  | cons w r ih =>
    unfold pcs at ih ⊢
    rw [List.map_cons, List.flatMap_cons, List.map_append, List.sum_append, ih, List.flatMap_cons, List.map_append, List.sum_append, turned_pcs, List.map_reverse, sum_rev, List.map_map]
    have e : (Pc.ar ∘ Pc.flip) = fun p => -p.ar := funext fun p => ar_flip p
    rw [e, sum_neg]
    omega

/-! ### bounds -/
def px (p : Pt) (i : Int) : Int := if i = 0 then p.1 else p.2
theorem ix_pt {p : Pt} {i : Int} (h : i = 0 ∨ i = 1) : dIx (ePt p) (.int i) = .ok (.int (px p i)) := by
  rcases h with rfl | rfl <;> simp [ePt, px]
theorem px_bn {m : Nat} {p : Pt} {i : Int} (h : Pt.bn m p) : (px p i).natAbs ≤ m := by
  unfold px
  split
  · exact h.1
  · exact h.2
def lowv (a b c : Int) : Pt := if a - 2 * b + c ≤ 0 ∨ a ≤ b ∨ c ≤ b then (if c < a then c else a, 1) else (a * (a - 2 * b + c) - (b - a) * (b - a), a - 2 * b + c)
theorem lowest_eq {a b c : Int} (ha : a.natAbs ≤ 100000) (hb : b.natAbs ≤ 100000) (hc : c.natAbs ≤ 100000) : s_lowest [.int a, .int b, .int c] = .ok (.dat (ePt (lowv a b c))) := by
  unfold s_lowest runF x_lowest lowv
  have s1 : Sm b := sm_small (by omega)
  have s2 : Sm a := sm_small (by omega)
  have s3 : Sm (a - 2 * b + c) := sm_small (by omega)
  have s4 : Sm (b - a) := sm_small (by omega)
  by_cases h1 : a - 2 * b + c ≤ 0
  · simp [s1, s2, s3, s4, h1, ePt]
  by_cases h2 : a ≤ b
  · simp [s1, s2, s3, s4, h1, h2, ePt]
  by_cases h3 : c ≤ b
  · simp [s1, s2, s3, s4, h1, h2, h3, ePt]
  · simp [s1, s2, s3, s4, h1, h2, h3, ePt]
theorem low_bn {a b c : Int} (ha : a.natAbs ≤ 100000) (hb : b.natAbs ≤ 100000) (hc : c.natAbs ≤ 100000) : (lowv a b c).1.natAbs ≤ 100000000000 ∧ 0 < (lowv a b c).2 ∧ (lowv a b c).2 ≤ 400000 := by
  unfold lowv
  split
  · constructor
    · show (if c < a then c else a).natAbs ≤ _
      split <;> omega
    · exact ⟨show (0 : Int) < 1 by decide, show (1 : Int) ≤ 400000 by decide⟩
  · have h1 : (a * (a - 2 * b + c)).natAbs ≤ 100000 * 400000 := ab_mul ha (by omega)
    have h2 : ((b - a) * (b - a)).natAbs ≤ 200000 * 200000 := ab_mul (by omega) (by omega)
    refine ⟨?_, ?_, ?_⟩
    · show (a * (a - 2 * b + c) - (b - a) * (b - a)).natAbs ≤ _
      omega
    · show 0 < a - 2 * b + c
      omega
    · show a - 2 * b + c ≤ _
      omega
def Pc.low (w i : Int) : Pc → Pt
  | .ln a b => (if w * px b i < w * px a i then w * px b i else w * px a i, 1)
  | .bd a b c => lowv (w * px a i) (w * px b i) (w * px c i)
/-- fractions as the program has them -/
structure FrOk (f : Pt) : Prop where
  n : f.1.natAbs ≤ 100000000000
  d : 0 < f.2
  e : f.2 ≤ 400000
theorem w_bn {w n : Int} {m : Nat} (hw : w = 1 ∨ w = -1) (h : n.natAbs ≤ m) : (w * n).natAbs ≤ m := by
  rcases hw with rfl | rfl <;> omega
theorem pclow_ok {w i : Int} {p : Pc} (hw : w = 1 ∨ w = -1) (h : p.bn 100000) : FrOk (p.low w i) := by
  cases p with
  | ln a b =>
    have h1 := w_bn hw (px_bn (i := i) h.1)
    have h2 := w_bn hw (px_bn (i := i) h.2)
    refine ⟨?_, (by decide : (0 : Int) < 1), (by decide : (1 : Int) ≤ 400000)⟩
    show (if w * px b i < w * px a i then w * px b i else w * px a i).natAbs ≤ _
    split <;> omega
  | bd a b c =>
    have := low_bn (w_bn hw (px_bn (i := i) h.1)) (w_bn hw (px_bn (i := i) h.2.1)) (w_bn hw (px_bn (i := i) h.2.2))
    exact ⟨this.1, this.2.1, this.2.2⟩
def lsv (f g : Pt) : Prop := f.1 * g.2 < g.1 * f.2
instance (f g : Pt) : Decidable (lsv f g) := inferInstanceAs (Decidable (_ < _))
theorem less_eq {f g : Pt} (hf : FrOk f) (hg : FrOk g) : s_less [ePt f, ePt g] = .ok (.dat (.bl (decide (lsv f g)))) := by
  unfold s_less runF x_less
  obtain ⟨a, b⟩ := f
  obtain ⟨c, d⟩ := g
  obtain ⟨h1, h2, h3⟩ := hf
  obtain ⟨h4, h5, h6⟩ := hg
  simp at h1 h2 h3 h4 h5 h6
  have s1 : Sm a := sm_small (by omega)
  have s2 : Sm b := sm_small (by omega)
  have s3 : Sm c := sm_small (by omega)
  have s4 : Sm d := sm_small (by omega)
  simp [ePt, s1, s2, s3, s4, lsv]
  rfl
def lst1 (f x : Pt) : Pt := if lsv x f then x else f
/-- the least of fractions -/
def lstv (f : Pt) (r : List Pt) : Pt := (f :: r).foldl lst1 f
theorem lstv_ok : ∀ (r : List Pt) (f : Pt), FrOk f → (∀ x ∈ r, FrOk x) → FrOk (r.foldl lst1 f)
  | [], f, h, _ => h
  | x :: r, f, h, hr => by
    rw [List.foldl_cons]
    refine lstv_ok r _ ?_ fun y hy => hr y (List.mem_cons_of_mem _ hy)
    unfold lst1
    split
    · exact hr x List.mem_cons_self
    · exact h
theorem fr_trans {f g h : Pt} (hf : 0 < f.2) (hg : 0 < g.2) (hh : 0 < h.2) (h1 : f.1 * g.2 ≤ g.1 * f.2) (h2 : g.1 * h.2 ≤ h.1 * g.2) : f.1 * h.2 ≤ h.1 * f.2 := by
  obtain ⟨a, b⟩ := f
  obtain ⟨c, d⟩ := g
  obtain ⟨e, k⟩ := h
  simp at *
  have e1 : a * d * k ≤ c * b * k := Int.mul_le_mul_of_nonneg_right h1 (by omega)
  have e2 : c * k * b ≤ e * d * b := Int.mul_le_mul_of_nonneg_right h2 (by omega)
  have e3 : d * (a * k) ≤ d * (e * b) := by grind
  exact Int.le_of_mul_le_mul_left e3 hg
theorem fold_least : ∀ (r : List Pt) (f : Pt), FrOk f → (∀ x ∈ r, FrOk x) → (r.foldl lst1 f = f ∨ r.foldl lst1 f ∈ r) ∧ (∀ x, x = f ∨ x ∈ r → (r.foldl lst1 f).1 * x.2 ≤ x.1 * (r.foldl lst1 f).2)
  | [], f, h, _ => ⟨.inl rfl, fun x hx => by
    rcases hx with rfl | hx
    · exact Int.le_refl _
    · cases hx⟩
  | y :: r, f, h, hr => by
    have hy := hr y List.mem_cons_self
    have hr' : ∀ x ∈ r, FrOk x := fun x hx => hr x (List.mem_cons_of_mem _ hx)
    have h1 : FrOk (lst1 f y) := by
      unfold lst1
      split
      · exact hy
      · exact h
    have ih := fold_least r (lst1 f y) h1 hr'
    have ho := lstv_ok r (lst1 f y) h1 hr'
    rw [List.foldl_cons]
    generalize List.foldl lst1 (lst1 f y) r = z at ih ho
    have k1 : (lst1 f y).1 * f.2 ≤ f.1 * (lst1 f y).2 ∧ (lst1 f y).1 * y.2 ≤ y.1 * (lst1 f y).2 := by
      unfold lst1
      by_cases c : lsv y f
      · rw [if_pos c]
        exact ⟨Int.le_of_lt c, Int.le_refl _⟩
      · rw [if_neg c]
        unfold lsv at c
        exact ⟨Int.le_refl _, by omega⟩
    constructor
    · rcases ih.1 with e | e
      · unfold lst1 at e
        split at e
        · exact .inr (by rw [e]; exact List.mem_cons_self)
        · exact .inl e
      · exact .inr (List.mem_cons_of_mem _ e)
    · intro x hx
      have hz := ih.2 (lst1 f y) (.inl rfl)
      rcases hx with rfl | hx
      · exact fr_trans ho.d h1.d h.d hz k1.1
      · rcases List.mem_cons.mp hx with rfl | hx
        · exact fr_trans ho.d h1.d hy.d hz k1.2
        · exact ih.2 x (.inr hx)
theorem least_eq (f : Pt) (r : List Pt) (h : ∀ x ∈ f :: r, FrOk x) : s_least_of [.lst ((f :: r).map ePt)] = .ok (.dat (ePt (lstv f r))) := by
  unfold s_least_of runF x_least_of lstv
  have key : ∀ (l : List Pt) (z : Pt) (t : Sl), FrOk z → (∀ x ∈ l, FrOk x) → ∃ t', forRun (gNm 2) b_least_of_1 (l.map ePt) [.dat (.lst ((f :: r).map ePt)), .dat (ePt z), t] = .nx [.dat (.lst ((f :: r).map ePt)), .dat (ePt (l.foldl lst1 z)), t'] := fun l => by
    induction l with
    | nil => intro z t _ _; exact ⟨t, rfl⟩
    | cons x l ih =>
      intro z t hz hl
      have hx := hl x List.mem_cons_self
      have hl' : ∀ x ∈ l, FrOk x := fun x hx => hl x (List.mem_cons_of_mem _ hx)
      have h1 : FrOk (lst1 z x) := by
        unfold lst1
        split
        · exact hx
        · exact hz
      obtain ⟨t', e⟩ := ih (lst1 z x) (.dat (ePt x)) h1 hl'
      refine ⟨t', ?_⟩
      rw [List.map_cons, for_nx rfl (ρ2 := [.dat (.lst ((f :: r).map ePt)), .dat (ePt (lst1 z x)), .dat (ePt x)]) ?_, e]
      · rfl
      · have hs := less_eq hx hz
        unfold lst1
        by_cases c : lsv x z <;> simp [b_least_of_1, hs, c]
  obtain ⟨t', e⟩ := key (f :: r) f .no (h f List.mem_cons_self) h
  simp at e ⊢
  rw [e]
  simp
/-- a fraction without common divisors -/
def plainv (f : Pt) : Pt := (f.1 / (Int.gcd f.1 f.2 : Int), f.2 / (Int.gcd f.1 f.2 : Int))
theorem wh_nx {c : XT} {s : XS} {ρ ρ2 : Rho} {n : Nat} (h : c ρ = .ok true) (h2 : s ρ = .nx ρ2) : whRun c s (n + 1) ρ = whRun c s n ρ2 := by
  rw [whRun, h, R.thn_ok, if_pos rfl, h2]
theorem wh_no {c : XT} {s : XS} {ρ : Rho} {n : Nat} (h : c ρ = .ok false) : whRun c s (n + 1) ρ = .nx ρ := by
  rw [whRun, h, R.thn_ok, if_neg Bool.false_ne_true]
theorem gcd_step (x : Sl) (a b : Int) (h : 0 < b) (n : Nat) : whRun (tB (xBin dGt (xLook 2) (xC (.int 0)))) b_plain_of_1 (n + 1) [x, .dat (.int a), .dat (.int b)] = whRun (tB (xBin dGt (xLook 2) (xC (.int 0)))) b_plain_of_1 n [x, .dat (.int b), .dat (.int (a % b))] :=
  wh_nx (by simp [h]) (by simp [b_plain_of_1, h])
theorem gcd_loop (x : Sl) : ∀ (b a : Nat), ∃ n, whRun (tB (xBin dGt (xLook 2) (xC (.int 0)))) b_plain_of_1 n [x, .dat (.int a), .dat (.int b)] = .nx [x, .dat (.int (Nat.gcd a b : Nat)), .dat (.int 0)] := fun b => by
  induction b using Nat.strongRecOn with
  | ind b ih =>
    intro a
    by_cases h : b = 0
    · subst h
      exact ⟨1, by rw [Nat.gcd_zero_right]; exact wh_no (by simp)⟩
    · obtain ⟨n, e⟩ := ih (a % b) (Nat.mod_lt a (by omega)) b
      refine ⟨n + 1, ?_⟩
      have e1 : ((a % b : Nat) : Int) = ((a : Int) % (b : Int)) := by simp
      have h0 : (0 : Int) < b := by omega
      have e2 : Nat.gcd a b = Nat.gcd b (a % b) := by rw [Nat.gcd_comm a b, Nat.gcd_rec b a, Nat.gcd_comm]
      rw [gcd_step x a b h0, ← e1, e2, e]
theorem plain_eq {f : Pt} (h : FrOk f) : s_plain_of [ePt f] = .ok (.dat (ePt (plainv f))) := by
  unfold s_plain_of runF x_plain_of plainv
  obtain ⟨a, b⟩ := f
  obtain ⟨h1, h2, h3⟩ := h
  simp at h1 h2 h3
  obtain ⟨n, e⟩ := gcd_loop (.dat (ePt (a, b))) b.natAbs a.natAbs
  have e := wh_of e (by simp)
  have ea : (a.natAbs : Int) = if a < 0 then -a else a := by split <;> omega
  have eb : (b.natAbs : Int) = b := by omega
  rw [ea, eb] at e
  have g0 : Nat.gcd a.natAbs b.natAbs = Int.gcd a b := rfl
  have g1 : 0 < Int.gcd a b := Nat.pos_of_ne_zero fun z => by
    rw [Int.gcd_eq_zero_iff] at z
    omega
  have g2 : Int.gcd a b ≤ b.natAbs := Nat.le_of_dvd (by omega) (Nat.gcd_dvd_right _ _)
  have dv : Dv (Int.gcd a b : Int) := dv_lit (by omega) (by omega)
  rw [g0] at e
  simp [ePt] at e
  simp [ePt, e, dv]
theorem gcd_pos {f : Pt} (h : 0 < f.2) : 0 < Int.gcd f.1 f.2 := Nat.pos_of_ne_zero fun z => by
  rw [Int.gcd_eq_zero_iff] at z
  omega
theorem plain_mul {f : Pt} (h : 0 < f.2) : f.1 = (plainv f).1 * (Int.gcd f.1 f.2 : Int) ∧ f.2 = (plainv f).2 * (Int.gcd f.1 f.2 : Int) := by
  have h1 := Int.ediv_mul_cancel (Int.gcd_dvd_left (a := f.1) (b := f.2))
  have h2 := Int.ediv_mul_cancel (Int.gcd_dvd_right (a := f.1) (b := f.2))
  exact ⟨h1.symm, h2.symm⟩
theorem plain_pos {f : Pt} (h : 0 < f.2) : 0 < (plainv f).2 := by
  have h1 := (plain_mul h).2
  have h2 := gcd_pos h
  rcases Int.lt_trichotomy 0 (plainv f).2 with c | c | c
  · exact c
  · rw [← c] at h1
    omega
  · have := Int.mul_neg_of_neg_of_pos c (by omega : (0 : Int) < (Int.gcd f.1 f.2 : Int))
    omega
theorem plain_gcd {f : Pt} (h : 0 < f.2) : Int.gcd (plainv f).1 (plainv f).2 = 1 := Int.gcd_ediv_gcd_ediv_gcd (gcd_pos h)
/-- a bound: by way 1 the least, by way -1 the most -/
def bndv (w i : Int) : List Pc → Pt
  | [] => (0, 1)
  | p :: r => plainv (w * (lstv (p.low w i) (r.map (Pc.low w i))).1, (lstv (p.low w i) (r.map (Pc.low w i))).2)
theorem low_in (w i : Int) (hw : w = 1 ∨ w = -1) (hi : i = 0 ∨ i = 1) (o s t6 t8 : Sl) (z : List D) (zf : Sl) (hz : Ln z.length) (p : Pc) (hp : p.bn 100000) :
    ∃ t7, b_bounds_1 [o, s, zf, .dat (.int i), .dat (.int w), .own z, .dat (ePc p), t6, t8, .no] = .nx [o, s, zf, .dat (.int i), .dat (.int w), .own (z ++ [ePt (p.low w i)]), .dat (ePc p), t7, t8, .no] := by
  have sw : Sm w := sm_small (by omega)
  cases p with
  | ln a b =>
    have s1 := sm_bn (px_bn (i := i) hp.1) (by omega)
    have s2 := sm_bn (px_bn (i := i) hp.2) (by omega)
    refine ⟨.dat (.lst [.int (w * px a i), .int (w * px b i)]), ?_⟩
    have hm : bMinL (.lst [.int (w * px a i), .int (w * px b i)]) = .ok (.int (if w * px b i < w * px a i then w * px b i else w * px a i)) := rfl
    simp [b_bounds_1, ePc, ix_pt hi, s1, s2, sw, hm, hz]
    rfl
  | bd a b c =>
    have s1 := sm_bn (px_bn (i := i) hp.1) (by omega)
    have s2 := sm_bn (px_bn (i := i) hp.2.1) (by omega)
    have s3 := sm_bn (px_bn (i := i) hp.2.2) (by omega)
    have l := lowest_eq (w_bn hw (px_bn (i := i) hp.1)) (w_bn hw (px_bn (i := i) hp.2.1)) (w_bn hw (px_bn (i := i) hp.2.2))
    refine ⟨.dat (.lst [.int (w * px a i), .int (w * px b i), .int (w * px c i)]), ?_⟩
    simp [b_bounds_1, ePc, ix_pt hi, s1, s2, s3, sw, hz, l]
    rfl
theorem bound_in (w i : Int) (hw : w = 1 ∨ w = -1) (hi : i = 0 ∨ i = 1) (o t5 t6 t7 t8 : Sl) (z : List D) (hz : z.length ≤ 100) (p : Pc) (r : List Pc) (hl : r.length ≤ 1000000) (hp : ∀ q ∈ p :: r, q.bn 100000) :
    ∃ t5' t6' t7' t8', b_bounds_2 [o, .dat (.lst ((p :: r).map ePc)), .own z, .dat (.int i), .dat (.int w), t5, t6, t7, t8, .no] = .nx [o, .dat (.lst ((p :: r).map ePc)), .own (z ++ [ePt (bndv w i (p :: r))]), .dat (.int i), .dat (.int w), t5', t6', t7', t8', .no] := by
  obtain ⟨ρ', e1, u6, u7, rfl⟩ := for_app (g := gNm 6) (s := b_bounds_1) ePc (fun q => ePt (q.low w i)) (fun y ρ => ∃ t6 t7, ρ = [o, .dat (.lst ((p :: r).map ePc)), .own z, .dat (.int i), .dat (.int w), .own y, t6, t7, t8, .no]) (p :: r) []
    [o, .dat (.lst ((p :: r).map ePc)), .own z, .dat (.int i), .dat (.int w), .own [], t6, t7, t8, .no] ⟨_, _, rfl⟩ (by simp; omega) (by
    rintro y ρ q hq hy ⟨v6, v7, rfl⟩
    obtain ⟨t7, e⟩ := low_in w i hw hi o (.dat (.lst ((p :: r).map ePc))) v7 t8 y (.own z) hy q (hp q hq)
    exact ⟨_, _, rfl, e, _, _, rfl⟩)
  have ho : ∀ x ∈ (p :: r).map (Pc.low w i), FrOk x := fun x hx => by
    obtain ⟨q, hq, rfl⟩ := List.mem_map.mp hx
    exact pclow_ok hw (hp q hq)
  have le := least_eq (p.low w i) (r.map (Pc.low w i)) ho
  have lo : FrOk (lstv (p.low w i) (r.map (Pc.low w i))) := lstv_ok _ _ (ho _ List.mem_cons_self) ho
  have sw : Sm w := sm_small (by omega)
  have hz' : Ln z.length := ⟨by omega⟩
  have em : (p :: r).map (fun q => ePt (q.low w i)) = (p.low w i :: r.map (Pc.low w i)).map ePt := by simp
  rw [List.nil_append, em] at e1
  have hv : bndv w i (p :: r) = plainv (w * (lstv (p.low w i) (r.map (Pc.low w i))).1, (lstv (p.low w i) (r.map (Pc.low w i))).2) := rfl
  rw [hv]
  generalize lstv (p.low w i) (r.map (Pc.low w i)) = L at *
  generalize (p.low w i :: r.map (Pc.low w i)).map ePt = q at *
  generalize (p :: r).map ePc = ps at *
  have s1 : Sm L.1 := sm_bn lo.n (by omega)
  have pl := plain_eq (f := (w * L.1, L.2)) ⟨by have := w_bn hw lo.n; exact this, lo.d, lo.e⟩
  refine ⟨.dat (.lst q), u6, u7, .dat (ePt L), ?_⟩
  have eL : ePt L = .tup [.int L.1, .int L.2] := rfl
  rw [eL] at le ⊢
  have e2 : ePt (w * L.1, L.2) = .tup [.int (w * L.1), .int L.2] := rfl
  rw [e2] at pl
  simp [b_bounds_2, e1, le, sw, s1, pl, hz']
theorem bounds_eq (o : List Way) (h : OutOk o) : s_bounds [eOut o] = .ok (.dat (if pcs o = [] then .non else .tup [ePt (bndv 1 0 (pcs o)), ePt (bndv 1 1 (pcs o)), ePt (bndv (-1) 0 (pcs o)), ePt (bndv (-1) 1 (pcs o))])) := by
  unfold s_bounds runF x_bounds
  have hp := pieces_eq o h
  have hb : ∀ p ∈ pcs o, p.bn 100000 := fun p hp => by
    obtain ⟨w, hw, hp⟩ := List.mem_flatMap.mp hp
    exact bn_pcs (ok_bn (h.ok w hw)) p hp
  have hl : (pcs o).length ≤ 200 * o.length := by
    have : ∀ q : List Way, (∀ w ∈ q, w.ok) → (pcs q).length ≤ 200 * q.length := fun q => by
      induction q with
      | nil => intro _; simp [pcs]
      | cons w r ih =>
        intro hq
        have h1 := ih fun w hw => hq w (List.mem_cons_of_mem _ hw)
        have h2 := (hq w List.mem_cons_self).few
        have h3 := pcs_len w
        unfold pcs at h1 ⊢
        rw [List.flatMap_cons, List.length_append, List.length_cons]
        omega
    exact this o h.ok
  have hf := h.few
  cases hc : pcs o with
  | nil =>
    rw [hc] at hp
    simp [hp]
  | cons p r =>
    rw [hc] at hp hb hl
    simp only [List.length_cons] at hl
    obtain ⟨a5, a6, a7, a8, e1⟩ := bound_in 1 0 (.inl rfl) (.inl rfl) (.dat (eOut o)) .no .no .no .no [] (by simp) p r (by omega) hb
    obtain ⟨b5, b6, b7, b8, e2⟩ := bound_in (-1) 0 (.inr rfl) (.inl rfl) (.dat (eOut o)) a5 a6 a7 a8 [ePt (bndv 1 0 (p :: r))] (by simp only [List.length_cons, List.length_nil]; omega) p r (by omega) hb
    obtain ⟨c5, c6, c7, c8, e3⟩ := bound_in 1 1 (.inl rfl) (.inr rfl) (.dat (eOut o)) b5 b6 b7 b8 [ePt (bndv 1 0 (p :: r)), ePt (bndv (-1) 0 (p :: r))] (by simp only [List.length_cons, List.length_nil]; omega) p r (by omega) hb
    obtain ⟨d5, d6, d7, d8, e4⟩ := bound_in (-1) 1 (.inr rfl) (.inr rfl) (.dat (eOut o)) c5 c6 c7 c8 [ePt (bndv 1 0 (p :: r)), ePt (bndv (-1) 0 (p :: r)), ePt (bndv 1 1 (p :: r))] (by simp only [List.length_cons, List.length_nil]; omega) p r (by omega) hb
    simp only [List.map_cons] at hp e1 e2 e3 e4
    simp [hp]
    generalize ePc p :: r.map ePc = ps at *
    have f3 : ∀ ρ, b_bounds_3 ρ = forRun (gNm 4) b_bounds_2 [.int 1, .int (-1)] ρ := fun ρ => by simp [b_bounds_3]
    rw [for_nx rfl (ρ2 := [.dat (eOut o), .dat (.lst ps), .own [ePt (bndv 1 0 (p :: r)), ePt (bndv (-1) 0 (p :: r))], .dat (.int 0), .dat (.int (-1)), b5, b6, b7, b8, .no]) (by
      rw [f3, for_nx rfl e1, for_nx rfl e2]
      rfl), for_nx rfl (ρ2 := [.dat (eOut o), .dat (.lst ps), .own [ePt (bndv 1 0 (p :: r)), ePt (bndv (-1) 0 (p :: r)), ePt (bndv 1 1 (p :: r)), ePt (bndv (-1) 1 (p :: r))], .dat (.int 1), .dat (.int (-1)), d5, d6, d7, d8, .no]) (by
      rw [f3, for_nx rfl e3, for_nx rfl e4]
      rfl)]
    simp
end Gy

end

section
set_option Elab.async false
set_option linter.all false
set_option maxRecDepth 100000
set_option maxHeartbeats 1000000
/-! GyG: general plain lemmas: steps of a body, == of equal data, the law's refusals. -/
namespace Gy
open PySem
theorem go_nx {s t : XS} {ρ ρ' : Rho} (h : s ρ = .nx ρ') : sSeq s t ρ = t ρ' := by
  show (s ρ).thn t = _
  rw [h]
  rfl
theorem go_rt {s t : XS} {ρ : Rho} {v : Sl} (h : s ρ = .rt v) : sSeq s t ρ = .rt v := by
  show (s ρ).thn t = _
  rw [h]
  rfl
theorem go_er {s t : XS} {ρ ρ' : Rho} {e : D} (h : s ρ = .er e ρ') : sSeq s t ρ = .er e ρ' := by
  show (s ρ).thn t = _
  rw [h]
  rfl
theorem run_rt {n : Nat} {b : XS} {ds : List D} {v : Sl} (h : b (ds.map Sl.dat ++ List.replicate (n - ds.length) Sl.no) = .rt v) : runF n b ds = .ok v := by
  unfold runF
  rw [h]
theorem run_er {n : Nat} {b : XS} {ds : List D} {e : D} {ρ : Rho} (h : b (ds.map Sl.dat ++ List.replicate (n - ds.length) Sl.no) = .er e ρ) : runF n b ds = .err e := by
  unfold runF
  rw [h]
mutual
theorem eqv_refl : ∀ d : D, dLay d = true → dEqv d d = true
  | .non, _ => by simp
  | .bl b, _ => by simp
  | .int i, _ => by simp
  | .str x, _ => by simp
  | .lst xs, h => by
    rw [eqv_ll]
    exact eqvs_refl xs (by simpa using h)
  | .tup xs, h => by
    rw [eqv_tt]
    exact eqvs_refl xs (by simpa using h)
  | .scr _, h => by simp [dLay] at h
  | .obj _ _ _, h => by simp [dLay] at h
  | .exc _ _, h => by simp [dLay] at h
theorem eqvs_refl : ∀ ds : List D, dLays ds = true → dEqvs ds ds = true
  | [], _ => by simp
  | x :: xs, h => by
    have h' : dLay x = true ∧ dLays xs = true := by simpa [dLays] using h
    rw [eqvs_cc, eqv_refl x h'.1, eqvs_refl xs h'.2]
    rfl
end
theorem lays_all {xs : List D} (h : ∀ d ∈ xs, dLay d = true) : dLays xs = true := by
  induction xs with
  | nil => rfl
  | cons a r ih => rw [lays_cons, h a List.mem_cons_self, ih fun d hd => h d (List.mem_cons_of_mem _ hd)]; rfl
theorem deeps_all {xs : List D} {n : Nat} (h : ∀ d ∈ xs, dDeep d ≤ n) : dDeeps xs ≤ n := by
  induction xs with
  | nil => exact Nat.zero_le _
  | cons a r ih =>
    rw [deeps_cons]
    exact Nat.max_le.mpr ⟨h a List.mem_cons_self, ih fun d hd => h d (List.mem_cons_of_mem _ hd)⟩
/-- data of depth n at most, of which == may be asked -/
structure Flt (n : Nat) (d : D) : Prop where
  l : dLay d = true
  d : dDeep d ≤ n
theorem Flt.fit {n : Nat} {d : D} (h : Flt n d) (hn : n ≤ 64) : dFit d := ⟨h.l, Nat.le_trans h.d hn⟩
theorem Flt.mono {n m : Nat} {d : D} (h : Flt n d) (hm : n ≤ m) : Flt m d := ⟨h.l, Nat.le_trans h.d hm⟩
theorem Flt.lst {n : Nat} {xs : List D} (h : ∀ d ∈ xs, Flt n d) : Flt (n + 1) (.lst xs) :=
  ⟨by rw [lay_lst]; exact lays_all fun d hd => (h d hd).l, by rw [deep_lst]; exact Nat.succ_le_succ (deeps_all fun d hd => (h d hd).d)⟩
theorem Flt.tup {n : Nat} {xs : List D} (h : ∀ d ∈ xs, Flt n d) : Flt (n + 1) (.tup xs) :=
  ⟨by rw [lay_tup]; exact lays_all fun d hd => (h d hd).l, by rw [deep_tup]; exact Nat.succ_le_succ (deeps_all fun d hd => (h d hd).d)⟩
theorem flt_int (n : Nat) (i : Int) : Flt n (.int i) := ⟨rfl, Nat.zero_le _⟩
theorem flt_bl (n : Nat) (b : Bool) : Flt n (.bl b) := ⟨rfl, Nat.zero_le _⟩
theorem flt_stp (s : Stp) : Flt 1 (eStp s) := by cases s <;> exact ⟨by simp [eStp], by simp [eStp]⟩
theorem flt_at (x y : Int) : Flt 1 (eAt x y) := ⟨by simp [eAt], by simp [eAt]⟩
theorem flt_steps (w : Way) : ∀ d ∈ eSteps w, Flt 1 d := fun d hd => by
  rcases List.mem_cons.mp hd with rfl | hd
  · exact flt_at _ _
  · obtain ⟨s, _, rfl⟩ := List.mem_map.mp hd
    exact flt_stp s
theorem flt_way (w : Way) : Flt 2 (eWay w) := .lst (flt_steps w)
theorem flt_out (o : List Way) : Flt 3 (eOut o) := .lst fun d hd => by
  obtain ⟨w, _, rfl⟩ := List.mem_map.mp hd
  exact flt_way w
theorem flt_pt (p : Pt) : Flt 1 (ePt p) := ⟨by simp [ePt], by simp [ePt]⟩
theorem flt_pc (p : Pc) : Flt 2 (ePc p) := by
  cases p <;> exact .tup fun d hd => by
    simp at hd
    rcases hd with rfl | rfl | rfl <;> exact flt_pt _
@[simp] theorem dEq_same {d : D} (h : dFit d) : dEq d d = .ok (.bl true) := by rw [dEq_ok h h, eqv_refl d h.lay]
@[simp] theorem dNe_same {d : D} (h : dFit d) : dNe d d = .ok (.bl false) := by rw [dNe_ok h h, eqv_refl d h.lay]; rfl
end Gy

end

section
set_option Elab.async false
set_option linter.all false
set_option maxRecDepth 100000
set_option maxHeartbeats 4000000
/-! GyR: plain lemmas about straight outlines: fractions, their order, heights, crossings, parting. -/
namespace Gy
open PySem
/-- no number told of is greater -/
def cap : Nat := 10 ^ 1000
theorem sm_cap {i : Int} (h : i.natAbs ≤ cap) : Sm i := by
  refine ⟨Nat.lt_trans (m := 4000) ?_ (by decide)⟩
  by_cases h0 : i.natAbs = 0
  · rw [h0]
    decide
  · exact (Nat.log2_lt h0).mpr (Nat.lt_of_le_of_lt h (by decide +kernel))
theorem dv_cap {i : Int} (h0 : 0 < i) (h : i.natAbs ≤ cap) : Dv i := by
  refine ⟨h0, Nat.lt_trans (m := 4000) ?_ (by decide)⟩
  exact (Nat.log2_lt (by omega)).mpr (Nat.lt_of_le_of_lt h (by decide +kernel))
structure Fb (B : Nat) (f : Pt) : Prop where
  n : f.1.natAbs ≤ B
  d : 0 < f.2
  e : f.2.natAbs ≤ B
theorem Fb.mono {B C : Nat} {f : Pt} (h : Fb B f) (hc : B ≤ C) : Fb C f := ⟨Nat.le_trans h.n hc, h.d, Nat.le_trans h.e hc⟩
theorem less_eqB {f g : Pt} (hf : Fb cap f) (hg : Fb cap g) : s_less [ePt f, ePt g] = .ok (.dat (.bl (decide (lsv f g)))) := by
  unfold s_less runF x_less
  obtain ⟨a, b⟩ := f
  obtain ⟨c, d⟩ := g
  have s1 : Sm a := sm_cap hf.n
  have s2 : Sm b := sm_cap hf.e
  have s3 : Sm c := sm_cap hg.n
  have s4 : Sm d := sm_cap hg.e
  simp [ePt, s1, s2, s3, s4, lsv]
  rfl
theorem frac_step (x y : Sl) (a b : Int) (h : 0 < b) (n : Nat) : whRun (tB (xBin dGt (xLook 3) (xC (.int 0)))) b_fraction_1 (n + 1) [x, y, .dat (.int a), .dat (.int b)] = whRun (tB (xBin dGt (xLook 3) (xC (.int 0)))) b_fraction_1 n [x, y, .dat (.int b), .dat (.int (a % b))] :=
  wh_nx (by simp [h]) (by simp [b_fraction_1, h])
theorem frac_loop (x y : Sl) : ∀ (b a : Nat), ∃ n, whRun (tB (xBin dGt (xLook 3) (xC (.int 0)))) b_fraction_1 n [x, y, .dat (.int a), .dat (.int b)] = .nx [x, y, .dat (.int (Nat.gcd a b : Nat)), .dat (.int 0)] := fun b => by
  induction b using Nat.strongRecOn with
  | ind b ih =>
    intro a
    by_cases h : b = 0
    · subst h
      exact ⟨1, by rw [Nat.gcd_zero_right]; exact wh_no (by simp)⟩
    · obtain ⟨n, e⟩ := ih (a % b) (Nat.mod_lt a (by omega)) b
      refine ⟨n + 1, ?_⟩
      have e1 : ((a % b : Nat) : Int) = ((a : Int) % (b : Int)) := by simp
      have h0 : (0 : Int) < b := by omega
      have e2 : Nat.gcd a b = Nat.gcd b (a % b) := by rw [Nat.gcd_comm a b, Nat.gcd_rec b a, Nat.gcd_comm]
      rw [frac_step x y a b h0, ← e1, e2, e]
def fracv (t u : Int) : Pt := if u < 0 then plainv (-t, -u) else plainv (t, u)
theorem fraction_eq {t u : Int} (hu : u ≠ 0) (hb : u.natAbs ≤ cap) : s_fraction [.int t, .int u] = .ok (.dat (ePt (fracv t u))) := by
  unfold s_fraction runF x_fraction fracv
  have key : ∀ a b : Int, 0 < b → b.natAbs ≤ cap → (sSeq (sPar 2 3 (xCons (xFun (one bAbs) (xCons (xLook 0) xNil)) (xCons (xVar 1) xNil)))
    (sSeq (sWh (tB (xBin dGt (xLook 3) (xC (.int 0)))) b_fraction_1)
    (sRet (xTup (xCons (xBin dDiv (xLook 0) (xLook 2)) (xCons (xBin dDiv (xLook 1) (xLook 2)) xNil)))))) [.dat (.int a), .dat (.int b), .no, .no] = .rt (.dat (ePt (plainv (a, b)))) := fun a b h0 hc => by
    obtain ⟨n, e⟩ := frac_loop (.dat (.int a)) (.dat (.int b)) b.natAbs a.natAbs
    have e := wh_of e (by simp)
    have ea : (a.natAbs : Int) = if a < 0 then -a else a := by split <;> omega
    have eb : (b.natAbs : Int) = b := by omega
    have g0 : Nat.gcd a.natAbs b.natAbs = Int.gcd a b := rfl
    rw [ea, eb, g0] at e
    have g1 : 0 < Int.gcd a b := gcd_pos (f := (a, b)) h0
    have g2 : Int.gcd a b ≤ b.natAbs := Nat.le_of_dvd (by omega) (Nat.gcd_dvd_right _ _)
    have dv : Dv (Int.gcd a b : Int) := dv_cap (by omega) (by omega)
    simp [e, dv, plainv, ePt]
  by_cases h : u < 0
  · have k := key (-t) (-u) (by omega) (by omega)
    simp at k
    simp [h]
    rw [k]
  · have k := key t u (by omega) hb
    simp at k
    simp [h]
    rw [k]
theorem plain_bn {f : Pt} (h : 0 < f.2) : (plainv f).1.natAbs ≤ f.1.natAbs ∧ (plainv f).2.natAbs ≤ f.2.natAbs := by
  have e := plain_mul h
  have g1 := gcd_pos h
  have h1 := congrArg Int.natAbs e.1
  have h2 := congrArg Int.natAbs e.2
  rw [Int.natAbs_mul] at h1 h2
  have h3 : (plainv f).1.natAbs * 1 ≤ (plainv f).1.natAbs * (Int.gcd f.1 f.2 : Int).natAbs := Nat.mul_le_mul_left _ (by omega)
  have h4 : (plainv f).2.natAbs * 1 ≤ (plainv f).2.natAbs * (Int.gcd f.1 f.2 : Int).natAbs := Nat.mul_le_mul_left _ (by omega)
  omega
theorem plain_cross {f : Pt} (h : 0 < f.2) : (plainv f).1 * f.2 = f.1 * (plainv f).2 := by
  have e := plain_mul h
  generalize plainv f = p at *
  generalize (Int.gcd f.1 f.2 : Int) = g at *
  rw [e.1, e.2]
  grind
theorem frac_ok {t u : Int} (hu : u ≠ 0) : 0 < (fracv t u).2 ∧ (fracv t u).1 * u = t * (fracv t u).2 ∧ (fracv t u).1.natAbs ≤ t.natAbs ∧ (fracv t u).2.natAbs ≤ u.natAbs ∧ Int.gcd (fracv t u).1 (fracv t u).2 = 1 := by
  unfold fracv
  split
  · have h : 0 < (-t, -u).2 := by show 0 < -u; omega
    have c := plain_cross h
    have b := plain_bn h
    dsimp only at c b
    refine ⟨plain_pos h, by grind, by omega, by omega, plain_gcd h⟩
  · have h : 0 < (t, u).2 := by show 0 < u; omega
    have c := plain_cross h
    have b := plain_bn h
    exact ⟨plain_pos h, c, b.1, b.2, plain_gcd h⟩
theorem frac_fb {B : Nat} {t u : Int} (hu : u ≠ 0) (ht : t.natAbs ≤ B) (hb : u.natAbs ≤ B) : Fb B (fracv t u) := by
  obtain ⟨h1, _, h2, h3, _⟩ := frac_ok (t := t) hu
  exact ⟨by omega, h1, by omega⟩
/-- the middle of two fractions -/
def btw (f g : Pt) : Pt := fracv (f.1 * g.2 + g.1 * f.2) (2 * f.2 * g.2)
theorem btw_u {f g : Pt} (hf : 0 < f.2) (hg : 0 < g.2) : 0 < 2 * f.2 * g.2 := Int.mul_pos (by omega) hg
theorem btw_fb {B C : Nat} {f g : Pt} (hf : Fb B f) (hg : Fb C g) : Fb (2 * B * C) (btw f g) := by
  have h1 := ab_mul hf.n hg.e
  have h2 := ab_mul hg.n hf.e
  have h3 : (2 * f.2 * g.2).natAbs ≤ 2 * B * C := ab_mul (by have := hf.e; omega) hg.e
  have e : C * B = B * C := Nat.mul_comm _ _
  rw [e] at h2
  have e2 : 2 * B * C = B * C + B * C := by rw [Nat.mul_assoc]; omega
  have := btw_u hf.d hg.d
  exact frac_fb (by omega) (by rw [e2]; omega) h3
theorem between_eq {B C : Nat} {f g : Pt} (hf : Fb B f) (hg : Fb C g) (hb : B ≤ cap) (hc : C ≤ cap) (h : 2 * B * C ≤ cap) : s_between [ePt f, ePt g] = .ok (.dat (ePt (btw f g))) := by
  unfold s_between runF x_between btw
  have s1 : Sm f.1 := sm_cap (Nat.le_trans hf.n hb)
  have s2 : Sm f.2 := sm_cap (Nat.le_trans hf.e hb)
  have s3 : Sm g.1 := sm_cap (Nat.le_trans hg.n hc)
  have s4 : Sm g.2 := sm_cap (Nat.le_trans hg.e hc)
  have s5 : Sm (2 * f.2) := by
    refine ⟨Nat.lt_trans (m := 4001) ?_ (by decide)⟩
    have h0 : (2 * f.2).natAbs ≤ 2 * cap := by have := hf.e; omega
    have hd := hf.d
    exact (Nat.log2_lt (by omega)).mpr (Nat.lt_of_le_of_lt h0 (by decide +kernel))
  have h3 : (2 * f.2 * g.2).natAbs ≤ 2 * B * C := ab_mul (by have := hf.e; omega) hg.e
  have u0 := btw_u hf.d hg.d
  have fe := fraction_eq (t := f.1 * g.2 + g.1 * f.2) (u := 2 * f.2 * g.2) (by omega) (by omega)
  obtain ⟨a, b⟩ := f
  obtain ⟨c, d⟩ := g
  dsimp only at s1 s2 s3 s4 s5 fe
  simp [ePt, s1, s2, s3, s4, s5]
  simp [ePt] at fe
  simp [fe]
/-! ### in order -/
def insv (x : Pt) : List Pt → List Pt
  | [] => [x]
  | y :: r => if lsv y x then y :: insv x r else if lsv x y then x :: y :: r else y :: r
def ordv (l : List Pt) : List Pt := l.foldl (fun z x => insv x z) []
def cntL (x : Pt) (z : List Pt) : Nat := (z.takeWhile fun y => decide (lsv y x)).length
theorem cntL_le (x : Pt) (z : List Pt) : cntL x z ≤ z.length := (List.takeWhile_prefix _).length_le
theorem insv_eq (x : Pt) : ∀ z : List Pt, insv x z = if cntL x z = z.length ∨ (∃ y, z[cntL x z]? = some y ∧ lsv x y) then z.take (cntL x z) ++ x :: z.drop (cntL x z) else z
  | [] => by simp [insv, cntL]
  | y :: r => by
    by_cases h : lsv y x
    · have e : cntL x (y :: r) = cntL x r + 1 := by simp [cntL, h]
      have ih := insv_eq x r
      unfold insv
      rw [if_pos h, ih, e]
      simp only [List.length_cons, Nat.add_right_cancel_iff, List.getElem?_cons_succ, List.take_succ_cons, List.drop_succ_cons]
      split <;> simp
    · have e : cntL x (y :: r) = 0 := by simp [cntL, h]
      unfold insv
      rw [if_neg h, e]
      by_cases g : lsv x y
      · simp [g]
      · simp [g]
theorem mem_insv {x y : Pt} : ∀ {z : List Pt}, y ∈ insv x z → y = x ∨ y ∈ z
  | [], h => by
    simp [insv] at h
    exact .inl h
  | w :: r, h => by
    unfold insv at h
    split at h
    · rcases List.mem_cons.mp h with rfl | h
      · exact .inr List.mem_cons_self
      · rcases mem_insv h with h | h
        · exact .inl h
        · exact .inr (List.mem_cons_of_mem _ h)
    · split at h
      · rcases List.mem_cons.mp h with h | h
        · exact .inl h
        · exact .inr h
      · exact .inr h
theorem insv_len (x : Pt) : ∀ z : List Pt, (insv x z).length ≤ z.length + 1
  | [] => by simp [insv]
  | y :: r => by
    have := insv_len x r
    unfold insv
    split
    · simp; omega
    · split <;> simp
theorem ord_fold_mem : ∀ (l z : List Pt) {y : Pt}, y ∈ l.foldl (fun z x => insv x z) z → y ∈ z ∨ y ∈ l
  | [], z, y, h => .inl h
  | x :: l, z, y, h => by
    rcases ord_fold_mem l (insv x z) h with h | h
    · rcases mem_insv h with rfl | h
      · exact .inr List.mem_cons_self
      · exact .inl h
    · exact .inr (List.mem_cons_of_mem _ h)
theorem mem_ordv {l : List Pt} {y : Pt} (h : y ∈ ordv l) : y ∈ l := by
  rcases ord_fold_mem l [] h with h | h
  · cases h
  · exact h
theorem ord_fold_len : ∀ (l z : List Pt), (l.foldl (fun z x => insv x z) z).length ≤ z.length + l.length
  | [], z => by simp
  | x :: l, z => by
    have h1 := ord_fold_len l (insv x z)
    have h2 := insv_len x z
    rw [List.foldl_cons, List.length_cons]
    omega
theorem ordv_len (l : List Pt) : (ordv l).length ≤ l.length := by
  have := ord_fold_len l []
  simpa [ordv] using this
theorem tw_all {α : Type} (p : α → Bool) : ∀ (l : List α), ∀ y ∈ l.takeWhile p, p y = true
  | [], y, h => by cases h
  | a :: r, y, h => by
    rw [List.takeWhile_cons] at h
    by_cases c : p a = true
    · rw [if_pos c] at h
      rcases List.mem_cons.mp h with rfl | h
      · exact c
      · exact tw_all p r y h
    · rw [if_neg c] at h
      cases h
theorem ord_wh (some : Sl) (x : Pt) (hx : Fb cap x) (z : List Pt) (hz : ∀ y ∈ z, Fb cap y) (hl : z.length ≤ 1000000) : ∀ (n k : Nat), k + n = cntL x z → ∃ m, whRun (tAnd (tB (xBin dLt (xLook 3) (xFun (one dLen) (xCons (xLook 1) xNil)))) (tB (xCall (atN 2 s_less) (xCons (xBin dIx (xLook 1) (xLook 3)) (xCons (xVar 2) xNil))))) b_in_order_1 m
    [some, .own (z.map ePt), .dat (ePt x), .dat (.int k)] = .nx [some, .own (z.map ePt), .dat (ePt x), .dat (.int (cntL x z : Nat))] := fun n => by
  have hc := cntL_le x z
  induction n with
  | zero =>
    intro k hk
    have hk : k = cntL x z := by omega
    subst hk
    refine ⟨1, wh_no ?_⟩
    by_cases h : cntL x z < z.length
    · have e : getAt (z.map ePt) (cntL x z : Int) = Option.some (ePt (z[cntL x z])) := by
        rw [getAt_ix (by simpa using h)]
        simp
      have hy := hz _ (List.getElem_mem h)
      have nl : ¬ lsv z[cntL x z] x := fun c => by
        have tw : ∀ (l : List Pt) (hl : cntL x l < l.length), ¬ lsv l[cntL x l] x := fun l => by
          induction l with
          | nil => intro hl; simp at hl
          | cons w r ih =>
            intro hl
            by_cases q : lsv w x
            · have e : cntL x (w :: r) = cntL x r + 1 := by simp [cntL, q]
              have hl2 : cntL x r < r.length := by
                rw [e] at hl
                simpa using hl
              have := ih hl2
              simp only [e, List.getElem_cons_succ]
              exact this
            · have e : cntL x (w :: r) = 0 := by simp [cntL, q]
              simp only [e, List.getElem_cons_zero]
              exact q
        exact tw z h c
      have le := less_eqB hy hx
      simp [h, e, le, nl]
    · simp [h]
  | succ n ih =>
    intro k hk
    obtain ⟨m, e⟩ := ih (k + 1) (by omega)
    have h : k < z.length := by omega
    have e1 : getAt (z.map ePt) (k : Int) = Option.some (ePt (z[k])) := by
      rw [getAt_ix (by simpa using h)]
      simp
    have hy := hz _ (List.getElem_mem h)
    have yl : lsv z[k] x := by
      have hm : k < (z.takeWhile fun y => decide (lsv y x)).length := by
        show k < cntL x z
        omega
      have h1 := tw_all (fun y => decide (lsv y x)) z _ (List.getElem_mem hm)
      have h2 : (z.takeWhile fun y => decide (lsv y x))[k] = z[k] := (List.takeWhile_prefix _).getElem hm
      rw [h2] at h1
      simpa using h1
    have le := less_eqB hy hx
    refine ⟨m + 1, ?_⟩
    rw [wh_nx (ρ2 := [some, .own (z.map ePt), .dat (ePt x), .dat (.int ((k + 1 : Nat) : Int))]) (by simp [h, e1, le, yl]) (by simp [b_in_order_1]), e]
theorem in_order_eq (l : List Pt) (hb : ∀ x ∈ l, Fb cap x) (hl : l.length ≤ 1000000) : s_in_order [.lst (l.map ePt)] = .ok (.own ((ordv l).map ePt)) := by
  unfold s_in_order runF x_in_order ordv
  have key : ∀ (r z : List Pt) (t2 t3 : Sl), (∀ x ∈ r, Fb cap x) → (∀ x ∈ z, Fb cap x) → z.length + r.length ≤ 1000000 → ∃ u2 u3, forRun (gNm 2) b_in_order_2 (r.map ePt) [.dat (.lst (l.map ePt)), .own (z.map ePt), t2, t3] = .nx [.dat (.lst (l.map ePt)), .own ((r.foldl (fun z x => insv x z) z).map ePt), u2, u3] := fun r => by
    induction r with
    | nil => intro z t2 t3 _ _ _; exact ⟨t2, t3, rfl⟩
    | cons x r ih =>
      intro z t2 t3 hr hz hn
      rw [List.length_cons] at hn
      have hx := hr x List.mem_cons_self
      have hi : ∀ y ∈ insv x z, Fb cap y := fun y hy => by
        rcases mem_insv hy with rfl | hy
        · exact hx
        · exact hz y hy
      have il := insv_len x z
      obtain ⟨u2, u3, e⟩ := ih (insv x z) (.dat (ePt x)) (.dat (.int (cntL x z : Nat))) (fun y hy => hr y (List.mem_cons_of_mem _ hy)) hi (by omega)
      refine ⟨u2, u3, ?_⟩
      rw [List.map_cons, for_nx rfl (ρ2 := [.dat (.lst (l.map ePt)), .own ((insv x z).map ePt), .dat (ePt x), .dat (.int (cntL x z : Nat))]) ?_, e]
      · rfl
      · obtain ⟨m, w⟩ := ord_wh (.dat (.lst (l.map ePt))) x hx z hz (by omega) (cntL x z) 0 (by omega)
        have w := wh_of w (by simp)
        have hc := cntL_le x z
        have ln : Ln z.length := ⟨by omega⟩
        have rg : RgN (cntL x z : Nat) := ⟨by omega, by omega⟩
        rw [insv_eq]
        simp at w
        by_cases h : cntL x z = z.length
        · rw [if_pos (.inl h)]
          rw [h] at w rg ⊢
          simp [b_in_order_2, w, ln, rg, List.take_of_length_le, List.drop_of_length_le]
        · have h2 : cntL x z < z.length := by omega
          have h3 : ¬ ((cntL x z : Int) = (z.length : Int)) := by omega
          have e1 : getAt (z.map ePt) (cntL x z : Int) = Option.some (ePt (z[cntL x z])) := by
            rw [getAt_ix (by simpa using h2)]
            simp
          have le := less_eqB hx (hz _ (List.getElem_mem h2))
          by_cases g : lsv x z[cntL x z]
          · rw [if_pos (.inr ⟨_, List.getElem?_eq_getElem h2, g⟩)]
            simp [b_in_order_2, w, ln, rg, h3, e1, le, g]
          · rw [if_neg (by
              rintro (c | ⟨y, c1, c2⟩)
              · exact h c
              · rw [List.getElem?_eq_getElem h2] at c1
                cases c1
                exact g c2)]
            simp [b_in_order_2, w, ln, rg, h3, e1, le, g]
  obtain ⟨u2, u3, e⟩ := key l [] .no .no hb (fun x hx => by cases hx) (by simpa using hl)
  simp at e ⊢
  rw [e]
  simp
end Gy

end

section
set_option Elab.async false
set_option linter.all false
set_option maxRecDepth 100000
set_option maxHeartbeats 1000000
/-! GyR2: plain lemmas about straight outlines: heights, crossings, parting. -/
namespace Gy
open PySem
theorem for_find {δ : Type} {g : XG} {s : XS} (e : δ → D) (P : Rho → Prop) (v : δ → Option Sl) : ∀ (ds : List δ) (ρ : Rho), P ρ →
    (∀ ρ d, d ∈ ds → P ρ → ∃ ρ', g (e d) ρ = .ok ρ' ∧ match v d with
      | none => ∃ ρ2, s ρ' = .nx ρ2 ∧ P ρ2
      | some x => s ρ' = .rt x) →
    match ds.findSome? v with
      | none => ∃ ρ', forRun g s (ds.map e) ρ = .nx ρ' ∧ P ρ'
      | some x => forRun g s (ds.map e) ρ = .rt x
  | [], ρ, h, _ => ⟨ρ, rfl, h⟩
  | d :: ds, ρ, h, st => by
    obtain ⟨ρ', h1, h2⟩ := st ρ d List.mem_cons_self h
    rw [List.findSome?_cons]
    cases hv : v d with
    | none =>
      rw [hv] at h2
      obtain ⟨ρ2, h3, h4⟩ := h2
      have ih := for_find e P v ds ρ2 h4 fun ρ d hd => st ρ d (List.mem_cons_of_mem _ hd)
      simp only [List.map_cons]
      rw [for_nx h1 h3]
      exact ih
    | some x =>
      rw [hv] at h2
      have h2 : s ρ' = .rt x := h2
      show forRun g s ((d :: ds).map e) ρ = .rt x
      rw [List.map_cons, forRun_cons, h1]
      show (match s ρ' with | .nx ρ2 => forRun g s (ds.map e) ρ2 | .ct ρ2 => forRun g s (ds.map e) ρ2 | .bk ρ2 => .nx ρ2 | o => o) = _
      rw [h2]
abbrev Seg := Pt × Pt
def eSeg (l : Seg) : D := .tup [ePt l.1, ePt l.2]
def Seg.bn (m : Nat) (l : Seg) : Prop := Pt.bn m l.1 ∧ Pt.bn m l.2
def Pc.seg (p : Pc) : Seg := (p.beg, p.fin)
def Pc.isLn : Pc → Bool
  | .ln _ _ => true
  | .bd _ _ _ => false
theorem seg_eq {p : Pc} (h : p.isLn = true) : ePc p = eSeg p.seg := by
  cases p with
  | ln a b => rfl
  | bd a b c => cases h
def linesv (o : List Way) : List Seg := ((pcs o).map Pc.seg).filter fun l => decide (l.1.2 ≠ l.2.2)
theorem pieces_err (x e : D) (h : s_look_outline [x] = .err e) : s_pieces [x] = .err e := by
  unfold s_pieces runF x_pieces
  simp [h]
theorem lines_err (x e : D) (h : s_look_outline [x] = .err e) : s_lines_of [x] = .err e := by
  have hp := pieces_err x e h
  unfold s_lines_of runF x_lines_of
  simp [hp]
theorem any3_eq (ps : List Pc) (ρ : Rho) : lcRun (gNm 2) tYes (xBin dEq (xFun (one dLen) (xCons (xLook 2) xNil)) (xC (.int 3))) [.no, .dat (.lst (ps.map ePc)), .no] (ps.map ePc) = .ok (ps.map fun p => D.bl ((fun p => !p.isLn) p)) := by
  refine lc_map ePc _ ps fun p hp => ?_
  cases p with
  | ln a b => exact ⟨_, rfl, by simp [ePc, Pc.isLn]⟩
  | bd a b c => exact ⟨_, rfl, by simp [ePc, Pc.isLn]⟩
theorem lines_eq (o : List Way) (h : OutOk o) : s_lines_of [eOut o] = if (pcs o).any (fun p => !p.isLn) = true then .err (.exc 0 []) else if 20 < (linesv o).length then .err (.exc 0 []) else .ok (.dat (.lst ((linesv o).map eSeg))) := by
  have hp := pieces_eq o h
  have hl : (pcs o).length ≤ 200 * o.length := pcs_tot (n := 199) o fun w hw => (h.ok w hw).few
  have hf := h.few
  have ln : Ln (pcs o).length := ⟨by omega⟩
  have e1 : ∀ x2 : Sl, lcRun (gNm 2) tYes (xBin dEq (xFun (one dLen) (xCons (xLook 2) xNil)) (xC (.int 3))) [.dat (eOut o), .dat (.lst ((pcs o).map ePc)), x2] ((pcs o).map ePc) = .ok ((pcs o).map fun p => D.bl ((fun p => !p.isLn) p)) := fun x2 => by
    refine lc_map ePc _ _ fun p hp => ?_
    cases p with
    | ln a b => exact ⟨_, rfl, by simp [ePc, Pc.isLn]⟩
    | bd a b c => exact ⟨_, rfl, by simp [ePc, Pc.isLn]⟩
  have e2 := any_map (fun p : Pc => !p.isLn) (pcs o)
  unfold s_lines_of runF x_lines_of
  by_cases hb : (pcs o).any (fun p => !p.isLn) = true
  · rw [if_pos hb]
    rw [hb] at e2
    simp [hp, ln, e1, e2]
  · rw [if_neg hb]
    have hb' : (pcs o).any (fun p => !p.isLn) = false := by simpa using hb
    rw [hb'] at e2
    have all : ∀ p ∈ pcs o, p.isLn = true := fun p hp => by
      cases z : p.isLn with
      | true => rfl
      | false =>
        exact absurd (List.any_eq_true.mpr ⟨p, hp, by rw [z]; rfl⟩) hb
    have e3 : ∀ x2 : Sl, lcRun (gNm 2) (tB (xBin dNe (xBin dIx (xBin dIx (xLook 2) (xC (.int 0))) (xC (.int 1))) (xBin dIx (xBin dIx (xLook 2) (xC (.int 1))) (xC (.int 1))))) (xVar 2) [.dat (eOut o), .dat (.lst ((pcs o).map ePc)), x2] ((pcs o).map ePc) = .ok (((pcs o).filter fun p => decide (p.beg.2 ≠ p.fin.2)).map ePc) := fun x2 => by
      refine lc_filter ePc ePc _ _ fun p hp => ?_
      have := all p hp
      cases p with
      | ln a b => exact ⟨_, rfl, by by_cases q : a.2 = b.2 <;> simp [ePc, ePt, Pc.beg, Pc.fin, q], fun _ => by simp⟩
      | bd a b c => cases this
    have e4 : ((pcs o).filter fun p => decide (p.beg.2 ≠ p.fin.2)).map ePc = (linesv o).map eSeg := by
      unfold linesv
      rw [List.filter_map, List.map_map]
      refine List.map_congr_left fun p hp => ?_
      exact seg_eq (all p (List.mem_filter.mp hp).1)
    rw [e4] at e3
    have ll : (linesv o).length ≤ (pcs o).length := by
      have := List.length_filter_le (fun l : Seg => decide (l.1.2 ≠ l.2.2)) ((pcs o).map Pc.seg)
      rw [List.length_map] at this
      exact this
    by_cases hm : 20 < (linesv o).length
    · rw [if_pos hm]
      have hm' : (20 : Int) < ((linesv o).length : Int) := by omega
      simp [hp, ln, e1, e2, e3, hm']
    · rw [if_neg hm]
      have hm' : ¬ (20 : Int) < ((linesv o).length : Int) := by omega
      simp [hp, ln, e1, e2, e3, hm']
/-! ### where two lines cross -/
def crossH (l k : Seg) : Option Pt :=
  let wx := l.2.1 - l.1.1
  let wy := l.2.2 - l.1.2
  let fx := k.2.1 - k.1.1
  let fy := k.2.2 - k.1.2
  let ox := k.1.1 - l.1.1
  let oy := k.1.2 - l.1.2
  let u := wx * fy - wy * fx
  let a := ox * fy - oy * fx
  let b := ox * wy - oy * wx
  if u = 0 then none
  else if u < 0 then (if (0 ≤ -a ∧ -a ≤ -u) ∧ 0 ≤ -b ∧ -b ≤ -u then some (fracv (l.1.2 * -u + -a * wy) (-u)) else none)
  else if (0 ≤ a ∧ a ≤ u) ∧ 0 ≤ b ∧ b ≤ u then some (fracv (l.1.2 * u + a * wy) u) else none
theorem ab_iff {i : Int} {n : Nat} : i.natAbs ≤ n ↔ -(n : Int) ≤ i ∧ i ≤ n := by omega
theorem sm_iv {i : Int} (h0 : -1000000000000000000 ≤ i) (h1 : i ≤ 1000000000000000000) : Sm i := sm_small (by omega)
theorem iv_mul {a b A B : Int} (h1 : -A ≤ a) (h2 : a ≤ A) (h3 : -B ≤ b) (h4 : b ≤ B) : -(A * B) ≤ a * b ∧ a * b ≤ A * B := by
  have h := ab_mul (a := a) (b := b) (A := A.toNat) (B := B.toNat) (by omega) (by omega)
  have e1 : (A.toNat : Int) = A := by omega
  have e2 : (B.toNat : Int) = B := by omega
  rw [ab_iff] at h
  have e3 : ((A.toNat * B.toNat : Nat) : Int) = A * B := by rw [Int.natCast_mul, e1, e2]
  rw [e3] at h
  exact h
theorem cross_height_eq {l k : Seg} (hl : l.bn 100000) (hk : k.bn 100000) : s_cross_height [eSeg l, eSeg k] = .ok (.dat ((crossH l k).elim .non ePt)) := by
  unfold s_cross_height runF x_cross_height crossH
  obtain ⟨⟨a, b⟩, c, d⟩ := l
  obtain ⟨⟨e, f⟩, g, h⟩ := k
  obtain ⟨⟨h1, h2⟩, h3, h4⟩ := hl
  obtain ⟨⟨h5, h6⟩, h7, h8⟩ := hk
  dsimp only at h1 h2 h3 h4 h5 h6 h7 h8 ⊢
  rw [ab_iff] at h1 h2 h3 h4 h5 h6 h7 h8
  have s1 : Sm (c - a) := sm_iv (by omega) (by omega)
  have s2 : Sm (d - b) := sm_iv (by omega) (by omega)
  have s3 : Sm (g - e) := sm_iv (by omega) (by omega)
  have s4 : Sm (h - f) := sm_iv (by omega) (by omega)
  have s5 : Sm (e - a) := sm_iv (by omega) (by omega)
  have s6 : Sm (f - b) := sm_iv (by omega) (by omega)
  have s7 : Sm b := sm_iv (by omega) (by omega)
  have u1 := iv_mul (a := c - a) (b := h - f) (A := 200000) (B := 200000) (by omega) (by omega) (by omega) (by omega)
  have u2 := iv_mul (a := d - b) (b := g - e) (A := 200000) (B := 200000) (by omega) (by omega) (by omega) (by omega)
  have u3 := iv_mul (a := e - a) (b := h - f) (A := 200000) (B := 200000) (by omega) (by omega) (by omega) (by omega)
  have u4 := iv_mul (a := f - b) (b := g - e) (A := 200000) (B := 200000) (by omega) (by omega) (by omega) (by omega)
  simp only [ePt, eSeg]
  generalize hu : (c - a) * (h - f) - (d - b) * (g - e) = u
  generalize hx : (e - a) * (h - f) - (f - b) * (g - e) = x
  generalize hy : (e - a) * (d - b) - (f - b) * (c - a) = y
  have iu : -80000000000 ≤ u ∧ u ≤ 80000000000 := by omega
  have ix : -80000000000 ≤ x ∧ x ≤ 80000000000 := by omega
  clear u1 u2 u3 u4 h1 h2 h3 h4 h5 h6 h7 h8
  have s8 : Sm u := sm_iv (by omega) (by omega)
  have s9 : Sm x := sm_iv (by omega) (by omega)
  have sa : Sm (-u) := sm_iv (by omega) (by omega)
  have sb : Sm (-x) := sm_iv (by omega) (by omega)
  have cp : u.natAbs ≤ cap := Nat.le_trans (show u.natAbs ≤ 80000000000 by omega) (by decide +kernel)
  by_cases c0 : u = 0
  · simp [s1, s2, s3, s4, s5, s6, hu, hx, hy, c0]
  by_cases c1 : u < 0
  · have fr := fraction_eq (t := b * -u + -x * (d - b)) (u := -u) (by omega) (by omega)
    by_cases c2 : (0 ≤ -x ∧ -x ≤ -u) ∧ 0 ≤ -y ∧ -y ≤ -u
    · obtain ⟨⟨d1, d2⟩, d3, d4⟩ := id c2
      rw [if_neg c0, if_pos c1, if_pos c2]
      simp only [ePt] at fr
      simp [-Int.neg_nonneg, -Int.neg_le_neg_iff, s1, s2, s3, s4, s5, s6, s7, sa, sb, hu, hx, hy, c0, c1, d1, d2, d3, d4, fr]
      rfl
    · rw [if_neg c0, if_pos c1, if_neg c2]
      by_cases d1 : 0 ≤ -x
      · by_cases d2 : -x ≤ -u
        · by_cases d3 : 0 ≤ -y
          · by_cases d4 : -y ≤ -u
            · exact absurd ⟨⟨d1, d2⟩, d3, d4⟩ c2
            · simp [-Int.neg_nonneg, -Int.neg_le_neg_iff, s1, s2, s3, s4, s5, s6, s7, sa, sb, hu, hx, hy, c0, c1, d1, d2, d3, d4]
          · simp [-Int.neg_nonneg, -Int.neg_le_neg_iff, s1, s2, s3, s4, s5, s6, s7, sa, sb, hu, hx, hy, c0, c1, d1, d2, d3]
        · simp [-Int.neg_nonneg, -Int.neg_le_neg_iff, s1, s2, s3, s4, s5, s6, s7, sa, sb, hu, hx, hy, c0, c1, d1, d2]
      · simp [-Int.neg_nonneg, -Int.neg_le_neg_iff, s1, s2, s3, s4, s5, s6, s7, sa, sb, hu, hx, hy, c0, c1, d1]
  · have fr := fraction_eq (t := b * u + x * (d - b)) (u := u) c0 cp
    rw [if_neg c0, if_neg c1]
    by_cases c2 : (0 ≤ x ∧ x ≤ u) ∧ 0 ≤ y ∧ y ≤ u
    · obtain ⟨⟨d1, d2⟩, d3, d4⟩ := id c2
      rw [if_pos c2]
      simp only [ePt] at fr
      simp [s1, s2, s3, s4, s5, s6, s7, s8, s9, hu, hx, hy, c0, c1, d1, d2, d3, d4, fr]
      rfl
    · rw [if_neg c2]
      by_cases d1 : 0 ≤ x
      · by_cases d2 : x ≤ u
        · by_cases d3 : 0 ≤ y
          · by_cases d4 : y ≤ u
            · exact absurd ⟨⟨d1, d2⟩, d3, d4⟩ c2
            · simp [s1, s2, s3, s4, s5, s6, s7, s8, s9, hu, hx, hy, c0, c1, d1, d2, d3, d4]
          · simp [s1, s2, s3, s4, s5, s6, s7, s8, s9, hu, hx, hy, c0, c1, d1, d2, d3]
        · simp [s1, s2, s3, s4, s5, s6, s7, s8, s9, hu, hx, hy, c0, c1, d1, d2]
      · simp [s1, s2, s3, s4, s5, s6, s7, s8, s9, hu, hx, hy, c0, c1, d1]
theorem cross_fb {l k : Seg} (hl : l.bn 100000) (hk : k.bn 100000) {f : Pt} (h : crossH l k = some f) : Fb 100000000000000000 f := by
  unfold crossH at h
  obtain ⟨⟨a, b⟩, c, d⟩ := l
  obtain ⟨⟨e, p⟩, g, q⟩ := k
  obtain ⟨⟨h1, h2⟩, h3, h4⟩ := hl
  obtain ⟨⟨h5, h6⟩, h7, h8⟩ := hk
  dsimp only at h1 h2 h3 h4 h5 h6 h7 h8 h
  rw [ab_iff] at h1 h2 h3 h4 h5 h6 h7 h8
  have u1 := iv_mul (a := c - a) (b := q - p) (A := 200000) (B := 200000) (by omega) (by omega) (by omega) (by omega)
  have u2 := iv_mul (a := d - b) (b := g - e) (A := 200000) (B := 200000) (by omega) (by omega) (by omega) (by omega)
  have u3 := iv_mul (a := e - a) (b := q - p) (A := 200000) (B := 200000) (by omega) (by omega) (by omega) (by omega)
  have u4 := iv_mul (a := p - b) (b := g - e) (A := 200000) (B := 200000) (by omega) (by omega) (by omega) (by omega)
  generalize hu : (c - a) * (q - p) - (d - b) * (g - e) = u at *
  generalize hx : (e - a) * (q - p) - (p - b) * (g - e) = x at *
  generalize hy : (e - a) * (d - b) - (p - b) * (c - a) = y at *
  have iu : -80000000000 ≤ u ∧ u ≤ 80000000000 := by omega
  have ix : -80000000000 ≤ x ∧ x ≤ 80000000000 := by omega
  have ib : -100000 ≤ b ∧ b ≤ 100000 := by omega
  have id' : -200000 ≤ d - b ∧ d - b ≤ 200000 := by omega
  clear u1 u2 u3 u4 h1 h2 h3 h4 h5 h6 h7 h8 hu hx hy
  split at h
  · cases h
  · rename_i c0
    have v1 := iv_mul (a := b) (b := -u) (A := 100000) (B := 80000000000) (by omega) (by omega) (by omega) (by omega)
    have v2 := iv_mul (a := -x) (b := d - b) (A := 80000000000) (B := 200000) (by omega) (by omega) (by omega) (by omega)
    have v3 := iv_mul (a := b) (b := u) (A := 100000) (B := 80000000000) (by omega) (by omega) (by omega) (by omega)
    have v4 := iv_mul (a := x) (b := d - b) (A := 80000000000) (B := 200000) (by omega) (by omega) (by omega) (by omega)
    have c3 : -u ≠ 0 := by omega
    have x1 : (b * -u + -x * (d - b)).natAbs ≤ 100000000000000000 := by omega
    have x2 : (b * u + x * (d - b)).natAbs ≤ 100000000000000000 := by omega
    have x3 : (-u).natAbs ≤ 100000000000000000 := by omega
    have x4 : u.natAbs ≤ 100000000000000000 := by omega
    have y1 := frac_fb c3 x1 x3
    have y2 := frac_fb c0 x2 x4
    split at h
    · split at h
      · rw [← Option.some.inj h]
        exact y1
      · cases h
    · split at h
      · rw [← Option.some.inj h]
        exact y2
      · cases h
/-- the heights at which lines end, or cross one another -/
def hts (ls : List Seg) : List Pt := (List.range ls.length).flatMap fun k => [((ls.getD k ((0, 0), 0, 0)).1.2, 1), ((ls.getD k ((0, 0), 0, 0)).2.2, 1)] ++ (ls.take k).filterMap (crossH (ls.getD k ((0, 0), 0, 0)))
theorem hts_fb {ls : List Seg} (h : ∀ l ∈ ls, l.bn 100000) : ∀ f ∈ hts ls, Fb 100000000000000000 f := fun f hf => by
  obtain ⟨k, hk, hf⟩ := List.mem_flatMap.mp hf
  have hk : k < ls.length := by simpa using hk
  have e : ls.getD k ((0, 0), 0, 0) = ls[k] := by simp [List.getD_eq_getElem?_getD, hk]
  rw [e] at hf
  have hl := h _ (List.getElem_mem hk)
  obtain ⟨⟨h1, h2⟩, h3, h4⟩ := hl
  rcases List.mem_append.mp hf with z | z
  · rcases List.mem_cons.mp z with rfl | z
    · exact ⟨by show (ls[k].1.2).natAbs ≤ _; omega, by show (0 : Int) < 1; omega, by show (1 : Int).natAbs ≤ _; omega⟩
    rcases List.mem_cons.mp z with rfl | z
    · exact ⟨by show (ls[k].2.2).natAbs ≤ _; omega, by show (0 : Int) < 1; omega, by show (1 : Int).natAbs ≤ _; omega⟩
    · cases z
  · obtain ⟨m, hm, e⟩ := List.mem_filterMap.mp z
    exact cross_fb ⟨⟨h1, h2⟩, h3, h4⟩ (h _ (List.mem_of_mem_take hm)) e
theorem cut_0 {α : Type} (xs : List α) (k : Nat) (h : k ≤ xs.length) : cutAt xs none (some (k : Int)) = xs.take k := by
  have e : (min (k : Int) (xs.length : Nat)).toNat = k := by omega
  have e1 : clipAt xs.length xs.length (some (k : Int)) = k := by
    show (if (k : Int) < 0 then (max ((k : Int) + (xs.length : Nat)) 0).toNat else (min (k : Int) (xs.length : Nat)).toNat) = k
    rw [if_neg (by omega), e]
  have e2 : clipAt xs.length 0 none = 0 := rfl
  unfold cutAt
  rw [e1, e2]
  simp
theorem heights_in (ls : List Seg) (h : ∀ l ∈ ls, l.bn 100000) (hl : ls.length ≤ 100) (k : Nat) (hk : k < ls.length) (z : List Pt) (hz : z.length ≤ 1000000) (t2 t3 t4 : Sl) :
    ∃ u3 u4, b_heights_2 [.dat (.lst (ls.map eSeg)), .own (z.map ePt), .dat (.int k), t3, t4] = .nx [.dat (.lst (ls.map eSeg)), .own ((z ++ ([(ls[k].1.2, 1), (ls[k].2.2, 1)] ++ (ls.take k).filterMap (crossH ls[k]))).map ePt), .dat (.int k), u3, u4] := by
  have gk : getAt (ls.map eSeg) (k : Int) = some (eSeg ls[k]) := by
    rw [getAt_ix (by simpa using hk)]
    simp
  have key : ∀ (r : List Seg) (y : List Pt) (t3 t4 : Sl), (∀ l ∈ r, l.bn 100000) → y.length + r.length ≤ 2000000 → ∃ u3 u4, forRun (gNm 3) b_heights_1 (r.map eSeg) [.dat (.lst (ls.map eSeg)), .own (y.map ePt), .dat (.int k), t3, t4] = .nx [.dat (.lst (ls.map eSeg)), .own ((y ++ r.filterMap (crossH ls[k])).map ePt), .dat (.int k), u3, u4] := fun r => by
    induction r with
    | nil => intro y t3 t4 _ _; exact ⟨t3, t4, by simp⟩
    | cons l r ih =>
      intro y t3 t4 hr hy
      rw [List.length_cons] at hy
      have ce := cross_height_eq (h _ (List.getElem_mem hk)) (hr l List.mem_cons_self)
      have ln : Ln y.length := ⟨by omega⟩
      cases hc : crossH ls[k] l with
      | none =>
        obtain ⟨u3, u4, e⟩ := ih y (.dat (eSeg l)) (.dat .non) (fun m hm => hr m (List.mem_cons_of_mem _ hm)) (by omega)
        refine ⟨u3, u4, ?_⟩
        rw [hc] at ce
        rw [List.map_cons, for_nx rfl (ρ2 := [.dat (.lst (ls.map eSeg)), .own (y.map ePt), .dat (.int k), .dat (eSeg l), .dat .non]) (by simp [b_heights_1, gk, ce]), e, List.filterMap_cons_none hc]
      | some f =>
        obtain ⟨u3, u4, e⟩ := ih (y ++ [f]) (.dat (eSeg l)) (.dat (ePt f)) (fun m hm => hr m (List.mem_cons_of_mem _ hm)) (by simp; omega)
        refine ⟨u3, u4, ?_⟩
        rw [hc] at ce
        rw [List.map_cons, for_nx rfl (ρ2 := [.dat (.lst (ls.map eSeg)), .own ((y ++ [f]).map ePt), .dat (.int k), .dat (eSeg l), .dat (ePt f)]) (by simp [b_heights_1, gk, ce, ePt, ln]), e, List.filterMap_cons_some hc]
        simp
  obtain ⟨u3, u4, e⟩ := key (ls.take k) (z ++ [(ls[k].1.2, 1), (ls[k].2.2, 1)]) t3 t4 (fun l hl => h l (List.mem_of_mem_take hl)) (by simp; omega)
  refine ⟨u3, u4, ?_⟩
  have ln : Ln (z.length + 2) := ⟨by omega⟩
  have ct : cutAt (ls.map eSeg) none (some (k : Int)) = (ls.take k).map eSeg := by
    rw [cut_0 _ _ (by simp; omega)]
    simp
  generalize ls[k] = s at *
  obtain ⟨⟨a, b⟩, c, d⟩ := s
  simp [ePt] at e
  simp [b_heights_2, gk, eSeg, ePt, ln, ct]
  exact e
theorem hts_len (ls : List Seg) (h : ls.length ≤ 100) : (hts ls).length ≤ ls.length * 102 := by
  unfold hts
  have : ∀ r : List Nat, (∀ k ∈ r, k < 100) → (r.flatMap fun k => [((ls.getD k ((0, 0), 0, 0)).1.2, (1 : Int)), ((ls.getD k ((0, 0), 0, 0)).2.2, 1)] ++ (ls.take k).filterMap (crossH (ls.getD k ((0, 0), 0, 0)))).length ≤ r.length * 102 := fun r => by
    induction r with
    | nil => intro _; simp
    | cons k r ih =>
      intro hr
      have h1 := ih fun m hm => hr m (List.mem_cons_of_mem _ hm)
      have h2 := hr k List.mem_cons_self
      have h3 := List.length_filterMap_le (crossH (ls.getD k ((0, 0), 0, 0))) (ls.take k)
      rw [List.length_take] at h3
      rw [List.flatMap_cons, List.length_append, List.length_append, List.length_cons]
      simp only [List.length_cons, List.length_nil]
      omega
  have := this (List.range ls.length) fun k hk => by
    have : k < ls.length := by simpa using hk
    omega
  simpa using this
theorem heights_eq (ls : List Seg) (h : ∀ l ∈ ls, l.bn 100000) (hl : ls.length ≤ 100) : s_heights [.lst (ls.map eSeg)] = .ok (.own ((ordv (hts ls)).map ePt)) := by
  unfold s_heights runF x_heights
  have key : ∀ (r : List Nat) (z : List Pt) (t2 t3 t4 : Sl), (∀ k ∈ r, k < ls.length) → z.length + 102 * r.length ≤ 1000000 → ∃ u2 u3 u4, forRun (gNm 2) b_heights_2 (r.map fun (k : Nat) => D.int (k : Int)) [.dat (.lst (ls.map eSeg)), .own (z.map ePt), t2, t3, t4]
      = .nx [.dat (.lst (ls.map eSeg)), .own ((z ++ r.flatMap fun k => [((ls.getD k ((0, 0), 0, 0)).1.2, (1 : Int)), ((ls.getD k ((0, 0), 0, 0)).2.2, 1)] ++ (ls.take k).filterMap (crossH (ls.getD k ((0, 0), 0, 0)))).map ePt), u2, u3, u4] := fun r => by
    induction r with
    | nil => intro z t2 t3 t4 _ _; exact ⟨t2, t3, t4, by simp⟩
    | cons k r ih =>
      intro z t2 t3 t4 hr hz
      rw [List.length_cons] at hz
      have hk := hr k List.mem_cons_self
      have e : ls.getD k ((0, 0), 0, 0) = ls[k] := by simp [List.getD_eq_getElem?_getD, hk]
      obtain ⟨u3, u4, e1⟩ := heights_in ls h hl k hk z (by omega) t2 t3 t4
      have h3 := List.length_filterMap_le (crossH ls[k]) (ls.take k)
      rw [List.length_take] at h3
      obtain ⟨v2, v3, v4, e2⟩ := ih (z ++ ([(ls[k].1.2, 1), (ls[k].2.2, 1)] ++ (ls.take k).filterMap (crossH ls[k]))) (.dat (.int k)) u3 u4 (fun m hm => hr m (List.mem_cons_of_mem _ hm)) (by
        simp only [List.length_append, List.length_cons, List.length_nil]
        omega)
      refine ⟨v2, v3, v4, ?_⟩
      rw [List.map_cons, for_nx rfl e1, e2, List.flatMap_cons, e]
      simp
  obtain ⟨u2, u3, u4, e⟩ := key (List.range ls.length) [] .no .no .no (fun k hk => by simpa using hk) (by simp; omega)
  have rg : RgN (ls.length : Int) := ⟨by omega, by omega⟩
  have hn := hts_len ls hl
  have io := in_order_eq (hts ls) (fun x hx => (hts_fb h x hx).mono (by decide +kernel)) (by omega)
  have e : forRun (gNm 2) b_heights_2 ((List.range ls.length).map fun (k : Nat) => D.int (k : Int)) [.dat (.lst (ls.map eSeg)), .own [], .no, .no, .no] = .nx [.dat (.lst (ls.map eSeg)), .own ((hts ls).map ePt), u2, u3, u4] := by
    have z : ([] : List Pt) ++ hts ls = hts ls := rfl
    exact e
  simp [rg, rng_n, e, io]
/-! ### where lines cross a height -/
def eCr (c : Pt × Int) : D := .tup [ePt c.1, .int c.2]
def crOne (h : Pt) (l : Seg) : Option (Pt × Int) :=
  let up : Int := if l.1.2 < l.2.2 then 1 else -1
  let low := if l.1.2 < l.2.2 then l.1 else l.2
  let high := if l.1.2 < l.2.2 then l.2 else l.1
  if lsv (low.2, 1) h ∧ lsv h (high.2, 1) then some (fracv (low.1 * ((high.2 - low.2) * h.2) + (high.1 - low.1) * (h.1 - low.2 * h.2)) ((high.2 - low.2) * h.2), up) else none
theorem cr_in (h : Pt) (B : Nat) (hh : Fb B h) (hB : B ≤ 100000000000000000000000000000000000) (lv : Sl) (l : Seg) (hl : l.bn 100000) (z : List (Pt × Int)) (hz : Ln z.length) (t3 t4 t5 t6 t7 t8 t9 : Sl) :
    ∃ u5 u6 u7 u8 u9, b_crossings_1 [lv, .dat (ePt h), .own (z.map eCr), .dat (ePt l.1), .dat (ePt l.2), t5, t6, t7, t8, t9] = .nx [lv, .dat (ePt h), .own ((z ++ (crOne h l).toList).map eCr), .dat (ePt l.1), .dat (ePt l.2), u5, u6, u7, u8, u9] := by
  have hc : Fb cap h := hh.mono (Nat.le_trans hB (by decide +kernel))
  obtain ⟨⟨h1, h2⟩, h3, h4⟩ := hl
  obtain ⟨⟨a, b⟩, c, d⟩ := l
  dsimp only at h1 h2 h3 h4
  rw [ab_iff] at h1 h2 h3 h4
  have one : ∀ n : Int, -100000 ≤ n → n ≤ 100000 → Fb cap (n, 1) := fun n h0 h1 => ⟨Nat.le_trans (show n.natAbs ≤ 100000 by omega) (by decide +kernel), by show (0 : Int) < 1; omega, Nat.le_trans (show (1 : Int).natAbs ≤ 1 by omega) (by decide +kernel)⟩
  have lb := less_eqB (one b (by omega) (by omega)) hc
  have lb2 := less_eqB hc (one b (by omega) (by omega))
  have ld := less_eqB (one d (by omega) (by omega)) hc
  have ld2 := less_eqB hc (one d (by omega) (by omega))
  have h5 := hh.n
  have h6 := hh.e
  have h7 := hh.d
  have w1 : ∀ p q : Int, -100000 ≤ p → p ≤ 100000 → -100000 ≤ q → q ≤ 100000 → Sm (p - q) := fun p q _ _ _ _ => sm_iv (by omega) (by omega)
  have w2 : ∀ p : Int, -100000 ≤ p → p ≤ 100000 → Sm p := fun p _ _ => sm_iv (by omega) (by omega)
  have w3 : ∀ p : Int, -100000 ≤ p → p ≤ 100000 → Sm (h.1 - p * h.2) := fun p p1 p2 => by
    have m := iv_mul (a := p) (b := h.2) (A := 100000) (B := B) p1 p2 (by omega) (by omega)
    exact sm_cap (Nat.le_trans (show (h.1 - p * h.2).natAbs ≤ 200000 * B by omega) (Nat.le_trans (Nat.mul_le_mul_left 200000 hB) (by decide +kernel)))
  have w4 : ∀ p q : Int, -100000 ≤ p → p ≤ 100000 → -100000 ≤ q → q ≤ 100000 → ((p - q) * h.2).natAbs ≤ cap := fun p q _ _ _ _ => by
    have m := iv_mul (a := p - q) (b := h.2) (A := 200000) (B := B) (by omega) (by omega) (by omega) (by omega)
    exact Nat.le_trans (show ((p - q) * h.2).natAbs ≤ 200000 * B by omega) (Nat.le_trans (Nat.mul_le_mul_left 200000 hB) (by decide +kernel))
  have s1 : Sm h.1 := sm_cap hc.n
  have s2 : Sm h.2 := sm_cap hc.e
  unfold crOne
  obtain ⟨h1', h2'⟩ := h
  dsimp only at h5 h6 h7 w3 w4 s1 s2 ⊢
  simp only [ePt] at lb lb2 ld ld2
  by_cases up : b < d
  · simp only [if_pos up]
    by_cases c1 : lsv (b, 1) (h1', h2')
    · by_cases c2 : lsv (h1', h2') (d, 1)
      · have u0 : 0 < (d - b) * h2' := Int.mul_pos (by omega) h7
        have fr := fraction_eq (t := a * ((d - b) * h2') + (c - a) * (h1' - b * h2')) (u := (d - b) * h2') (by omega) (w4 d b (by omega) (by omega) (by omega) (by omega))
        have x1 := w1 c a (by omega) (by omega) (by omega) (by omega)
        have x2 := w1 d b (by omega) (by omega) (by omega) (by omega)
        have x3 := w3 b (by omega) (by omega)
        have x4 := w2 b (by omega) (by omega)
        have x5 := w2 a (by omega) (by omega)
        have x6 : Sm ((d - b) * h2') := sm_cap (w4 d b (by omega) (by omega) (by omega) (by omega))
        simp only [ePt] at fr
        refine ⟨.dat (.int 1), .dat (ePt (a, b)), .dat (ePt (c, d)), .dat (.int ((c - a) * (h1' - b * h2'))), .dat (.int ((d - b) * h2')), ?_⟩
        simp [b_crossings_1, ePt, eCr, up, lb, ld2, c1, c2, x1, x2, x3, x4, x5, x6, s1, s2, fr, hz]
      · refine ⟨.dat (.int 1), .dat (ePt (a, b)), .dat (ePt (c, d)), t8, t9, ?_⟩
        simp [b_crossings_1, ePt, eCr, up, lb, ld2, c1, c2]
    · refine ⟨.dat (.int 1), .dat (ePt (a, b)), .dat (ePt (c, d)), t8, t9, ?_⟩
      simp [b_crossings_1, ePt, eCr, up, lb, c1]
  · simp only [if_neg up]
    by_cases c1 : lsv (d, 1) (h1', h2')
    · by_cases c2 : lsv (h1', h2') (b, 1)
      · have bd : d < b := by
          unfold lsv at c1 c2
          dsimp only at c1 c2
          have : d * h2' < b * h2' := by omega
          exact Int.lt_of_mul_lt_mul_right this (Int.le_of_lt h7)
        have u0 : 0 < (b - d) * h2' := Int.mul_pos (by omega) h7
        have fr := fraction_eq (t := c * ((b - d) * h2') + (a - c) * (h1' - d * h2')) (u := (b - d) * h2') (by omega) (w4 b d (by omega) (by omega) (by omega) (by omega))
        have x1 := w1 a c (by omega) (by omega) (by omega) (by omega)
        have x2 := w1 b d (by omega) (by omega) (by omega) (by omega)
        have x3 := w3 d (by omega) (by omega)
        have x4 := w2 d (by omega) (by omega)
        have x5 := w2 c (by omega) (by omega)
        have x6 : Sm ((b - d) * h2') := sm_cap (w4 b d (by omega) (by omega) (by omega) (by omega))
        simp only [ePt] at fr
        refine ⟨.dat (.int (-1)), .dat (ePt (c, d)), .dat (ePt (a, b)), .dat (.int ((a - c) * (h1' - d * h2'))), .dat (.int ((b - d) * h2')), ?_⟩
        simp [b_crossings_1, ePt, eCr, up, ld, lb2, c1, c2, x1, x2, x3, x4, x5, x6, s1, s2, fr, hz]
      · refine ⟨.dat (.int (-1)), .dat (ePt (c, d)), .dat (ePt (a, b)), t8, t9, ?_⟩
        simp [b_crossings_1, ePt, eCr, up, ld, lb2, c1, c2]
    · refine ⟨.dat (.int (-1)), .dat (ePt (c, d)), .dat (ePt (a, b)), t8, t9, ?_⟩
      simp [b_crossings_1, ePt, eCr, up, ld, c1]
def crs_at (ls : List Seg) (h : Pt) : List (Pt × Int) := ls.filterMap (crOne h)
theorem crossings_eq (ls : List Seg) (hl : ∀ l ∈ ls, l.bn 100000) (hn : ls.length ≤ 1000) (h : Pt) (B : Nat) (hh : Fb B h) (hB : B ≤ 100000000000000000000000000000000000) : s_crossings [.lst (ls.map eSeg), ePt h] = .ok (.own ((crs_at ls h).map eCr)) := by
  unfold s_crossings runF x_crossings crs_at
  have key : ∀ (r : List Seg) (z : List (Pt × Int)) (t3 t4 t5 t6 t7 t8 t9 : Sl), (∀ l ∈ r, l.bn 100000) → z.length + r.length ≤ 1000000 → ∃ u3 u4 u5 u6 u7 u8 u9, forRun (gTp (Gy.gCons (gNm 3) (Gy.gCons (gNm 4) gNil))) b_crossings_1 (r.map eSeg) [.dat (.lst (ls.map eSeg)), .dat (ePt h), .own (z.map eCr), t3, t4, t5, t6, t7, t8, t9]
      = .nx [.dat (.lst (ls.map eSeg)), .dat (ePt h), .own ((z ++ r.filterMap (crOne h)).map eCr), u3, u4, u5, u6, u7, u8, u9] := fun r => by
    induction r with
    | nil => intro z t3 t4 t5 t6 t7 t8 t9 _ _; exact ⟨t3, t4, t5, t6, t7, t8, t9, by simp⟩
    | cons l r ih =>
      intro z t3 t4 t5 t6 t7 t8 t9 hr hz
      rw [List.length_cons] at hz
      obtain ⟨u5, u6, u7, u8, u9, e1⟩ := cr_in h B hh hB (.dat (.lst (ls.map eSeg))) l (hr l List.mem_cons_self) z ⟨by omega⟩ t3 t4 t5 t6 t7 t8 t9
      have ol : (crOne h l).toList.length ≤ 1 := by cases crOne h l <;> simp
      obtain ⟨v3, v4, v5, v6, v7, v8, v9, e2⟩ := ih (z ++ (crOne h l).toList) (.dat (ePt l.1)) (.dat (ePt l.2)) u5 u6 u7 u8 u9 (fun m hm => hr m (List.mem_cons_of_mem _ hm)) (by rw [List.length_append]; omega)
      refine ⟨v3, v4, v5, v6, v7, v8, v9, ?_⟩
      rw [List.map_cons, for_nx rfl e1, e2]
      cases hc : crOne h l with
      | none => rw [List.filterMap_cons_none hc]; simp
      | some f => rw [List.filterMap_cons_some hc]; simp
  obtain ⟨u3, u4, u5, u6, u7, u8, u9, e⟩ := key ls [] .no .no .no .no .no .no .no hl (by simp; omega)
  simp at e ⊢
  rw [e]
  simp
end Gy

end

section
set_option Elab.async false
set_option linter.all false
set_option maxRecDepth 100000
set_option maxHeartbeats 1000000
/-! GyR3: plain lemmas about straight outlines: parting. -/
namespace Gy
open PySem
/-! ### what is filled -/
inductive Rule where
  | any | odd
def eRule : Rule → D
  | .any => .str w_616e79
  | .odd => .str w_6f6464
@[simp] theorem good_any : strGood w_616e79 = true := by decide +kernel
@[simp] theorem good_odd : strGood w_6f6464 = true := by decide +kernel
@[simp] theorem any_odd : (w_616e79 = w_6f6464) = False := eq_false (by decide)
@[simp] theorem odd_any : (w_6f6464 = w_616e79) = False := eq_false (by decide)
def Rule.fills (r : Rule) (many : Int) : Bool := match r with
  | .any => decide (many ≠ 0)
  | .odd => decide (many % 2 = 1)
/-- how often the way goes round a place, by crossings to the right of it -/
def manyAt (some : List (Pt × Int)) (place : Pt) : Int := ((some.filter fun c => decide (lsv place c.1)).map (·.2)).sum
theorem ints_map {α : Type} (f : α → Int) : ∀ l : List α, dInts (l.map fun a => D.int (f a)) = some (l.map f)
  | [] => rfl
  | a :: r => by
    rw [List.map_cons, dInts_c, ints_map f r]
    rfl
theorem filled3_eq (some : List (Pt × Int)) (hs : ∀ c ∈ some, Fb cap c.1) (hn : some.length ≤ 1000000) (place : Pt) (hp : Fb cap place) (r : Rule) : s_is_filled3 [.lst (some.map eCr), ePt place, eRule r] = .ok (.dat (.bl (r.fills (manyAt some place)))) := by
  unfold s_is_filled3 runF x_is_filled3
  have e1 : lcRun (gTp (Gy.gCons (gNm 4) (Gy.gCons (gNm 5) gNil))) (tB (xCall (atN 2 s_less) (xCons (xVar 1) (xCons (xVar 4) xNil)))) (xVar 5) [.dat (.lst (some.map eCr)), .dat (ePt place), .dat (eRule r), .no, .no, .no] (some.map eCr) = .ok ((some.filter fun c => decide (lsv place c.1)).map fun c => D.int c.2) := by
    refine lc_filter eCr (fun c => D.int c.2) _ _ fun c hc => ?_
    have le := less_eqB hp (hs c hc)
    obtain ⟨p, u⟩ := c
    refine ⟨_, rfl, ?_, fun _ => ?_⟩
    · simp at le
      simp [le]
    · simp
  have e2 := ints_map (fun c : Pt × Int => c.2) (some.filter fun c => decide (lsv place c.1))
  have ln : Ln some.length := ⟨by omega⟩
  have bs : bSum (.lst ((some.filter fun c => decide (lsv place c.1)).map fun c => D.int c.2)) = .ok (.int (manyAt some place)) := by
    rw [bSum_l, e2]
    rfl
  cases r with
  | any =>
    simp only [eRule] at e1 ⊢
    simp [ln, e1, bs, Rule.fills]
  | odd =>
    simp only [eRule] at e1 ⊢
    simp [ln, e1, bs, Rule.fills]
/-! ### parting -/
theorem cr_fb {h : Pt} {B : Nat} (hh : Fb B h) {l : Seg} (hl : l.bn 100000) {c : Pt × Int} (e : crOne h l = some c) : Fb (100000000000 * B) c.1 := by
  obtain ⟨⟨h1, h2⟩, h3, h4⟩ := hl
  obtain ⟨⟨a, b⟩, c', d⟩ := l
  dsimp only at h1 h2 h3 h4
  rw [ab_iff] at h1 h2 h3 h4
  have h5 := hh.n
  have h6 := hh.e
  have h7 := hh.d
  obtain ⟨x, y⟩ := h
  dsimp only at h5 h6 h7
  rw [ab_iff] at h5
  have key : ∀ p q r s : Int, -100000 ≤ p → p ≤ 100000 → -100000 ≤ q → q ≤ 100000 → -100000 ≤ r → r ≤ 100000 → -100000 ≤ s → s ≤ 100000 → q < s →
      Fb (100000000000 * B) (fracv (p * ((s - q) * y) + (r - p) * (x - q * y)) ((s - q) * y)) := fun p q r s p1 p2 q1 q2 r1 r2 s1 s2 qs => by
    have m1 := iv_mul (a := s - q) (b := y) (A := 200000) (B := B) (by omega) (by omega) (by omega) (by omega)
    have m2 := iv_mul (a := q) (b := y) (A := 100000) (B := B) (by omega) (by omega) (by omega) (by omega)
    have u0 : 0 < (s - q) * y := Int.mul_pos (by omega) h7
    generalize (s - q) * y = u at *
    generalize q * y = v at *
    have m3 := iv_mul (a := p) (b := u) (A := 100000) (B := 200000 * B) (by omega) (by omega) (by omega) (by omega)
    have m4 := iv_mul (a := r - p) (b := x - v) (A := 200000) (B := 200000 * B) (by omega) (by omega) (by omega) (by omega)
    generalize p * u = w at *
    generalize (r - p) * (x - v) = z at *
    exact frac_fb (by omega) (by omega) (by omega)
  unfold crOne at e
  dsimp only at e
  by_cases up : b < d
  · simp only [if_pos up] at e
    split at e
    · cases e
      exact key a b c' d h1.1 h1.2 h2.1 h2.2 h3.1 h3.2 h4.1 h4.2 up
    · cases e
  · simp only [if_neg up] at e
    split at e
    · rename_i hh
      obtain ⟨c1, c2⟩ := hh
      have bd : d < b := by
        unfold lsv at c1 c2
        dsimp only at c1 c2
        have : d * y < b * y := by omega
        exact Int.lt_of_mul_lt_mul_right this (Int.le_of_lt h7)
      cases e
      exact key c' d a b h3.1 h3.2 h4.1 h4.2 h1.1 h1.2 h2.1 h2.2 bd
    · cases e
def pt0 : Pt := (0, 1)
/-- a place of a height where just one is filled -/
def partIn (r : Rule) (c0 c1 : List (Pt × Int)) (pl : List Pt) : Option Pt := (List.range (pl.length - 1)).findSome? fun j =>
  let place := btw (pl.getD j pt0) (pl.getD (j + 1) pt0)
  if r.fills (manyAt c0 place) ≠ r.fills (manyAt c1 place) then some place else none
def placesAt (l0 l1 : List Seg) (h : Pt) : List Pt := ordv ((crs_at l0 h ++ crs_at l1 h).map (·.1))
def stepsOf (o p : List Way) : List Pt := ordv (ordv (hts (linesv o ++ linesv p)) ++ (((pcs o ++ pcs p).map Pc.seg).filter fun l => decide (l.1.2 = l.2.2)).map fun l => (l.1.2, 1))
def partv (o p : List Way) (r : Rule) : Option (Pt × Pt) := (List.range ((stepsOf o p).length - 1)).findSome? fun k =>
  let h := btw ((stepsOf o p).getD k pt0) ((stepsOf o p).getD (k + 1) pt0)
  (partIn r (crs_at (linesv o) h) (crs_at (linesv p) h) (placesAt (linesv o) (linesv p) h)).map fun place => (place, h)
theorem range_ne {α : Type} {xs : List α} {d : α} {j : Nat} (h : j ∈ List.range (xs.length - 1)) : j < xs.length ∧ j + 1 < xs.length := by
  have : j < xs.length - 1 := by simpa using h
  omega
theorem rg_m1 {α : Type} (xs : List α) (h : xs.length ≤ 1000000) : RgN ((xs.length : Int) - 1) ∧ rng 0 ((xs.length : Int) - 1).toNat = (List.range (xs.length - 1)).map fun (i : Nat) => D.int (i : Int) := by
  refine ⟨⟨by omega, by omega⟩, ?_⟩
  have e : ((xs.length : Int) - 1).toNat = xs.length - 1 := by omega
  rw [e, rng_n]
theorem getD_at {xs : List Pt} {j : Nat} (h : j < xs.length) : getAt (xs.map ePt) (j : Int) = some (ePt (xs.getD j pt0)) ∧ xs.getD j pt0 ∈ xs := by
  have e : xs.getD j pt0 = xs[j] := by simp [List.getD_eq_getElem?_getD, h]
  rw [e]
  refine ⟨?_, List.getElem_mem h⟩
  rw [getAt_ix (by simpa using h)]
  simp
theorem part_in (r : Rule) (a0 a1 a3 a4 a5 a6 a7 : Sl) (c0 c1 : List (Pt × Int)) (h0 : ∀ c ∈ c0, Fb cap c.1) (h1 : ∀ c ∈ c1, Fb cap c.1) (n0 : c0.length ≤ 1000000) (n1 : c1.length ≤ 1000000) (ht : Pt) (pl : List Pt) (B : Nat) (hp : ∀ x ∈ pl, Fb B x) (hB : B ≤ cap) (hB2 : 2 * B * B ≤ cap) (hn : pl.length ≤ 1000000) (t10 t11 t12 t13 t14 : Sl) :
    match partIn r c0 c1 pl with
    | none => ∃ u10 u11, forRun (gNm 10) b_parting_1 (rng 0 ((pl.length : Int) - 1).toNat) [a0, a1, .dat (eRule r), a3, a4, a5, a6, .dat (ePt ht), .dat (.lst [.lst (c0.map eCr), .lst (c1.map eCr)]), .dat (.lst (pl.map ePt)), t10, t11, t12, t13, t14]
        = .nx [a0, a1, .dat (eRule r), a3, a4, a5, a6, .dat (ePt ht), .dat (.lst [.lst (c0.map eCr), .lst (c1.map eCr)]), .dat (.lst (pl.map ePt)), u10, u11, t12, t13, t14]
    | some place => forRun (gNm 10) b_parting_1 (rng 0 ((pl.length : Int) - 1).toNat) [a0, a1, .dat (eRule r), a3, a4, a5, a6, .dat (ePt ht), .dat (.lst [.lst (c0.map eCr), .lst (c1.map eCr)]), .dat (.lst (pl.map ePt)), t10, t11, t12, t13, t14]
        = .rt (.dat (.tup [ePt place, ePt ht])) := by
  have fnd := for_find (g := gNm 10) (s := b_parting_1) (fun (k : Nat) => D.int (k : Int)) (fun ρ => ∃ u10 u11, ρ = [a0, a1, .dat (eRule r), a3, a4, a5, a6, .dat (ePt ht), .dat (.lst [.lst (c0.map eCr), .lst (c1.map eCr)]), .dat (.lst (pl.map ePt)), u10, u11, t12, t13, t14])
    (fun j => (if r.fills (manyAt c0 (btw (pl.getD j pt0) (pl.getD (j + 1) pt0))) ≠ r.fills (manyAt c1 (btw (pl.getD j pt0) (pl.getD (j + 1) pt0))) then some (btw (pl.getD j pt0) (pl.getD (j + 1) pt0)) else none).map fun place => Sl.dat (.tup [ePt place, ePt ht]))
    (List.range (pl.length - 1)) [a0, a1, .dat (eRule r), a3, a4, a5, a6, .dat (ePt ht), .dat (.lst [.lst (c0.map eCr), .lst (c1.map eCr)]), .dat (.lst (pl.map ePt)), t10, t11, t12, t13, t14] ⟨_, _, rfl⟩ (by
    rintro ρ j hj ⟨u10, u11, rfl⟩
    obtain ⟨j1, j2⟩ := range_ne (d := pt0) hj
    obtain ⟨g1, m1⟩ := getD_at j1
    obtain ⟨g2, m2⟩ := getD_at j2
    have be := between_eq (hp _ m1) (hp _ m2) hB hB hB2
    have pf := (btw_fb (hp _ m1) (hp _ m2)).mono hB2
    generalize pl.getD j pt0 = p1 at *
    generalize pl.getD (j + 1) pt0 = p2 at *
    generalize btw p1 p2 = place at *
    have f0 := filled3_eq c0 h0 n0 place pf r
    have f1 := filled3_eq c1 h1 n1 place pf r
    refine ⟨[a0, a1, .dat (eRule r), a3, a4, a5, a6, .dat (ePt ht), .dat (.lst [.lst (c0.map eCr), .lst (c1.map eCr)]), .dat (.lst (pl.map ePt)), .dat (.int j), u11, t12, t13, t14], rfl, ?_⟩
    have g2 : getAt (pl.map ePt) ((j : Int) + 1) = _ := g2
    by_cases c : r.fills (manyAt c0 place) = r.fills (manyAt c1 place)
    · have e : (if r.fills (manyAt c0 place) ≠ r.fills (manyAt c1 place) then some place else none) = none := by simp [c]
      rw [e]
      refine ⟨[a0, a1, .dat (eRule r), a3, a4, a5, a6, .dat (ePt ht), .dat (.lst [.lst (c0.map eCr), .lst (c1.map eCr)]), .dat (.lst (pl.map ePt)), .dat (.int j), .dat (ePt place), t12, t13, t14], ?_, _, _, rfl⟩
      simp [b_parting_1, g1, g2, be, f0, f1, c]
    · have e : (if r.fills (manyAt c0 place) ≠ r.fills (manyAt c1 place) then some place else none) = some place := by simp [c]
      rw [e]
      show b_parting_1 _ = .rt (.dat (.tup [ePt place, ePt ht]))
      simp [b_parting_1, g1, g2, be, f0, f1, c])
  have e0 := (rg_m1 pl hn).2
  rw [e0]
  have e1 : ∀ l : List Nat, (l.findSome? fun j => (if r.fills (manyAt c0 (btw (pl.getD j pt0) (pl.getD (j + 1) pt0))) ≠ r.fills (manyAt c1 (btw (pl.getD j pt0) (pl.getD (j + 1) pt0))) then some (btw (pl.getD j pt0) (pl.getD (j + 1) pt0)) else none).map fun place => Sl.dat (.tup [ePt place, ePt ht]))
      = (l.findSome? fun j => if r.fills (manyAt c0 (btw (pl.getD j pt0) (pl.getD (j + 1) pt0))) ≠ r.fills (manyAt c1 (btw (pl.getD j pt0) (pl.getD (j + 1) pt0))) then some (btw (pl.getD j pt0) (pl.getD (j + 1) pt0)) else none).map fun place => Sl.dat (.tup [ePt place, ePt ht]) := fun l => by
    induction l with
    | nil => rfl
    | cons j l ih =>
      rw [List.findSome?_cons, List.findSome?_cons]
      split
      · rename_i h
        obtain ⟨p, hp, rfl⟩ := Option.map_eq_some_iff.mp h
        rw [hp]
        rfl
      · rename_i h
        rw [Option.map_eq_none_iff.mp h]
        exact ih
  rw [e1] at fnd
  have e2 : partIn r c0 c1 pl = ((List.range (pl.length - 1)).findSome? fun j => if r.fills (manyAt c0 (btw (pl.getD j pt0) (pl.getD (j + 1) pt0))) ≠ r.fills (manyAt c1 (btw (pl.getD j pt0) (pl.getD (j + 1) pt0))) then some (btw (pl.getD j pt0) (pl.getD (j + 1) pt0)) else none) := rfl
  rw [← e2] at fnd
  cases hv : partIn r c0 c1 pl with
  | none =>
    rw [hv] at fnd
    obtain ⟨ρ', e3, u10, u11, rfl⟩ := fnd
    exact ⟨u10, u11, e3⟩
  | some place =>
    rw [hv] at fnd
    exact fnd
theorem crs_fb {ls : List Seg} (hl : ∀ l ∈ ls, l.bn 100000) {h : Pt} {B : Nat} (hh : Fb B h) : ∀ c ∈ crs_at ls h, Fb (100000000000 * B) c.1 := fun c hc => by
  obtain ⟨l, hm, e⟩ := List.mem_filterMap.mp hc
  exact cr_fb hh (hl l hm) e
theorem crs_len (ls : List Seg) (h : Pt) : (crs_at ls h).length ≤ ls.length := List.length_filterMap_le _ _
abbrev HB : Nat := 100000000000000000
theorem step_in (r : Rule) (a0 a1 a4 : Sl) (l0 l1 : List Seg) (h0 : ∀ l ∈ l0, l.bn 100000) (h1 : ∀ l ∈ l1, l.bn 100000) (n0 : l0.length ≤ 1000) (n1 : l1.length ≤ 1000) (st : List Pt) (hs : ∀ x ∈ st, Fb HB x) (hn : st.length ≤ 1000000) (k : Nat) (hk : k ∈ List.range (st.length - 1)) (t7 t8 t9 t10 t11 : Sl) :
    match (partIn r (crs_at l0 (btw (st.getD k pt0) (st.getD (k + 1) pt0))) (crs_at l1 (btw (st.getD k pt0) (st.getD (k + 1) pt0))) (placesAt l0 l1 (btw (st.getD k pt0) (st.getD (k + 1) pt0)))).map fun place => (place, btw (st.getD k pt0) (st.getD (k + 1) pt0)) with
    | none => ∃ u7 u8 u9 u10 u11, b_parting_2 [a0, a1, .dat (eRule r), .dat (.lst [.lst (l0.map eSeg), .lst (l1.map eSeg)]), a4, .dat (.lst (st.map ePt)), .dat (.int k), t7, t8, t9, t10, t11, .no, .no, .no]
        = .nx [a0, a1, .dat (eRule r), .dat (.lst [.lst (l0.map eSeg), .lst (l1.map eSeg)]), a4, .dat (.lst (st.map ePt)), .dat (.int k), u7, u8, u9, u10, u11, .no, .no, .no]
    | some q => b_parting_2 [a0, a1, .dat (eRule r), .dat (.lst [.lst (l0.map eSeg), .lst (l1.map eSeg)]), a4, .dat (.lst (st.map ePt)), .dat (.int k), t7, t8, t9, t10, t11, .no, .no, .no]
        = .rt (.dat (.tup [ePt q.1, ePt q.2])) := by
  obtain ⟨j1, j2⟩ := range_ne (d := pt0) hk
  obtain ⟨g1, m1⟩ := getD_at j1
  obtain ⟨g2, m2⟩ := getD_at j2
  have be := between_eq (hs _ m1) (hs _ m2) (by decide +kernel) (by decide +kernel) (by decide +kernel)
  have hb := btw_fb (hs _ m1) (hs _ m2)
  generalize st.getD k pt0 = p1 at *
  generalize st.getD (k + 1) pt0 = p2 at *
  generalize btw p1 p2 = h at *
  have hb : Fb 20000000000000000000000000000000000 h := hb
  have ce0 := crossings_eq l0 h0 n0 h _ hb (by decide +kernel)
  have ce1 := crossings_eq l1 h1 n1 h _ hb (by decide +kernel)
  have f0 := crs_fb h0 hb
  have f1 := crs_fb h1 hb
  have m0 := crs_len l0 h
  have m1 := crs_len l1 h
  have fp : ∀ x ∈ (crs_at l0 h ++ crs_at l1 h).map (·.1), Fb (100000000000 * 20000000000000000000000000000000000) x := fun x hx => by
    obtain ⟨c, hc, rfl⟩ := List.mem_map.mp hx
    rcases List.mem_append.mp hc with hc | hc
    · exact f0 c hc
    · exact f1 c hc
  have io := in_order_eq ((crs_at l0 h ++ crs_at l1 h).map (·.1)) (fun x hx => (fp x hx).mono (by decide +kernel)) (by simp; omega)
  have pl : placesAt l0 l1 h = ordv ((crs_at l0 h ++ crs_at l1 h).map (·.1)) := rfl
  have fo : ∀ x ∈ placesAt l0 l1 h, Fb (100000000000 * 20000000000000000000000000000000000) x := fun x hx => fp x (mem_ordv hx)
  have lo := ordv_len ((crs_at l0 h ++ crs_at l1 h).map (·.1))
  rw [← pl] at io lo
  have pi := part_in r a0 a1 (.dat (.lst [.lst (l0.map eSeg), .lst (l1.map eSeg)])) a4 (.dat (.lst (st.map ePt))) (.dat (.int k)) .no (crs_at l0 h) (crs_at l1 h) (fun c hc => (f0 c hc).mono (by decide +kernel)) (fun c hc => (f1 c hc).mono (by decide +kernel)) (by omega) (by omega) h (placesAt l0 l1 h) _ fo (by decide +kernel) (by decide +kernel) (by simp at lo; omega) t10 t11 .no .no .no
  have rg := (rg_m1 (placesAt l0 l1 h) (by simp at lo; omega)).1
  generalize placesAt l0 l1 h = pls at *
  generalize crs_at l0 h = c0 at *
  generalize crs_at l1 h = c1 at *
  have cp : ∀ ρ : Rho, ρ = [a0, a1, .dat (eRule r), .dat (.lst [.lst (l0.map eSeg), .lst (l1.map eSeg)]), a4, .dat (.lst (st.map ePt)), .dat (.int k), .dat (ePt h), .dat (.lst [.lst (c0.map eCr), .lst (c1.map eCr)]), t9, t10, .no, .no, .no, .no] →
      lcRun (gTp (Gy.gCons (gNm 11) (Gy.gCons (gNm 14) gNil))) tYes (xVar 11) ρ ((c0 ++ c1).map eCr) = .ok (((c0 ++ c1).map (·.1)).map ePt) := fun ρ hρ => by
    rw [lc_map eCr (fun c => ePt c.1), List.map_map]
    · rfl
    · rintro ⟨p, u⟩ hc
      subst hρ
      exact ⟨_, rfl, by simp⟩
  have cp := cp _ rfl
  have g2 : getAt (st.map ePt) ((k : Int) + 1) = _ := g2
  have ln : Ln (c0.length + c1.length) := ⟨by omega⟩
  simp at cp io
  have tn : ((pls.length : Int) - 1).toNat = pls.length - 1 := by omega
  rw [tn] at pi
  cases hv : partIn r c0 c1 pls with
  | none =>
    rw [hv] at pi
    obtain ⟨u10, u11, e⟩ := pi
    refine ⟨.dat (ePt h), .dat (.lst [.lst (c0.map eCr), .lst (c1.map eCr)]), .dat (.lst (pls.map ePt)), u10, u11, ?_⟩
    simp [b_parting_2, g1, g2, be, ce0, ce1, ln, cp, io, rg, e]
  | some place =>
    rw [hv] at pi
    have e : forRun (gNm 10) b_parting_1 (rng 0 (pls.length - 1)) _ = _ := pi
    show b_parting_2 _ = .rt (.dat (.tup [ePt place, ePt h]))
    simp [b_parting_2, g1, g2, be, ce0, ce1, ln, cp, io, rg, e]
theorem hseg_bn {o : List Way} (h : OutOk o) : ∀ l ∈ (pcs o).map Pc.seg, l.bn 100000 := fun l hl => by
  obtain ⟨p, hp, rfl⟩ := List.mem_map.mp hl
  obtain ⟨w, hw, hp⟩ := List.mem_flatMap.mp hp
  have := bn_pcs (ok_bn (h.ok w hw)) p hp
  exact ⟨bn_beg this, by
    have z := bn_flip this
    have := bn_beg z
    rw [flip_beg] at this
    exact this⟩
theorem hline_bn {o : List Way} (h : OutOk o) : ∀ l ∈ linesv o, l.bn 100000 := fun l hl => hseg_bn h l (List.mem_filter.mp hl).1
theorem parting_eq (o p : List Way) (ho : OutOk o) (hp : OutOk p) (so : (pcs o).any (fun p => !p.isLn) = false) (sp : (pcs p).any (fun p => !p.isLn) = false) (no : ¬ 20 < (linesv o).length) (np : ¬ 20 < (linesv p).length) (r : Rule) :
    s_parting [eOut o, eOut p, eRule r] = .ok (.dat ((partv o p r).elim .non fun q => .tup [ePt q.1, ePt q.2])) := by
  have lo := lines_eq o ho
  rw [so, if_neg Bool.false_ne_true, if_neg no] at lo
  have lp := lines_eq p hp
  rw [sp, if_neg Bool.false_ne_true, if_neg np] at lp
  have po := pieces_eq o ho
  have pp := pieces_eq p hp
  have bo := hline_bn ho
  have bp := hline_bn hp
  have ll : (linesv o ++ linesv p).length ≤ 40 := by rw [List.length_append]; omega
  have hb : ∀ l ∈ linesv o ++ linesv p, l.bn 100000 := fun l hl => by
    rcases List.mem_append.mp hl with hl | hl
    · exact bo l hl
    · exact bp l hl
  have he := heights_eq (linesv o ++ linesv p) hb (by omega)
  have hl1 : (pcs o).length ≤ 200 * o.length := pcs_tot (n := 199) o fun w hw => (ho.ok w hw).few
  have hl2 : (pcs p).length ≤ 200 * p.length := pcs_tot (n := 199) p fun w hw => (hp.ok w hw).few
  have hf1 := ho.few
  have hf2 := hp.few
  have lnp : Ln ((pcs o).length + (pcs p).length) := ⟨by omega⟩
  have all : ∀ q ∈ pcs o ++ pcs p, q.isLn = true := fun q hq => by
    have z : ∀ (l : List Pc), l.any (fun p => !p.isLn) = false → q ∈ l → q.isLn = true := fun l hl hq => by
      have := List.any_eq_false.mp hl q hq
      simpa using this
    rcases List.mem_append.mp hq with hq | hq
    · exact z _ so hq
    · exact z _ sp hq
  have lv : ∀ t4 t5 : Sl, lcRun (gNm 12) (tB (xBin dEq (xBin dIx (xBin dIx (xLook 12) (xC (.int 0))) (xC (.int 1))) (xBin dIx (xBin dIx (xLook 12) (xC (.int 1))) (xC (.int 1))))) (xTup (xCons (xBin dIx (xBin dIx (xLook 12) (xC (.int 0))) (xC (.int 1))) (xCons (xC (.int 1)) xNil)))
      [.dat (eOut o), .dat (eOut p), .dat (eRule r), .dat (.lst [.lst ((linesv o).map eSeg), .lst ((linesv p).map eSeg)]), .no, .no, .no, .no, .no, .no, .no, .no, .no, .no, .no] ((pcs o).map ePc ++ (pcs p).map ePc)
      = .ok (((((pcs o ++ pcs p).map Pc.seg).filter fun l => decide (l.1.2 = l.2.2)).map fun l => (l.1.2, (1 : Int))).map ePt) := fun t4 t5 => by
    rw [← List.map_append, lc_filter ePc (fun q => ePt (q.seg.1.2, 1)) (fun q => decide (q.seg.1.2 = q.seg.2.2))]
    · rw [List.map_map, List.filter_map, List.map_map]
      rfl
    · intro q hq
      have := all q hq
      cases q with
      | ln a b => exact ⟨_, rfl, by by_cases q : a.2 = b.2 <;> simp [ePc, ePt, Pc.seg, Pc.beg, Pc.fin, q], fun _ => by simp [ePc, ePt, Pc.seg, Pc.beg]⟩
      | bd a b c => cases this
  have lv := lv .no .no
  have so' : stepsOf o p = ordv (ordv (hts (linesv o ++ linesv p)) ++ (((pcs o ++ pcs p).map Pc.seg).filter fun l => decide (l.1.2 = l.2.2)).map fun l => (l.1.2, 1)) := rfl
  have fl : ∀ x ∈ (((pcs o ++ pcs p).map Pc.seg).filter fun l => decide (l.1.2 = l.2.2)).map fun l => (l.1.2, (1 : Int)), Fb HB x := fun x hx => by
    obtain ⟨l, hl, rfl⟩ := List.mem_map.mp hx
    have hl := (List.mem_filter.mp hl).1
    rw [List.map_append] at hl
    have hbn : l.bn 100000 := by
      rcases List.mem_append.mp hl with hl | hl
      · exact hseg_bn ho l hl
      · exact hseg_bn hp l hl
    exact ⟨Nat.le_trans hbn.1.2 (by decide), by show (0 : Int) < 1; omega, by show (1 : Int).natAbs ≤ HB; decide⟩
  have ol := ordv_len (hts (linesv o ++ linesv p))
  have hn := hts_len (linesv o ++ linesv p) (by omega)
  have lvl : ((((pcs o ++ pcs p).map Pc.seg).filter fun l => decide (l.1.2 = l.2.2)).map fun l => (l.1.2, (1 : Int))).length ≤ (pcs o ++ pcs p).length := by
    rw [List.length_map]
    have := List.length_filter_le (fun l : Seg => decide (l.1.2 = l.2.2)) ((pcs o ++ pcs p).map Pc.seg)
    rw [List.length_map] at this
    exact this
  rw [List.length_append] at lvl
  have fa : ∀ x ∈ ordv (hts (linesv o ++ linesv p)) ++ (((pcs o ++ pcs p).map Pc.seg).filter fun l => decide (l.1.2 = l.2.2)).map fun l => (l.1.2, (1 : Int)), Fb HB x := fun x hx => by
    rcases List.mem_append.mp hx with hx | hx
    · exact hts_fb hb x (mem_ordv hx)
    · exact fl x hx
  have io := in_order_eq _ (fun x hx => (fa x hx).mono (by decide +kernel)) (by rw [List.length_append]; omega)
  have sl := ordv_len (ordv (hts (linesv o ++ linesv p)) ++ (((pcs o ++ pcs p).map Pc.seg).filter fun l => decide (l.1.2 = l.2.2)).map fun l => (l.1.2, 1))
  have sf : ∀ x ∈ stepsOf o p, Fb HB x := fun x hx => fa x (mem_ordv hx)
  rw [← so'] at io sl
  rw [List.length_append] at sl
  have ln2 : Ln ((ordv (hts (linesv o ++ linesv p))).length + ((((pcs o ++ pcs p).map Pc.seg).filter fun l => decide (l.1.2 = l.2.2)).map fun l => (l.1.2, (1 : Int))).length) := ⟨by omega⟩
  have rg := (rg_m1 (stepsOf o p) (by omega)).1
  have fnd := for_find (g := gNm 6) (s := b_parting_2) (fun (k : Nat) => D.int (k : Int)) (fun ρ => ∃ u6 u7 u8 u9 u10 u11, ρ = [.dat (eOut o), .dat (eOut p), .dat (eRule r), .dat (.lst [.lst ((linesv o).map eSeg), .lst ((linesv p).map eSeg)]), .dat (.lst (((((pcs o ++ pcs p).map Pc.seg).filter fun l => decide (l.1.2 = l.2.2)).map fun l => (l.1.2, (1 : Int))).map ePt)), .dat (.lst ((stepsOf o p).map ePt)), u6, u7, u8, u9, u10, u11, .no, .no, .no])
    (fun k => ((partIn r (crs_at (linesv o) (btw ((stepsOf o p).getD k pt0) ((stepsOf o p).getD (k + 1) pt0))) (crs_at (linesv p) (btw ((stepsOf o p).getD k pt0) ((stepsOf o p).getD (k + 1) pt0))) (placesAt (linesv o) (linesv p) (btw ((stepsOf o p).getD k pt0) ((stepsOf o p).getD (k + 1) pt0)))).map fun place => (place, btw ((stepsOf o p).getD k pt0) ((stepsOf o p).getD (k + 1) pt0))).map fun q => Sl.dat (.tup [ePt q.1, ePt q.2]))
    (List.range ((stepsOf o p).length - 1)) [.dat (eOut o), .dat (eOut p), .dat (eRule r), .dat (.lst [.lst ((linesv o).map eSeg), .lst ((linesv p).map eSeg)]), .dat (.lst (((((pcs o ++ pcs p).map Pc.seg).filter fun l => decide (l.1.2 = l.2.2)).map fun l => (l.1.2, (1 : Int))).map ePt)), .dat (.lst ((stepsOf o p).map ePt)), .no, .no, .no, .no, .no, .no, .no, .no, .no] ⟨_, _, _, _, _, _, rfl⟩ (by
    rintro ρ k hk ⟨u6, u7, u8, u9, u10, u11, rfl⟩
    have si := step_in r (.dat (eOut o)) (.dat (eOut p)) (.dat (.lst (((((pcs o ++ pcs p).map Pc.seg).filter fun l => decide (l.1.2 = l.2.2)).map fun l => (l.1.2, (1 : Int))).map ePt))) (linesv o) (linesv p) bo bp (by omega) (by omega) (stepsOf o p) sf (by omega) k hk u7 u8 u9 u10 u11
    refine ⟨_, rfl, ?_⟩
    split at si
    · rename_i hv
      rw [hv]
      obtain ⟨v7, v8, v9, v10, v11, e⟩ := si
      exact ⟨_, e, _, _, _, _, _, _, rfl⟩
    · rename_i q hv
      rw [hv]
      exact si)
  have e1 : ∀ (f : Nat → Option (Pt × Pt)) (l : List Nat), (l.findSome? fun k => (f k).map fun q => Sl.dat (.tup [ePt q.1, ePt q.2])) = (l.findSome? f).map fun q => Sl.dat (.tup [ePt q.1, ePt q.2]) := fun f l => by
    induction l with
    | nil => rfl
    | cons j l ih =>
      rw [List.findSome?_cons, List.findSome?_cons]
      cases hf : f j with
      | none => exact ih
      | some q => rfl
  rw [e1] at fnd
  have e2 : partv o p r = ((List.range ((stepsOf o p).length - 1)).findSome? fun k => (partIn r (crs_at (linesv o) (btw ((stepsOf o p).getD k pt0) ((stepsOf o p).getD (k + 1) pt0))) (crs_at (linesv p) (btw ((stepsOf o p).getD k pt0) ((stepsOf o p).getD (k + 1) pt0))) (placesAt (linesv o) (linesv p) (btw ((stepsOf o p).getD k pt0) ((stepsOf o p).getD (k + 1) pt0)))).map fun place => (place, btw ((stepsOf o p).getD k pt0) ((stepsOf o p).getD (k + 1) pt0))) := rfl
  rw [← e2] at fnd
  have tn : ((stepsOf o p).length : Int) - 1 = ((stepsOf o p).length : Int) - 1 := rfl
  have e0 := (rg_m1 (stepsOf o p) (by omega)).2
  have tn : (((stepsOf o p).length : Int) - 1).toNat = (stepsOf o p).length - 1 := by omega
  rw [tn] at e0
  rw [← e0] at fnd
  unfold s_parting runF x_parting
  generalize (((pcs o ++ pcs p).map Pc.seg).filter fun l => decide (l.1.2 = l.2.2)).map (fun l => (l.1.2, (1 : Int))) = level at *
  generalize stepsOf o p = steps at *
  generalize ordv (hts (linesv o ++ linesv p)) = hs at *
  have ln3 : Ln ((linesv o).length + (linesv p).length) := ⟨by omega⟩
  simp only [List.map_append] at he io
  cases hv : partv o p r with
  | none =>
    rw [hv] at fnd
    obtain ⟨ρ', e, u6, u7, u8, u9, u10, u11, rfl⟩ := fnd
    simp [lo, lp, po, pp, lnp, lv, he, ln2, ln3, io, rg, e]
  | some q =>
    rw [hv] at fnd
    have e : forRun (gNm 6) b_parting_2 (rng 0 (steps.length - 1)) _ = .rt (.dat (.tup [ePt q.1, ePt q.2])) := fnd
    simp [lo, lp, po, pp, lnp, lv, he, ln2, ln3, io, rg, e]
end Gy

end

section
set_option Elab.async false
set_option linter.all false
set_option maxRecDepth 100000
set_option maxHeartbeats 2000000
/-! GyPa: plain: that parting finds a point wherever two straight outlines differ; fractions as rationals. -/
namespace Gy
open PySem
/-! ### fractions -/
def val (f : Pt) : Rat := (f.1 : Rat) / (f.2 : Rat)
theorem cpos {i : Int} (h : 0 < i) : (0 : Rat) < (i : Rat) := Rat.intCast_pos.mpr h
theorem cne {i : Int} (h : i ≠ 0) : (i : Rat) ≠ 0 := fun z => h (Rat.intCast_eq_zero_iff.mp z)
theorem clt {i j : Int} : (i : Rat) < (j : Rat) ↔ i < j := Rat.intCast_lt_intCast
theorem cle {i j : Int} : (i : Rat) ≤ (j : Rat) ↔ i ≤ j := Rat.intCast_le_intCast
theorem val_mul {f : Pt} (hf : 0 < f.2) : val f * (f.2 : Rat) = (f.1 : Rat) := Rat.div_mul_cancel (Rat.ne_of_gt (cpos hf))
theorem div_eq {a b c : Rat} (hb : b ≠ 0) (h : a = c * b) : a / b = c := by rw [h, Rat.mul_div_cancel hb]
theorem lsv_val {f g : Pt} (hf : 0 < f.2) (hg : 0 < g.2) : lsv f g ↔ val f < val g := by
  unfold lsv val
  rw [Rat.div_lt_iff (cpos hf)]
  have e : (g.1 : Rat) / (g.2 : Rat) * (f.2 : Rat) = ((g.1 : Rat) * (f.2 : Rat)) / (g.2 : Rat) := by
    rw [Rat.div_def, Rat.div_def, Rat.mul_assoc, Rat.mul_assoc, Rat.mul_comm (g.2 : Rat)⁻¹]
  rw [e, Rat.lt_div_iff (cpos hg), ← Rat.intCast_mul, ← Rat.intCast_mul, clt]
theorem val_of {f : Pt} {t u : Int} (hf : 0 < f.2) (hu : u ≠ 0) (h : f.1 * u = t * f.2) : val f = (t : Rat) / (u : Rat) := by
  have h1 := val_mul hf
  have h2 : (f.1 : Rat) * (u : Rat) = (t : Rat) * (f.2 : Rat) := by rw [← Rat.intCast_mul, ← Rat.intCast_mul, h]
  symm
  refine div_eq (cne hu) ?_
  have hfp := cpos hf
  refine Rat.le_antisymm ?_ ?_
  · refine Rat.le_of_mul_le_mul_right (c := (f.2 : Rat)) ?_ hfp
    grind
  · refine Rat.le_of_mul_le_mul_right (c := (f.2 : Rat)) ?_ hfp
    grind
theorem val_frac {t u : Int} (hu : u ≠ 0) : val (fracv t u) = (t : Rat) / (u : Rat) := by
  obtain ⟨h1, h2, _⟩ := frac_ok (t := t) hu
  exact val_of h1 hu h2
theorem val_int (n : Int) : val (n, 1) = (n : Rat) := by
  unfold val
  exact div_eq (by show ((1 : Int) : Rat) ≠ 0; decide) (by show (n : Rat) = n * ((1 : Int) : Rat); grind)
theorem val_btw {f g : Pt} (hf : 0 < f.2) (hg : 0 < g.2) : val (btw f g) = (val f + val g) / 2 := by
  unfold btw
  have hu := btw_u hf hg
  rw [val_frac (by omega)]
  refine div_eq (cne (by omega)) ?_
  have h1 := val_mul hf
  have h2 := val_mul hg
  have e1 : ((f.1 * g.2 + g.1 * f.2 : Int) : Rat) = (f.1 : Rat) * (g.2 : Rat) + (g.1 : Rat) * (f.2 : Rat) := by grind
  have e2 : ((2 * f.2 * g.2 : Int) : Rat) = 2 * (f.2 : Rat) * (g.2 : Rat) := by grind
  rw [e1, e2, ← h1, ← h2]
  grind
theorem btw_pos {f g : Pt} (hf : 0 < f.2) (hg : 0 < g.2) : 0 < (btw f g).2 := by
  have hu := btw_u hf hg
  exact (frac_ok (by omega)).1
theorem mid_lt {a b : Rat} (h : a < b) : a < (a + b) / 2 ∧ (a + b) / 2 < b := by
  constructor
  · rw [Rat.lt_div_iff (by decide)]; grind
  · rw [Rat.div_lt_iff (by decide)]; grind
/-! ### in order -/
def Pos (l : List Pt) : Prop := ∀ x ∈ l, 0 < x.2
def Srt (l : List Pt) : Prop := l.Pairwise fun a b => val a < val b
theorem ins_srt {x : Pt} (hx : 0 < x.2) : ∀ {z : List Pt}, Pos z → Srt z → Srt (insv x z)
  | [], _, _ => List.pairwise_singleton _ _
  | y :: r, hp, hs => by
    have hy := hp y List.mem_cons_self
    have hr : Pos r := fun w hw => hp w (List.mem_cons_of_mem _ hw)
    obtain ⟨s1, s2⟩ := List.pairwise_cons.mp hs
    unfold insv
    by_cases h : lsv y x
    · rw [if_pos h]
      refine List.pairwise_cons.mpr ⟨fun w hw => ?_, ins_srt hx hr s2⟩
      rcases mem_insv hw with rfl | hw
      · exact (lsv_val hy hx).mp h
      · exact s1 w hw
    · rw [if_neg h]
      by_cases g : lsv x y
      · rw [if_pos g]
        have gv := (lsv_val hx hy).mp g
        refine List.pairwise_cons.mpr ⟨fun w hw => ?_, hs⟩
        rcases List.mem_cons.mp hw with rfl | hw
        · exact gv
        · have := s1 w hw
          grind
      · rw [if_neg g]
        exact hs
theorem ins_has {x : Pt} (hx : 0 < x.2) : ∀ {z : List Pt}, Pos z → (∃ w ∈ insv x z, val w = val x) ∧ ∀ y ∈ z, y ∈ insv x z
  | [], _ => ⟨⟨x, by simp [insv], rfl⟩, fun y hy => (by cases hy)⟩
  | y :: r, hp => by
    have hy := hp y List.mem_cons_self
    have hr : Pos r := fun w hw => hp w (List.mem_cons_of_mem _ hw)
    unfold insv
    by_cases h : lsv y x
    · rw [if_pos h]
      obtain ⟨⟨w, hw, e⟩, h2⟩ := ins_has hx hr
      refine ⟨⟨w, List.mem_cons_of_mem _ hw, e⟩, fun v hv => ?_⟩
      rcases List.mem_cons.mp hv with rfl | hv
      · exact List.mem_cons_self
      · exact List.mem_cons_of_mem _ (h2 v hv)
    · rw [if_neg h]
      by_cases g : lsv x y
      · rw [if_pos g]
        exact ⟨⟨x, List.mem_cons_self, rfl⟩, fun v hv => List.mem_cons_of_mem _ hv⟩
      · rw [if_neg g]
        refine ⟨⟨y, List.mem_cons_self, ?_⟩, fun v hv => hv⟩
        rw [lsv_val hy hx] at h
        rw [lsv_val hx hy] at g
        grind
theorem ord_fold : ∀ (l z : List Pt), Pos l → Pos z → Srt z → Srt (l.foldl (fun z x => insv x z) z) ∧ (∀ x, x ∈ z ∨ x ∈ l → ∃ w ∈ l.foldl (fun z x => insv x z) z, val w = val x)
  | [], z, _, _, hs => ⟨hs, fun x hx => ⟨x, hx.resolve_right (fun h => by cases h), rfl⟩⟩
  | a :: l, z, hl, hz, hs => by
    have ha := hl a List.mem_cons_self
    have hl' : Pos l := fun w hw => hl w (List.mem_cons_of_mem _ hw)
    have hz' : Pos (insv a z) := fun w hw => by
      rcases mem_insv hw with rfl | hw
      · exact ha
      · exact hz w hw
    obtain ⟨h1, h2⟩ := ord_fold l (insv a z) hl' hz' (ins_srt ha hz hs)
    obtain ⟨⟨w, hw, ew⟩, i2⟩ := ins_has ha hz
    rw [List.foldl_cons]
    refine ⟨h1, fun x hx => ?_⟩
    rcases hx with hx | hx
    · exact h2 x (.inl (i2 x hx))
    · rcases List.mem_cons.mp hx with rfl | hx
      · obtain ⟨v, hv, ev⟩ := h2 w (.inl hw)
        exact ⟨v, hv, ev.trans ew⟩
      · exact h2 x (.inr hx)
theorem ord_srt {l : List Pt} (h : Pos l) : Srt (ordv l) := (ord_fold l [] h (fun x hx => by cases hx) List.Pairwise.nil).1
theorem ord_has {l : List Pt} (h : Pos l) {x : Pt} (hx : x ∈ l) : ∃ w ∈ ordv l, val w = val x := (ord_fold l [] h (fun x hx => by cases hx) List.Pairwise.nil).2 x (.inr hx)
theorem ord_pos {l : List Pt} (h : Pos l) : Pos (ordv l) := fun x hx => h x (mem_ordv hx)
theorem srt_get {S : List Pt} (hs : Srt S) {i j : Nat} (hij : i < j) (hj : j < S.length) : val (S[i]'(by omega)) < val S[j] := List.pairwise_iff_getElem.mp hs i j (by omega) hj hij
theorem getD_eq {S : List Pt} {j : Nat} (h : j < S.length) : S.getD j pt0 = S[j] := by simp [h]
/-- nothing of a list in order lies between two next to one another -/
theorem srt_gap {S : List Pt} (hs : Srt S) {k : Nat} (hk : k + 1 < S.length) {w : Pt} (hw : w ∈ S) : val w ≤ val (S.getD k pt0) ∨ val (S.getD (k + 1) pt0) ≤ val w := by
  rw [getD_eq (by omega), getD_eq hk]
  obtain ⟨i, hi, rfl⟩ := List.getElem_of_mem hw
  rcases Nat.lt_trichotomy i k with h | h | h
  · exact .inl (Rat.le_of_lt (srt_get hs h (by omega)))
  · subst h
    exact .inl Rat.le_refl
  · by_cases e : i = k + 1
    · subst e
      exact .inr Rat.le_refl
    · exact .inr (Rat.le_of_lt (srt_get hs (show k + 1 < i by omega) hi))
/-- where a value lies in a list in order -/
theorem srt_find (Y : Rat) : ∀ {S : List Pt}, Srt S → (∃ a ∈ S, val a ≤ Y) → (∃ b ∈ S, Y < val b) → ∃ k, k + 1 < S.length ∧ val (S.getD k pt0) ≤ Y ∧ Y < val (S.getD (k + 1) pt0)
  | [], _, ⟨a, ha, _⟩, _ => by cases ha
  | [x], _, ⟨a, ha, h1⟩, ⟨b, hb, h2⟩ => by
    have : a = x := by simpa using ha
    have : b = x := by simpa using hb
    subst a b
    grind
  | x :: y :: r, hs, ⟨a, ha, h1⟩, ⟨b, hb, h2⟩ => by
    obtain ⟨s1, s2⟩ := List.pairwise_cons.mp hs
    have hxy := s1 y List.mem_cons_self
    by_cases c : val y ≤ Y
    · have hb' : b ∈ y :: r := by
        rcases List.mem_cons.mp hb with rfl | hb
        · grind
        · exact hb
      obtain ⟨k, hk, k1, k2⟩ := srt_find Y s2 ⟨y, List.mem_cons_self, c⟩ ⟨b, hb', h2⟩
      refine ⟨k + 1, by simpa using hk, ?_, ?_⟩
      · simpa using k1
      · simpa using k2
    · refine ⟨0, by simp, ?_, ?_⟩
      · show val x ≤ Y
        rcases List.mem_cons.mp ha with rfl | ha
        · exact h1
        · have := s1 a ha
          grind
      · show Y < val y
        grind
theorem max_of {α : Type} (f : α → Rat) : ∀ (l : List α), l ≠ [] → ∃ a ∈ l, ∀ b ∈ l, f b ≤ f a
  | [], h => absurd rfl h
  | [x], _ => ⟨x, List.mem_cons_self, fun b hb => by
    have : b = x := by simpa using hb
    subst this
    exact Rat.le_refl⟩
  | x :: y :: r, _ => by
    obtain ⟨a, ha, h⟩ := max_of f (y :: r) (by simp)
    by_cases c : f x ≤ f a
    · refine ⟨a, List.mem_cons_of_mem _ ha, fun b hb => ?_⟩
      rcases List.mem_cons.mp hb with rfl | hb
      · exact c
      · exact h b hb
    · refine ⟨x, List.mem_cons_self, fun b hb => ?_⟩
      rcases List.mem_cons.mp hb with rfl | hb
      · exact Rat.le_refl
      · have := h b hb
        grind
/-! ### lines -/
/-- a line's place at a height -/
def xAt (l : Seg) (h : Rat) : Rat := (l.1.1 : Rat) + ((l.2.1 : Rat) - l.1.1) * ((h - l.1.2) / ((l.2.2 : Rat) - l.1.2))
/-- what a line counts for a point -/
def ctb (l : Seg) (X Y : Rat) : Int := open Classical in
  if l.1.2 < l.2.2 then (if (l.1.2 : Rat) ≤ Y ∧ Y < (l.2.2 : Rat) ∧ X < xAt l Y then 1 else 0)
  else if l.2.2 < l.1.2 then (if (l.2.2 : Rat) ≤ Y ∧ Y < (l.1.2 : Rat) ∧ X < xAt l Y then -1 else 0) else 0
noncomputable def wF (ls : List Seg) (X Y : Rat) : Int := (ls.map fun l => ctb l X Y).sum
/-- a line that goes over a height, its lower end on it or not -/
def act (l : Seg) (Y : Rat) : Prop := ((l.1.2 : Rat) ≤ Y ∧ Y < (l.2.2 : Rat)) ∨ ((l.2.2 : Rat) ≤ Y ∧ Y < (l.1.2 : Rat))
def actC (l : Seg) (Y : Rat) : Prop := ((l.1.2 : Rat) ≤ Y ∧ Y ≤ (l.2.2 : Rat)) ∨ ((l.2.2 : Rat) ≤ Y ∧ Y ≤ (l.1.2 : Rat))
theorem ctb_no {l : Seg} {X Y : Rat} (h : ¬ act l Y) : ctb l X Y = 0 := by
  unfold ctb
  unfold act at h
  split
  · rw [if_neg (fun z => h (.inl ⟨z.1, z.2.1⟩))]
  · split
    · rw [if_neg (fun z => h (.inr ⟨z.1, z.2.1⟩))]
    · rfl
theorem ctb_left {l : Seg} {X Y : Rat} (h : ¬ X < xAt l Y) : ctb l X Y = 0 := by
  unfold ctb
  split
  · rw [if_neg (fun z => h z.2.2)]
  · split
    · rw [if_neg (fun z => h z.2.2)]
    · rfl
/-- it counts alike where it goes over both heights and lies right of both points, or of none -/
theorem ctb_same {l : Seg} {X Y X' Y' : Rat} (ha : act l Y ↔ act l Y') (hx : act l Y → (X < xAt l Y ↔ X' < xAt l Y')) : ctb l X Y = ctb l X' Y' := by
  by_cases c : act l Y
  · have c' := ha.mp c
    have hx := hx c
    by_cases d : X < xAt l Y
    · have d' := hx.mp d
      unfold ctb
      unfold act at c c'
      by_cases u : l.1.2 < l.2.2
      · have ur := clt.mpr u
        rw [if_pos u, if_pos u, if_pos ⟨by grind, by grind, d⟩, if_pos ⟨by grind, by grind, d'⟩]
      · by_cases v : l.2.2 < l.1.2
        · have vr := clt.mpr v
          rw [if_neg u, if_neg u, if_pos v, if_pos v, if_pos ⟨by grind, by grind, d⟩, if_pos ⟨by grind, by grind, d'⟩]
        · rw [if_neg u, if_neg u, if_neg v, if_neg v]
    · rw [ctb_left d, ctb_left (fun z => d (hx.mpr z))]
  · rw [ctb_no c, ctb_no (fun z => c (ha.mpr z))]
theorem wF_same {ls : List Seg} {X Y X' Y' : Rat} (ha : ∀ l ∈ ls, act l Y ↔ act l Y') (hx : ∀ l ∈ ls, act l Y → (X < xAt l Y ↔ X' < xAt l Y')) : wF ls X Y = wF ls X' Y' := by
  unfold wF
  rw [List.map_congr_left fun l hl => ctb_same (ha l hl) (hx l hl)]
theorem wF_zero {ls : List Seg} {X Y : Rat} (h : ∀ l ∈ ls, act l Y → ¬ X < xAt l Y) : wF ls X Y = 0 := by
  unfold wF
  have : ls.map (fun l => ctb l X Y) = ls.map fun _ => (0 : Int) := List.map_congr_left fun l hl => by
    by_cases c : act l Y
    · exact ctb_left (h l hl c)
    · exact ctb_no c
  rw [this]
  clear this h
  induction ls with
  | nil => rfl
  | cons a r ih => rw [List.map_cons, List.sum_cons, ih]; rfl
theorem flat_no {l : Seg} (h : l.1.2 = l.2.2) (Y : Rat) : ¬ act l Y := by
  unfold act
  rw [h]
  grind
/-! ### where two lines cross -/
theorem dif_ne {l : Seg} (h : l.1.2 ≠ l.2.2) : ((l.2.2 : Rat) - l.1.2) ≠ 0 := fun z => h (by
  have : (l.2.2 : Rat) = (l.1.2 : Rat) := by grind
  exact (Rat.intCast_inj.mp this).symm)
/-- a line's time at a height -/
def tAt (l : Seg) (h : Rat) : Rat := (h - l.1.2) / ((l.2.2 : Rat) - l.1.2)
theorem tAt_mul {l : Seg} (h : l.1.2 ≠ l.2.2) (c : Rat) : tAt l c * ((l.2.2 : Rat) - l.1.2) = c - l.1.2 := Rat.div_mul_cancel (dif_ne h)
theorem tAt_in {l : Seg} (h : l.1.2 ≠ l.2.2) {c : Rat} (ha : actC l c) : 0 ≤ tAt l c ∧ tAt l c ≤ 1 := by
  have e := tAt_mul h c
  unfold actC at ha
  rcases Int.lt_or_gt_of_ne h with g | g
  · have gr := clt.mpr g
    have p : (0 : Rat) < (l.2.2 : Rat) - l.1.2 := by grind
    constructor
    · refine Rat.le_of_mul_le_mul_right (c := (l.2.2 : Rat) - l.1.2) ?_ p
      rw [e]; grind
    · refine Rat.le_of_mul_le_mul_right (c := (l.2.2 : Rat) - l.1.2) ?_ p
      rw [e]; grind
  · have gr := clt.mpr g
    have p : (0 : Rat) < (l.1.2 : Rat) - l.2.2 := by grind
    constructor
    · refine Rat.le_of_mul_le_mul_right (c := (l.1.2 : Rat) - l.2.2) ?_ p
      have : tAt l c * ((l.1.2 : Rat) - l.2.2) = l.1.2 - c := by grind
      rw [this]; grind
    · refine Rat.le_of_mul_le_mul_right (c := (l.1.2 : Rat) - l.2.2) ?_ p
      have : tAt l c * ((l.1.2 : Rat) - l.2.2) = l.1.2 - c := by grind
      rw [this]; grind
theorem xAt_t (l : Seg) (c : Rat) : xAt l c = (l.1.1 : Rat) + ((l.2.1 : Rat) - l.1.1) * tAt l c := rfl
theorem cross_of {l k : Seg} (hl : l.1.2 ≠ l.2.2) (hk : k.1.2 ≠ k.2.2) {c : Rat} (al : actC l c) (ak : actC k c) (hx : xAt l c = xAt k c) (hu : (l.2.1 - l.1.1) * (k.2.2 - k.1.2) - (l.2.2 - l.1.2) * (k.2.1 - k.1.1) ≠ 0) :
    ∃ f, crossH l k = some f ∧ 0 < f.2 ∧ val f = c := by
  have t := tAt_in hl al
  have s := tAt_in hk ak
  have et := tAt_mul hl c
  have es := tAt_mul hk c
  rw [xAt_t, xAt_t] at hx
  generalize tAt l c = T at *
  generalize tAt k c = S at *
  have hA : (((k.1.1 - l.1.1) * (k.2.2 - k.1.2) - (k.1.2 - l.1.2) * (k.2.1 - k.1.1) : Int) : Rat) = T * (((l.2.1 - l.1.1) * (k.2.2 - k.1.2) - (l.2.2 - l.1.2) * (k.2.1 - k.1.1) : Int) : Rat) := by
    have e1 : (((k.1.1 - l.1.1) * (k.2.2 - k.1.2) - (k.1.2 - l.1.2) * (k.2.1 - k.1.1) : Int) : Rat) = ((k.1.1 : Rat) - l.1.1) * ((k.2.2 : Rat) - k.1.2) - ((k.1.2 : Rat) - l.1.2) * ((k.2.1 : Rat) - k.1.1) := by grind
    have e2 : (((l.2.1 - l.1.1) * (k.2.2 - k.1.2) - (l.2.2 - l.1.2) * (k.2.1 - k.1.1) : Int) : Rat) = ((l.2.1 : Rat) - l.1.1) * ((k.2.2 : Rat) - k.1.2) - ((l.2.2 : Rat) - l.1.2) * ((k.2.1 : Rat) - k.1.1) := by grind
    rw [e1, e2]
    have o1 : (k.1.1 : Rat) - l.1.1 = ((l.2.1 : Rat) - l.1.1) * T - ((k.2.1 : Rat) - k.1.1) * S := by grind
    have o2 : (k.1.2 : Rat) - l.1.2 = T * ((l.2.2 : Rat) - l.1.2) - S * ((k.2.2 : Rat) - k.1.2) := by grind
    rw [o1, o2]
    grind
  have hB : (((k.1.1 - l.1.1) * (l.2.2 - l.1.2) - (k.1.2 - l.1.2) * (l.2.1 - l.1.1) : Int) : Rat) = S * (((l.2.1 - l.1.1) * (k.2.2 - k.1.2) - (l.2.2 - l.1.2) * (k.2.1 - k.1.1) : Int) : Rat) := by
    have e1 : (((k.1.1 - l.1.1) * (l.2.2 - l.1.2) - (k.1.2 - l.1.2) * (l.2.1 - l.1.1) : Int) : Rat) = ((k.1.1 : Rat) - l.1.1) * ((l.2.2 : Rat) - l.1.2) - ((k.1.2 : Rat) - l.1.2) * ((l.2.1 : Rat) - l.1.1) := by grind
    have e2 : (((l.2.1 - l.1.1) * (k.2.2 - k.1.2) - (l.2.2 - l.1.2) * (k.2.1 - k.1.1) : Int) : Rat) = ((l.2.1 : Rat) - l.1.1) * ((k.2.2 : Rat) - k.1.2) - ((l.2.2 : Rat) - l.1.2) * ((k.2.1 : Rat) - k.1.1) := by grind
    rw [e1, e2]
    have o1 : (k.1.1 : Rat) - l.1.1 = ((l.2.1 : Rat) - l.1.1) * T - ((k.2.1 : Rat) - k.1.1) * S := by grind
    have o2 : (k.1.2 : Rat) - l.1.2 = T * ((l.2.2 : Rat) - l.1.2) - S * ((k.2.2 : Rat) - k.1.2) := by grind
    rw [o1, o2]
    grind
  have ec : (l.1.2 : Rat) + T * ((l.2.2 : Rat) - l.1.2) = c := by grind
  unfold crossH
  dsimp only
  generalize (l.2.1 - l.1.1) * (k.2.2 - k.1.2) - (l.2.2 - l.1.2) * (k.2.1 - k.1.1) = u at *
  generalize (k.1.1 - l.1.1) * (k.2.2 - k.1.2) - (k.1.2 - l.1.2) * (k.2.1 - k.1.1) = a at *
  generalize (k.1.1 - l.1.1) * (l.2.2 - l.1.2) - (k.1.2 - l.1.2) * (l.2.1 - l.1.1) = b at *
  have inn : ∀ {w a : Int} {T : Rat}, 0 < w → (a : Rat) = T * (w : Rat) → 0 ≤ T ∧ T ≤ 1 → 0 ≤ a ∧ a ≤ w := fun {w a T} hw e h => by
    have hw' := cpos hw
    constructor
    · refine cle.mp ?_
      rw [e]
      exact Rat.mul_nonneg h.1 (Rat.le_of_lt hw')
    · refine cle.mp ?_
      rw [e]
      have := Rat.mul_le_mul_of_nonneg_right h.2 (Rat.le_of_lt hw')
      grind
  rw [if_neg hu]
  by_cases c1 : u < 0
  · rw [if_pos c1]
    have hw : 0 < -u := by omega
    have ha := inn (a := -a) (T := T) hw (by grind) t
    have hb := inn (a := -b) (T := S) hw (by grind) s
    rw [if_pos ⟨ha, hb⟩]
    refine ⟨_, rfl, (frac_ok (by omega)).1, ?_⟩
    rw [val_frac (by omega)]
    refine div_eq (cne (by omega)) ?_
    grind
  · rw [if_neg c1]
    have hw : 0 < u := by omega
    have ha := inn (a := a) (T := T) hw hA t
    have hb := inn (a := b) (T := S) hw hB s
    rw [if_pos ⟨ha, hb⟩]
    refine ⟨_, rfl, (frac_ok hu).1, ?_⟩
    rw [val_frac hu]
    refine div_eq (cne hu) ?_
    grind
/-! ### the order of lines between steps -/
def slp (l : Seg) : Rat := ((l.2.1 : Rat) - l.1.1) / ((l.2.2 : Rat) - l.1.2)
theorem xAt_lin (l : Seg) (a b : Rat) : xAt l b = xAt l a + slp l * (b - a) := by
  unfold xAt slp
  rw [Rat.div_def, Rat.div_def, Rat.div_def]
  grind
theorem slp_mul {l : Seg} (h : l.1.2 ≠ l.2.2) : slp l * ((l.2.2 : Rat) - l.1.2) = (l.2.1 : Rat) - l.1.1 := Rat.div_mul_cancel (dif_ne h)
theorem neg_div {b z : Rat} (hb : b < 0) (h : b * z ≤ 0) : 0 ≤ z := by
  refine Rat.le_of_mul_le_mul_left (c := -b) ?_ (by grind)
  grind
theorem pos_div {b z : Rat} (hb : 0 < b) (h : b * z ≤ 0) : z ≤ 0 := by
  refine Rat.le_of_mul_le_mul_left (c := b) ?_ hb
  grind
/-- two lines that change their order between two heights meet between -/
theorem meet {l k : Seg} (hl : l.1.2 ≠ l.2.2) (hk : k.1.2 ≠ k.2.2) {Y H : Rat} (h1 : xAt k Y < xAt l Y) (h2 : xAt l H ≤ xAt k H) :
    ∃ c, ((Y < c ∧ c ≤ H) ∨ (H ≤ c ∧ c < Y)) ∧ xAt l c = xAt k c ∧ (l.2.1 - l.1.1) * (k.2.2 - k.1.2) - (l.2.2 - l.1.2) * (k.2.1 - k.1.1) ≠ 0 := by
  have e1 := xAt_lin l Y H
  have e2 := xAt_lin k Y H
  have m1 := slp_mul hl
  have m2 := slp_mul hk
  have hb : slp l - slp k ≠ 0 := fun z => by
    have : slp l = slp k := by grind
    rw [this] at e1
    grind
  have hu : (l.2.1 - l.1.1) * (k.2.2 - k.1.2) - (l.2.2 - l.1.2) * (k.2.1 - k.1.1) ≠ 0 := fun z => by
    have zr : (((l.2.1 - l.1.1) * (k.2.2 - k.1.2) - (l.2.2 - l.1.2) * (k.2.1 - k.1.1) : Int) : Rat) = 0 := by rw [z]; rfl
    have e : (((l.2.1 - l.1.1) * (k.2.2 - k.1.2) - (l.2.2 - l.1.2) * (k.2.1 - k.1.1) : Int) : Rat) = ((l.2.1 : Rat) - l.1.1) * ((k.2.2 : Rat) - k.1.2) - ((l.2.2 : Rat) - l.1.2) * ((k.2.1 : Rat) - k.1.1) := by grind
    rw [e, ← m1, ← m2] at zr
    have : (slp l - slp k) * (((l.2.2 : Rat) - l.1.2) * ((k.2.2 : Rat) - k.1.2)) = 0 := by grind
    rcases Rat.mul_eq_zero.mp this with h | h
    · exact hb h
    · rcases Rat.mul_eq_zero.mp h with h | h
      · exact dif_ne hl h
      · exact dif_ne hk h
  have inv := Rat.mul_inv_cancel _ hb
  have hc : ∃ c, (slp l - slp k) * (c - Y) = -(xAt l Y - xAt k Y) := ⟨Y - (xAt l Y - xAt k Y) * (slp l - slp k)⁻¹, by
    generalize (slp l - slp k)⁻¹ = v at *
    generalize slp l - slp k = b at *
    grind⟩
  obtain ⟨c, hc⟩ := hc
  have c1 := xAt_lin l Y c
  have c2 := xAt_lin k Y c
  have hx : xAt l c = xAt k c := by grind
  have d1 : (slp l - slp k) * (H - c) = xAt l H - xAt k H := by grind
  have d2 : (slp l - slp k) * (H - Y) < 0 := by grind
  refine ⟨c, ?_, hx, hu⟩
  generalize slp l - slp k = b at *
  by_cases s : b < 0
  · have p1 := neg_div s (z := H - c) (by grind)
    have p2 := neg_div s (z := c - Y) (by grind)
    have p3 : c ≠ Y := fun z => by
      rw [z] at hc
      grind
    left
    exact ⟨Rat.lt_of_le_of_ne (by grind) (fun z => p3 z.symm), by grind⟩
  · have s' : 0 < b := Rat.lt_of_le_of_ne (by grind) (fun z => hb z.symm)
    have p1 := pos_div s' (z := H - c) (by grind)
    have p2 := pos_div s' (z := c - Y) (by grind)
    have p3 : c ≠ Y := fun z => by
      rw [z] at hc
      grind
    right
    exact ⟨by grind, Rat.lt_of_le_of_ne (by grind) p3⟩
theorem hts_ends {ls : List Seg} {l : Seg} (h : l ∈ ls) : (l.1.2, (1 : Int)) ∈ hts ls ∧ (l.2.2, (1 : Int)) ∈ hts ls := by
  obtain ⟨i, hi, rfl⟩ := List.getElem_of_mem h
  have e : ls.getD i ((0, 0), 0, 0) = ls[i] := by simp [hi]
  constructor
  · refine List.mem_flatMap.mpr ⟨i, List.mem_range.mpr hi, ?_⟩
    rw [e]
    simp
  · refine List.mem_flatMap.mpr ⟨i, List.mem_range.mpr hi, ?_⟩
    rw [e]
    simp
theorem hts_cross {ls : List Seg} {i j : Nat} (hi : i < ls.length) (hj : j < i) {f : Pt} (h : crossH (ls[i]) (ls[j]) = some f) : f ∈ hts ls := by
  have e : ls.getD i ((0, 0), 0, 0) = ls[i] := by simp [hi]
  refine List.mem_flatMap.mpr ⟨i, List.mem_range.mpr hi, ?_⟩
  rw [e]
  refine List.mem_append_right _ (List.mem_filterMap.mpr ⟨ls[j], ?_, h⟩)
  rw [List.mem_take_iff_getElem]
  exact ⟨j, by omega, rfl⟩
/-- lines that change their order between two heights, over both of which they go: some height of theirs lies between -/
theorem order_hts {ls : List Seg} {l k : Seg} (hl : l ∈ ls) (hk : k ∈ ls) (nl : l.1.2 ≠ l.2.2) (nk : k.1.2 ≠ k.2.2) {Y H : Rat} (aY : act l Y) (aH : act l H) (bY : act k Y) (bH : act k H) (h1 : xAt k Y < xAt l Y) (h2 : xAt l H ≤ xAt k H) :
    ∃ f ∈ hts ls, 0 < f.2 ∧ ((Y < val f ∧ val f ≤ H) ∨ (H ≤ val f ∧ val f < Y)) := by
  obtain ⟨c, hc, hx, hu⟩ := meet nl nk h1 h2
  have btwn : ∀ {l : Seg}, act l Y → act l H → actC l c := fun {l} a b => by
    unfold act at a b
    unfold actC
    rcases hc with ⟨c1, c2⟩ | ⟨c1, c2⟩ <;> rcases a with ⟨a1, a2⟩ | ⟨a1, a2⟩ <;> rcases b with ⟨b1, b2⟩ | ⟨b1, b2⟩ <;> first | exact .inl ⟨by grind, by grind⟩ | exact .inr ⟨by grind, by grind⟩
  have al := btwn aY aH
  have ak := btwn bY bH
  obtain ⟨i, hi, rfl⟩ := List.getElem_of_mem hl
  obtain ⟨j, hj, rfl⟩ := List.getElem_of_mem hk
  rcases Nat.lt_trichotomy i j with g | g | g
  · obtain ⟨f, hf, f1, f2⟩ := cross_of nk nl ak al hx.symm (fun z => hu (by
      have e : (ls[i].2.1 - ls[i].1.1) * (ls[j].2.2 - ls[j].1.2) - (ls[i].2.2 - ls[i].1.2) * (ls[j].2.1 - ls[j].1.1) = -((ls[j].2.1 - ls[j].1.1) * (ls[i].2.2 - ls[i].1.2) - (ls[j].2.2 - ls[j].1.2) * (ls[i].2.1 - ls[i].1.1)) := by grind
      rw [e, z]
      rfl))
    exact ⟨f, hts_cross hj g hf, f1, by rw [f2]; exact hc⟩
  · subst g
    grind
  · obtain ⟨f, hf, f1, f2⟩ := cross_of nl nk al ak hx hu
    exact ⟨f, hts_cross hi g hf, f1, by rw [f2]; exact hc⟩
end Gy

end

section
set_option Elab.async false
set_option linter.all false
set_option maxRecDepth 100000
set_option maxHeartbeats 2000000
/-! GyPb: plain: parting is whole, and right. -/
namespace Gy
open PySem
/-! ### closed ways -/
noncomputable def below (Y : Rat) (p : Pt) : Int := open Classical in if (p.2 : Rat) ≤ Y then 1 else 0
theorem ctb_tot {l : Seg} {X Y : Rat} (h : act l Y → X < xAt l Y) : ctb l X Y = below Y l.1 - below Y l.2 := by
  unfold ctb below
  unfold act at h
  by_cases u : l.1.2 < l.2.2
  · have ur := clt.mpr u
    rw [if_pos u]
    by_cases c : (l.1.2 : Rat) ≤ Y
    · by_cases d : Y < (l.2.2 : Rat)
      · rw [if_pos ⟨c, d, h (.inl ⟨c, d⟩)⟩, if_pos c, if_neg (by grind)]
        rfl
      · rw [if_neg (fun z => d z.2.1), if_pos c, if_pos (by grind)]
        rfl
    · rw [if_neg (fun z => c z.1), if_neg c, if_neg (by grind)]
      rfl
  · rw [if_neg u]
    by_cases v : l.2.2 < l.1.2
    · have vr := clt.mpr v
      rw [if_pos v]
      by_cases c : (l.2.2 : Rat) ≤ Y
      · by_cases d : Y < (l.1.2 : Rat)
        · rw [if_pos ⟨c, d, h (.inr ⟨c, d⟩)⟩, if_pos c, if_neg (by grind)]
          rfl
        · rw [if_neg (fun z => d z.2.1), if_pos c, if_pos (by grind)]
          rfl
      · rw [if_neg (fun z => c z.1), if_neg c, if_neg (by grind)]
        rfl
    · rw [if_neg v]
      have e : l.1.2 = l.2.2 := by omega
      rw [e]
      omega
theorem chain_tot (Y : Rat) : ∀ {a b : Pt} {ps : List Pc}, Chain a ps b → ((ps.map Pc.seg).map fun l => below Y l.1 - below Y l.2).sum = below Y a - below Y b
  | a, b, [], h => by
    have : a = b := h
    subst this
    simp
  | a, b, q :: r, ⟨h1, h2⟩ => by
    rw [List.map_cons, List.map_cons, List.sum_cons, chain_tot Y h2]
    show below Y q.beg - below Y q.fin + _ = _
    rw [h1]
    omega
def segs (o : List Way) : List Seg := (pcs o).map Pc.seg
theorem segs_cons (w : Way) (r : List Way) : segs (w :: r) = w.pcs.map Pc.seg ++ segs r := by
  unfold segs
  rw [show pcs (w :: r) = w.pcs ++ pcs r from rfl, List.map_append]
theorem segs_tot (Y : Rat) : ∀ o : List Way, ((segs o).map fun l => below Y l.1 - below Y l.2).sum = 0
  | [] => rfl
  | w :: r => by
    rw [segs_cons, List.map_append, List.sum_append, chain_tot Y (chain_pcs w), segs_tot Y r]
    omega
/-- left of all lines: nothing -/
theorem wF_all {o : List Way} {X Y : Rat} (h : ∀ l ∈ segs o, act l Y → X < xAt l Y) : wF (segs o) X Y = 0 := by
  unfold wF
  rw [List.map_congr_left fun l hl => ctb_tot (h l hl), segs_tot]
theorem wF_flat {o : List Way} (X Y : Rat) : wF (linesv o) X Y = wF (segs o) X Y := by
  unfold linesv
  show wF ((segs o).filter fun l => decide (l.1.2 ≠ l.2.2)) X Y = _
  unfold wF
  generalize segs o = ls
  induction ls with
  | nil => rfl
  | cons a r ih =>
    rw [List.filter_cons]
    by_cases c : a.1.2 = a.2.2
    · rw [if_neg (by simpa using c), ih, List.map_cons, List.sum_cons, ctb_no (flat_no c Y)]
      omega
    · rw [if_pos (by simpa using c), List.map_cons, List.sum_cons, ih, List.map_cons, List.sum_cons]
theorem line_seg {o : List Way} {l : Seg} (h : l ∈ linesv o) : l ∈ segs o ∧ l.1.2 ≠ l.2.2 := by
  unfold linesv at h
  have := List.mem_filter.mp h
  exact ⟨this.1, by simpa using this.2⟩
theorem seg_line {o : List Way} {l : Seg} (h : l ∈ segs o) (n : l.1.2 ≠ l.2.2) : l ∈ linesv o := List.mem_filter.mpr ⟨h, by simpa using n⟩
/-! ### steps -/
section
variable {o p : List Way} (ho : OutOk o) (hp : OutOk p)
include ho hp
theorem both_bn : ∀ l ∈ linesv o ++ linesv p, l.bn 100000 := fun l hl => (List.mem_append.mp hl).elim (hline_bn ho l) (hline_bn hp l)
theorem hts_pos : Pos (hts (linesv o ++ linesv p)) := fun f hf => (hts_fb (both_bn ho hp) f hf).d
theorem pre_pos : Pos (ordv (hts (linesv o ++ linesv p)) ++ (((pcs o ++ pcs p).map Pc.seg).filter fun l => decide (l.1.2 = l.2.2)).map fun l => (l.1.2, 1)) := fun f hf => by
  rcases List.mem_append.mp hf with hf | hf
  · exact ord_pos (hts_pos ho hp) f hf
  · obtain ⟨l, _, rfl⟩ := List.mem_map.mp hf
    show (0 : Int) < 1
    decide
theorem steps_pos : Pos (stepsOf o p) := ord_pos (pre_pos ho hp)
theorem steps_srt : Srt (stepsOf o p) := ord_srt (pre_pos ho hp)
theorem steps_hts {f : Pt} (hf : f ∈ hts (linesv o ++ linesv p)) : ∃ w ∈ stepsOf o p, val w = val f := by
  obtain ⟨w, hw, e⟩ := ord_has (hts_pos ho hp) hf
  obtain ⟨v, hv, e2⟩ := ord_has (pre_pos ho hp) (List.mem_append_left _ hw)
  exact ⟨v, hv, e2.trans e⟩
theorem steps_level {l : Seg} (hl : l ∈ segs o ++ segs p) (h : l.1.2 = l.2.2) : ∃ w ∈ stepsOf o p, val w = (l.1.2 : Rat) := by
  have hl' : l ∈ (pcs o ++ pcs p).map Pc.seg := by rw [List.map_append]; exact hl
  obtain ⟨v, hv, e⟩ := ord_has (pre_pos ho hp) (x := (l.1.2, 1)) (List.mem_append_right _ (List.mem_map.mpr ⟨l, List.mem_filter.mpr ⟨hl', by simpa using h⟩, rfl⟩))
  exact ⟨v, hv, e.trans (val_int _)⟩
theorem steps_end {l : Seg} (hl : l ∈ linesv o ++ linesv p) : (∃ w ∈ stepsOf o p, val w = (l.1.2 : Rat)) ∧ ∃ w ∈ stepsOf o p, val w = (l.2.2 : Rat) := by
  obtain ⟨h1, h2⟩ := hts_ends hl
  obtain ⟨w, hw, e⟩ := steps_hts ho hp h1
  obtain ⟨v, hv, e2⟩ := steps_hts ho hp h2
  exact ⟨⟨w, hw, e.trans (val_int _)⟩, v, hv, e2.trans (val_int _)⟩
/-- the same lines go over all heights between two steps, and over their middle -/
theorem act_mid {k : Nat} (hk : k + 1 < (stepsOf o p).length) {Y : Rat} (h1 : val ((stepsOf o p).getD k pt0) ≤ Y) (h2 : Y < val ((stepsOf o p).getD (k + 1) pt0)) {l : Seg} (hl : l ∈ linesv o ++ linesv p) {H : Rat} (g1 : val ((stepsOf o p).getD k pt0) ≤ H) (g2 : H < val ((stepsOf o p).getD (k + 1) pt0)) : act l Y ↔ act l H := by
  obtain ⟨⟨w, hw, e⟩, v, hv, e2⟩ := steps_end ho hp hl
  have a := srt_gap (steps_srt ho hp) hk hw
  have b := srt_gap (steps_srt ho hp) hk hv
  rw [e] at a
  rw [e2] at b
  unfold act
  generalize val ((stepsOf o p).getD k pt0) = s at *
  generalize val ((stepsOf o p).getD (k + 1) pt0) = t at *
  generalize (l.1.2 : Rat) = y1 at *
  generalize (l.2.2 : Rat) = y2 at *
  rcases a with a | a <;> rcases b with b | b <;> constructor <;> intro h <;> rcases h with ⟨h3, h4⟩ | ⟨h3, h4⟩ <;> first | exact .inl ⟨by grind, by grind⟩ | exact .inr ⟨by grind, by grind⟩
/-! ### crossings at a height between steps -/
theorem mid_h {k : Nat} (hk : k + 1 < (stepsOf o p).length) : 0 < (btw ((stepsOf o p).getD k pt0) ((stepsOf o p).getD (k + 1) pt0)).2 ∧ val ((stepsOf o p).getD k pt0) < val (btw ((stepsOf o p).getD k pt0) ((stepsOf o p).getD (k + 1) pt0)) ∧ val (btw ((stepsOf o p).getD k pt0) ((stepsOf o p).getD (k + 1) pt0)) < val ((stepsOf o p).getD (k + 1) pt0) := by
  have p1 : 0 < ((stepsOf o p).getD k pt0).2 := by rw [getD_eq (by omega)]; exact steps_pos ho hp _ (List.getElem_mem _)
  have p2 : 0 < ((stepsOf o p).getD (k + 1) pt0).2 := by rw [getD_eq hk]; exact steps_pos ho hp _ (List.getElem_mem _)
  have lt : val ((stepsOf o p).getD k pt0) < val ((stepsOf o p).getD (k + 1) pt0) := by
    rw [getD_eq (by omega), getD_eq hk]
    exact srt_get (steps_srt ho hp) (by omega) hk
  rw [val_btw p1 p2]
  exact ⟨btw_pos p1 p2, mid_lt lt⟩
end
/-- a line's crossing of a height at which it does not end -/
theorem cr_one {h : Pt} (hh : 0 < h.2) {l : Seg} (n : l.1.2 ≠ l.2.2) (e1 : val h ≠ (l.1.2 : Rat)) (e2 : val h ≠ (l.2.2 : Rat)) :
    (act l (val h) → ∃ c, crOne h l = some c ∧ 0 < c.1.2 ∧ val c.1 = xAt l (val h) ∧ c.2 = if l.1.2 < l.2.2 then 1 else -1) ∧ (¬ act l (val h) → crOne h l = none) := by
  have one : (0 : Int) < 1 := by decide
  have core : ∀ (lo hi : Pt), lo.2 < hi.2 → val h ≠ (lo.2 : Rat) → ((lsv (lo.2, 1) h ∧ lsv h (hi.2, 1)) ↔ ((lo.2 : Rat) ≤ val h ∧ val h < (hi.2 : Rat))) := fun lo hi _ ne => by
    rw [lsv_val (f := (lo.2, 1)) one hh, lsv_val (g := (hi.2, 1)) hh one, val_int, val_int]
    constructor
    · rintro ⟨a, b⟩
      exact ⟨Rat.le_of_lt a, b⟩
    · rintro ⟨a, b⟩
      exact ⟨Rat.lt_of_le_of_ne a (fun z => ne z.symm), b⟩
  have place : ∀ (lo hi : Pt), lo.2 < hi.2 → 0 < (fracv (lo.1 * ((hi.2 - lo.2) * h.2) + (hi.1 - lo.1) * (h.1 - lo.2 * h.2)) ((hi.2 - lo.2) * h.2)).2 ∧ val (fracv (lo.1 * ((hi.2 - lo.2) * h.2) + (hi.1 - lo.1) * (h.1 - lo.2 * h.2)) ((hi.2 - lo.2) * h.2)) = (lo.1 : Rat) + ((hi.1 : Rat) - lo.1) * ((val h - lo.2) / ((hi.2 : Rat) - lo.2)) := fun lo hi lt => by
    have hu : 0 < (hi.2 - lo.2) * h.2 := Int.mul_pos (by omega) hh
    refine ⟨(frac_ok (by omega)).1, ?_⟩
    rw [val_frac (by omega)]
    refine div_eq (cne (by omega)) ?_
    have ltr := clt.mpr lt
    have dne : (hi.2 : Rat) - lo.2 ≠ 0 := by grind
    have dc : (val h - lo.2) / ((hi.2 : Rat) - lo.2) * ((hi.2 : Rat) - lo.2) = val h - lo.2 := Rat.div_mul_cancel dne
    generalize (val h - lo.2) / ((hi.2 : Rat) - lo.2) = T at *
    have vm := val_mul hh
    have c1 : ((lo.1 * ((hi.2 - lo.2) * h.2) + (hi.1 - lo.1) * (h.1 - lo.2 * h.2) : Int) : Rat) = (lo.1 : Rat) * (((hi.2 : Rat) - lo.2) * h.2) + ((hi.1 : Rat) - lo.1) * ((h.1 : Rat) - lo.2 * h.2) := by grind
    have c2 : (((hi.2 - lo.2) * h.2 : Int) : Rat) = ((hi.2 : Rat) - lo.2) * h.2 := by grind
    rw [c1, c2, ← vm]
    generalize (h.2 : Rat) = hh2 at *
    generalize val h = V at *
    grind
  unfold crOne act
  dsimp only
  by_cases u : l.1.2 < l.2.2
  · rw [if_pos u, if_pos u, if_pos u]
    have c := core l.1 l.2 u e1
    have ur := clt.mpr u
    obtain ⟨p1, p2⟩ := place l.1 l.2 u
    constructor
    · intro h1
      rw [if_pos (c.mpr (h1.resolve_right (fun z => by grind)))]
      exact ⟨_, rfl, p1, p2, rfl⟩
    · intro h1
      rw [if_neg (fun z => h1 (.inl (c.mp z)))]
  · rw [if_neg u, if_neg u, if_neg u]
    have u' : l.2.2 < l.1.2 := by omega
    have c := core l.2 l.1 u' e2
    have ur := clt.mpr u'
    obtain ⟨p1, p2⟩ := place l.2 l.1 u'
    have same : (l.2.1 : Rat) + ((l.1.1 : Rat) - l.2.1) * ((val h - l.2.2) / ((l.1.2 : Rat) - l.2.2)) = xAt l (val h) := by
      have d1 : (l.1.2 : Rat) - l.2.2 ≠ 0 := by grind
      have d2 : (l.2.2 : Rat) - l.1.2 ≠ 0 := by grind
      have q1 : (val h - l.2.2) / ((l.1.2 : Rat) - l.2.2) * ((l.1.2 : Rat) - l.2.2) = val h - l.2.2 := Rat.div_mul_cancel d1
      have q2 : (val h - l.1.2) / ((l.2.2 : Rat) - l.1.2) * ((l.2.2 : Rat) - l.1.2) = val h - l.1.2 := Rat.div_mul_cancel d2
      unfold xAt
      have e : (val h - l.2.2) / ((l.1.2 : Rat) - l.2.2) = 1 - (val h - l.1.2) / ((l.2.2 : Rat) - l.1.2) := by
        generalize (val h - l.2.2) / ((l.1.2 : Rat) - l.2.2) = S at *
        generalize (val h - l.1.2) / ((l.2.2 : Rat) - l.1.2) = T at *
        have z : (S - (1 - T)) * ((l.1.2 : Rat) - l.2.2) = 0 := by grind
        rcases Rat.mul_eq_zero.mp z with z | z
        · grind
        · exact absurd z d1
      rw [e]
      grind
    rw [same] at p2
    constructor
    · intro h1
      rw [if_pos (c.mpr (h1.resolve_left (fun z => by grind)))]
      exact ⟨_, rfl, p1, p2, rfl⟩
    · intro h1
      rw [if_neg (fun z => h1 (.inr (c.mp z)))]
/-- counted by crossings -/
theorem many_wF {h q : Pt} (hh : 0 < h.2) (hq : 0 < q.2) : ∀ {ls : List Seg}, (∀ l ∈ ls, l.1.2 ≠ l.2.2 ∧ val h ≠ (l.1.2 : Rat) ∧ val h ≠ (l.2.2 : Rat)) → manyAt (crs_at ls h) q = wF ls (val q) (val h)
  | [], _ => rfl
  | l :: r, hl => by
    obtain ⟨n, e1, e2⟩ := hl l List.mem_cons_self
    obtain ⟨c1, c2⟩ := cr_one hh n e1 e2
    have ih := many_wF hh hq (ls := r) fun x hx => hl x (List.mem_cons_of_mem _ hx)
    unfold wF at ih ⊢
    unfold manyAt crs_at at ih ⊢
    rw [List.map_cons, List.sum_cons, ← ih, List.filterMap_cons]
    by_cases a : act l (val h)
    · obtain ⟨c, hc, p1, p2, p3⟩ := c1 a
      rw [hc]
      dsimp only
      rw [List.filter_cons]
      have ls := lsv_val hq p1
      rw [p2] at ls
      by_cases d : val q < xAt l (val h)
      · rw [if_pos (by simpa using ls.mpr d), List.map_cons, List.sum_cons, p3]
        congr 1
        unfold ctb
        unfold act at a
        by_cases u : l.1.2 < l.2.2
        · have ur := clt.mpr u
          rw [if_pos u, if_pos u, if_pos ⟨by grind, by grind, d⟩]
        · have u' : l.2.2 < l.1.2 := by omega
          have ur := clt.mpr u'
          rw [if_neg u, if_neg u, if_pos u', if_pos ⟨by grind, by grind, d⟩]
      · rw [if_neg (by simpa using fun z => d (ls.mp z)), ctb_left d]
        omega
    · rw [c2 a, ctb_no a]
      dsimp only
      omega
/-! ### parting -/
theorem places_has {l0 l1 : List Seg} {h : Pt} {l : Seg} (hl : l ∈ l0 ++ l1) {c : Pt × Int} (hc : crOne h l = some c) (hp : ∀ x ∈ (crs_at l0 h ++ crs_at l1 h).map (·.1), 0 < x.2) : ∃ w ∈ placesAt l0 l1 h, val w = val c.1 := by
  refine ord_has hp (List.mem_map.mpr ⟨c, ?_, rfl⟩)
  rcases List.mem_append.mp hl with hl | hl
  · exact List.mem_append_left _ (List.mem_filterMap.mpr ⟨l, hl, hc⟩)
  · exact List.mem_append_right _ (List.mem_filterMap.mpr ⟨l, hl, hc⟩)
section
variable {o p : List Way} (ho : OutOk o) (hp : OutOk p)
include ho hp
theorem no_end {k : Nat} (hk : k + 1 < (stepsOf o p).length) {l : Seg} (hl : l ∈ linesv o ++ linesv p) : l.1.2 ≠ l.2.2 ∧ val (btw ((stepsOf o p).getD k pt0) ((stepsOf o p).getD (k + 1) pt0)) ≠ (l.1.2 : Rat) ∧ val (btw ((stepsOf o p).getD k pt0) ((stepsOf o p).getD (k + 1) pt0)) ≠ (l.2.2 : Rat) := by
  obtain ⟨_, m1, m2⟩ := mid_h ho hp hk
  obtain ⟨⟨w, hw, e⟩, v, hv, e2⟩ := steps_end ho hp hl
  have a := srt_gap (steps_srt ho hp) hk hw
  have b := srt_gap (steps_srt ho hp) hk hv
  rw [e] at a
  rw [e2] at b
  refine ⟨?_, fun z => by rw [z] at m1 m2; grind, fun z => by rw [z] at m1 m2; grind⟩
  rcases List.mem_append.mp hl with hl | hl
  · exact (line_seg hl).2
  · exact (line_seg hl).2
theorem crs_pos {k : Nat} (hk : k + 1 < (stepsOf o p).length) : ∀ x ∈ (crs_at (linesv o) (btw ((stepsOf o p).getD k pt0) ((stepsOf o p).getD (k + 1) pt0)) ++ crs_at (linesv p) (btw ((stepsOf o p).getD k pt0) ((stepsOf o p).getD (k + 1) pt0))).map (·.1), 0 < x.2 := fun x hx => by
  obtain ⟨c, hc, rfl⟩ := List.mem_map.mp hx
  obtain ⟨m0, _, _⟩ := mid_h ho hp hk
  have key : ∀ l ∈ linesv o ++ linesv p, crOne (btw ((stepsOf o p).getD k pt0) ((stepsOf o p).getD (k + 1) pt0)) l = some c → 0 < c.1.2 := fun l hl e => by
    obtain ⟨n, e1, e2⟩ := no_end ho hp hk hl
    obtain ⟨c1, c2⟩ := cr_one m0 n e1 e2
    by_cases a : act l (val (btw ((stepsOf o p).getD k pt0) ((stepsOf o p).getD (k + 1) pt0)))
    · obtain ⟨d, hd, p1, _⟩ := c1 a
      rw [e] at hd
      cases hd
      exact p1
    · rw [c2 a] at e
      cases e
  rcases List.mem_append.mp hc with hc | hc
  · obtain ⟨l, hl, e⟩ := List.mem_filterMap.mp hc
    exact key l (List.mem_append_left _ hl) e
  · obtain ⟨l, hl, e⟩ := List.mem_filterMap.mp hc
    exact key l (List.mem_append_right _ hl) e
/-- a place between two places of a height -/
theorem mid_p {k j : Nat} (hk : k + 1 < (stepsOf o p).length) (hj : j + 1 < (placesAt (linesv o) (linesv p) (btw ((stepsOf o p).getD k pt0) ((stepsOf o p).getD (k + 1) pt0))).length) :
    0 < (btw ((placesAt (linesv o) (linesv p) (btw ((stepsOf o p).getD k pt0) ((stepsOf o p).getD (k + 1) pt0))).getD j pt0) ((placesAt (linesv o) (linesv p) (btw ((stepsOf o p).getD k pt0) ((stepsOf o p).getD (k + 1) pt0))).getD (j + 1) pt0)).2 ∧
    val ((placesAt (linesv o) (linesv p) (btw ((stepsOf o p).getD k pt0) ((stepsOf o p).getD (k + 1) pt0))).getD j pt0) < val (btw ((placesAt (linesv o) (linesv p) (btw ((stepsOf o p).getD k pt0) ((stepsOf o p).getD (k + 1) pt0))).getD j pt0) ((placesAt (linesv o) (linesv p) (btw ((stepsOf o p).getD k pt0) ((stepsOf o p).getD (k + 1) pt0))).getD (j + 1) pt0)) ∧
    val (btw ((placesAt (linesv o) (linesv p) (btw ((stepsOf o p).getD k pt0) ((stepsOf o p).getD (k + 1) pt0))).getD j pt0) ((placesAt (linesv o) (linesv p) (btw ((stepsOf o p).getD k pt0) ((stepsOf o p).getD (k + 1) pt0))).getD (j + 1) pt0)) < val ((placesAt (linesv o) (linesv p) (btw ((stepsOf o p).getD k pt0) ((stepsOf o p).getD (k + 1) pt0))).getD (j + 1) pt0) := by
  have cp := crs_pos ho hp hk
  have sp : Pos (placesAt (linesv o) (linesv p) (btw ((stepsOf o p).getD k pt0) ((stepsOf o p).getD (k + 1) pt0))) := ord_pos cp
  have ss : Srt (placesAt (linesv o) (linesv p) (btw ((stepsOf o p).getD k pt0) ((stepsOf o p).getD (k + 1) pt0))) := ord_srt cp
  generalize placesAt (linesv o) (linesv p) (btw ((stepsOf o p).getD k pt0) ((stepsOf o p).getD (k + 1) pt0)) = P at *
  have p1 : 0 < (P.getD j pt0).2 := by rw [getD_eq (by omega)]; exact sp _ (List.getElem_mem _)
  have p2 : 0 < (P.getD (j + 1) pt0).2 := by rw [getD_eq hj]; exact sp _ (List.getElem_mem _)
  have lt : val (P.getD j pt0) < val (P.getD (j + 1) pt0) := by
    rw [getD_eq (by omega), getD_eq hj]
    exact srt_get ss (by omega) hj
  rw [val_btw p1 p2]
  exact ⟨btw_pos p1 p2, mid_lt lt⟩
/-- nothing found: all points are filled alike -/
theorem part_none {r : Rule} (hn : partv o p r = none) (X Y : Rat) : r.fills (wF (segs o) X Y) = r.fills (wF (segs p) X Y) := by
  by_cases c0 : ∃ l ∈ linesv o ++ linesv p, act l Y
  · obtain ⟨l0, hl0, a0⟩ := c0
    have ends := steps_end ho hp hl0
    obtain ⟨⟨w, hw, ew⟩, v, hv, ev⟩ := ends
    have ⟨lo, hi⟩ : (∃ a ∈ stepsOf o p, val a ≤ Y) ∧ ∃ b ∈ stepsOf o p, Y < val b := by
      rcases a0 with ⟨x, y⟩ | ⟨x, y⟩
      · exact ⟨⟨w, hw, by rw [ew]; exact x⟩, v, hv, by rw [ev]; exact y⟩
      · exact ⟨⟨v, hv, by rw [ev]; exact x⟩, w, hw, by rw [ew]; exact y⟩
    obtain ⟨k, hk, k1, k2⟩ := srt_find Y (steps_srt ho hp) lo hi
    obtain ⟨m0, m1, m2⟩ := mid_h ho hp hk
    have cp := crs_pos ho hp hk
    have ne := fun {l : Seg} (hl : l ∈ linesv o ++ linesv p) => no_end ho hp hk hl
    have am := fun {l : Seg} (hl : l ∈ linesv o ++ linesv p) => act_mid ho hp hk k1 k2 hl (H := val (btw ((stepsOf o p).getD k pt0) ((stepsOf o p).getD (k + 1) pt0))) (Rat.le_of_lt m1) m2
    have mp := fun {j : Nat} hj => mid_p ho hp (k := k) (j := j) hk hj
    -- what is not found at this height
    have hk' : k ∈ List.range ((stepsOf o p).length - 1) := List.mem_range.mpr (by omega)
    have pn : partIn r (crs_at (linesv o) (btw ((stepsOf o p).getD k pt0) ((stepsOf o p).getD (k + 1) pt0))) (crs_at (linesv p) (btw ((stepsOf o p).getD k pt0) ((stepsOf o p).getD (k + 1) pt0))) (placesAt (linesv o) (linesv p) (btw ((stepsOf o p).getD k pt0) ((stepsOf o p).getD (k + 1) pt0))) = none := by
      have := List.findSome?_eq_none_iff.mp hn k hk'
      simpa using this
    have order : ∀ {l q : Seg}, l ∈ linesv o ++ linesv p → q ∈ linesv o ++ linesv p → act l Y → act q Y → xAt q Y < xAt l Y → xAt q (val (btw ((stepsOf o p).getD k pt0) ((stepsOf o p).getD (k + 1) pt0))) < xAt l (val (btw ((stepsOf o p).getD k pt0) ((stepsOf o p).getD (k + 1) pt0))) := fun {l q} hl hq al aq h => by
      refine Classical.byContradiction fun z => ?_
      obtain ⟨f, hf, f0, fb⟩ := order_hts hl hq (ne hl).1 (ne hq).1 al ((am hl).mp al) aq ((am hq).mp aq) h (by grind)
      obtain ⟨w, hw, e⟩ := steps_hts ho hp hf
      have g := srt_gap (steps_srt ho hp) hk hw
      rw [e] at g
      grind
    have hpl : Srt (placesAt (linesv o) (linesv p) (btw ((stepsOf o p).getD k pt0) ((stepsOf o p).getD (k + 1) pt0))) := ord_srt cp
    have pl : ∀ {l : Seg}, l ∈ linesv o ++ linesv p → act l Y → ∃ w ∈ placesAt (linesv o) (linesv p) (btw ((stepsOf o p).getD k pt0) ((stepsOf o p).getD (k + 1) pt0)), val w = xAt l (val (btw ((stepsOf o p).getD k pt0) ((stepsOf o p).getD (k + 1) pt0))) := fun {l} hl al => by
      obtain ⟨n, e1, e2⟩ := ne hl
      obtain ⟨c, hc, p1, p2, _⟩ := (cr_one m0 n e1 e2).1 ((am hl).mp al)
      obtain ⟨w, hw, e⟩ := places_has hl hc cp
      exact ⟨w, hw, e.trans p2⟩
    have mw : ∀ {q : Pt}, 0 < q.2 → manyAt (crs_at (linesv o) (btw ((stepsOf o p).getD k pt0) ((stepsOf o p).getD (k + 1) pt0))) q = wF (linesv o) (val q) (val (btw ((stepsOf o p).getD k pt0) ((stepsOf o p).getD (k + 1) pt0))) ∧ manyAt (crs_at (linesv p) (btw ((stepsOf o p).getD k pt0) ((stepsOf o p).getD (k + 1) pt0))) q = wF (linesv p) (val q) (val (btw ((stepsOf o p).getD k pt0) ((stepsOf o p).getD (k + 1) pt0))) := fun {q} hq =>
      ⟨many_wF m0 hq fun l hl => ne (List.mem_append_left _ hl), many_wF m0 hq fun l hl => ne (List.mem_append_right _ hl)⟩
    rw [← wF_flat, ← wF_flat]
    generalize btw ((stepsOf o p).getD k pt0) ((stepsOf o p).getD (k + 1) pt0) = h at *
    generalize placesAt (linesv o) (linesv p) h = P at *
    by_cases cA : ∃ l ∈ linesv o ++ linesv p, act l Y ∧ X < xAt l Y
    · by_cases cB : ∃ l ∈ linesv o ++ linesv p, act l Y ∧ ¬ X < xAt l Y
      · -- between the greatest place left of it and the next one
        obtain ⟨a, ha, aa, ax⟩ := cA
        obtain ⟨b, hb, ba, bx⟩ := cB
        obtain ⟨m, hm, mx⟩ := max_of (fun l => xAt l (val h)) ((linesv o ++ linesv p).filter fun l => open Classical in decide (act l Y ∧ ¬ X < xAt l Y)) (fun z => by
          have : b ∈ (linesv o ++ linesv p).filter fun l => open Classical in decide (act l Y ∧ ¬ X < xAt l Y) := List.mem_filter.mpr ⟨hb, by simpa using ⟨ba, by grind⟩⟩
          rw [z] at this
          cases this)
        obtain ⟨hm1, hm2⟩ := List.mem_filter.mp hm
        have hm2 : act m Y ∧ ¬ X < xAt m Y := by simpa using hm2
        have left : ∀ l ∈ linesv o ++ linesv p, act l Y → ¬ X < xAt l Y → xAt l (val h) ≤ xAt m (val h) := fun l hl al xl => mx l (List.mem_filter.mpr ⟨hl, by simpa using And.intro al xl⟩)
        have right : ∀ l ∈ linesv o ++ linesv p, act l Y → X < xAt l Y → xAt m (val h) < xAt l (val h) := fun l hl al xl => order hl hm1 al hm2.1 (by have := hm2.2; grind)
        obtain ⟨wm, hwm, em⟩ := pl hm1 hm2.1
        obtain ⟨wa, hwa, ea⟩ := pl ha aa
        have rA := right a ha aa ax
        obtain ⟨j, hj, j1, j2⟩ := srt_find (xAt m (val h)) hpl ⟨wm, hwm, by rw [em]; exact Rat.le_refl⟩ ⟨wa, hwa, by rw [ea]; exact rA⟩
        obtain ⟨q0, q1, q2⟩ := mp hj
        have fj : r.fills (manyAt (crs_at (linesv o) h) (btw (P.getD j pt0) (P.getD (j + 1) pt0))) = r.fills (manyAt (crs_at (linesv p) h) (btw (P.getD j pt0) (P.getD (j + 1) pt0))) := by
          have := List.findSome?_eq_none_iff.mp pn j (List.mem_range.mpr (by omega))
          refine Classical.byContradiction fun z => ?_
          rw [if_pos z] at this
          cases this
        obtain ⟨w1, w2⟩ := mw q0
        rw [w1, w2] at fj
        have side : ∀ l ∈ linesv o ++ linesv p, act l (val h) → (val (btw (P.getD j pt0) (P.getD (j + 1) pt0)) < xAt l (val h) ↔ X < xAt l Y) := fun l hl alh => by
          have al := (am hl).mpr alh
          obtain ⟨w, hw, e⟩ := pl hl al
          have g := srt_gap hpl hj hw
          rw [e] at g
          constructor
          · intro z
            refine Classical.byContradiction fun y => ?_
            have := left l hl al y
            grind
          · intro z
            have := right l hl al z
            grind
        have s1 := wF_same (ls := linesv o) (X := val (btw (P.getD j pt0) (P.getD (j + 1) pt0))) (Y := val h) (X' := X) (Y' := Y) (fun l hl => (am (List.mem_append_left _ hl)).symm) fun l hl a => side l (List.mem_append_left _ hl) a
        have s2 := wF_same (ls := linesv p) (X := val (btw (P.getD j pt0) (P.getD (j + 1) pt0))) (Y := val h) (X' := X) (Y' := Y) (fun l hl => (am (List.mem_append_right _ hl)).symm) fun l hl a => side l (List.mem_append_right _ hl) a
        rw [s1, s2] at fj
        exact fj
      · -- left of all
        have al : ∀ l ∈ linesv o ++ linesv p, act l Y → X < xAt l Y := fun l hl a => Classical.byContradiction fun z => cB ⟨l, hl, a, z⟩
        rw [wF_flat, wF_flat, wF_all, wF_all]
        · intro l hl a
          by_cases n : l.1.2 = l.2.2
          · exact absurd a (flat_no n Y)
          · exact al l (List.mem_append_right _ (seg_line hl n)) a
        · intro l hl a
          by_cases n : l.1.2 = l.2.2
          · exact absurd a (flat_no n Y)
          · exact al l (List.mem_append_left _ (seg_line hl n)) a
    · rw [wF_zero, wF_zero]
      · intro l hl a z
        exact cA ⟨l, List.mem_append_right _ hl, a, z⟩
      · intro l hl a z
        exact cA ⟨l, List.mem_append_left _ hl, a, z⟩
  · rw [← wF_flat, ← wF_flat, wF_zero, wF_zero]
    · intro l hl a
      exact absurd ⟨l, List.mem_append_right _ hl, a⟩ c0
    · intro l hl a
      exact absurd ⟨l, List.mem_append_left _ hl, a⟩ c0
/-- what is found: filled by just one, on no line, without common divisors -/
theorem part_some {r : Rule} {q h : Pt} (hs : partv o p r = some (q, h)) :
    0 < q.2 ∧ 0 < h.2 ∧ Int.gcd q.1 q.2 = 1 ∧ Int.gcd h.1 h.2 = 1 ∧ r.fills (wF (segs o) (val q) (val h)) ≠ r.fills (wF (segs p) (val q) (val h)) ∧
    (∀ l ∈ segs o ++ segs p, l.1.2 = l.2.2 → val h ≠ (l.1.2 : Rat)) ∧ ∀ l ∈ segs o ++ segs p, l.1.2 ≠ l.2.2 → actC l (val h) → val q ≠ xAt l (val h) := by
  obtain ⟨k, hk, e⟩ := List.exists_of_findSome?_eq_some hs
  have hk : k + 1 < (stepsOf o p).length := by have := List.mem_range.mp hk; omega
  obtain ⟨m0, m1, m2⟩ := mid_h ho hp hk
  have cp := crs_pos ho hp hk
  have ne := fun {l : Seg} (hl : l ∈ linesv o ++ linesv p) => no_end ho hp hk hl
  obtain ⟨q', e1, e2⟩ := Option.map_eq_some_iff.mp e
  obtain ⟨j, hj, e3⟩ := List.exists_of_findSome?_eq_some e1
  have hj : j + 1 < (placesAt (linesv o) (linesv p) (btw ((stepsOf o p).getD k pt0) ((stepsOf o p).getD (k + 1) pt0))).length := by have := List.mem_range.mp hj; omega
  obtain ⟨q0, q1, q2⟩ := mid_p ho hp hk hj
  have g1 : Int.gcd (btw ((stepsOf o p).getD k pt0) ((stepsOf o p).getD (k + 1) pt0)).1 (btw ((stepsOf o p).getD k pt0) ((stepsOf o p).getD (k + 1) pt0)).2 = 1 := by
    have p1 : 0 < ((stepsOf o p).getD k pt0).2 := by rw [getD_eq (by omega)]; exact steps_pos ho hp _ (List.getElem_mem _)
    have p2 : 0 < ((stepsOf o p).getD (k + 1) pt0).2 := by rw [getD_eq hk]; exact steps_pos ho hp _ (List.getElem_mem _)
    have := btw_u p1 p2
    exact (frac_ok (by omega)).2.2.2.2
  have hpp : Pos (placesAt (linesv o) (linesv p) (btw ((stepsOf o p).getD k pt0) ((stepsOf o p).getD (k + 1) pt0))) := ord_pos cp
  have hpl : Srt (placesAt (linesv o) (linesv p) (btw ((stepsOf o p).getD k pt0) ((stepsOf o p).getD (k + 1) pt0))) := ord_srt cp
  have lev : ∀ l ∈ segs o ++ segs p, l.1.2 = l.2.2 → val (btw ((stepsOf o p).getD k pt0) ((stepsOf o p).getD (k + 1) pt0)) ≠ (l.1.2 : Rat) := fun l hl n z => by
    obtain ⟨w, hw, e⟩ := steps_level ho hp hl n
    have g := srt_gap (steps_srt ho hp) hk hw
    rw [e, ← z] at g
    grind
  have pl : ∀ {l : Seg}, l ∈ linesv o ++ linesv p → act l (val (btw ((stepsOf o p).getD k pt0) ((stepsOf o p).getD (k + 1) pt0))) → ∃ w ∈ placesAt (linesv o) (linesv p) (btw ((stepsOf o p).getD k pt0) ((stepsOf o p).getD (k + 1) pt0)), val w = xAt l (val (btw ((stepsOf o p).getD k pt0) ((stepsOf o p).getD (k + 1) pt0))) := fun {l} hl al => by
    obtain ⟨n, e1, e2⟩ := ne hl
    obtain ⟨c, hc, p1, p2, _⟩ := (cr_one m0 n e1 e2).1 al
    obtain ⟨w, hw, e⟩ := places_has hl hc cp
    exact ⟨w, hw, e.trans p2⟩
  have mw : ∀ {q : Pt}, 0 < q.2 → manyAt (crs_at (linesv o) (btw ((stepsOf o p).getD k pt0) ((stepsOf o p).getD (k + 1) pt0))) q = wF (linesv o) (val q) (val (btw ((stepsOf o p).getD k pt0) ((stepsOf o p).getD (k + 1) pt0))) ∧ manyAt (crs_at (linesv p) (btw ((stepsOf o p).getD k pt0) ((stepsOf o p).getD (k + 1) pt0))) q = wF (linesv p) (val q) (val (btw ((stepsOf o p).getD k pt0) ((stepsOf o p).getD (k + 1) pt0))) := fun {q} hq =>
    ⟨many_wF m0 hq fun l hl => ne (List.mem_append_left _ hl), many_wF m0 hq fun l hl => ne (List.mem_append_right _ hl)⟩
  have e6 : q' = q := (Prod.ext_iff.mp e2).1
  have e5 := (Prod.ext_iff.mp e2).2
  clear e2 e
  dsimp only at e5
  generalize btw ((stepsOf o p).getD k pt0) ((stepsOf o p).getD (k + 1) pt0) = h' at *
  subst e5
  clear e1
  generalize placesAt (linesv o) (linesv p) h' = P at *
  have g2 : Int.gcd (btw (P.getD j pt0) (P.getD (j + 1) pt0)).1 (btw (P.getD j pt0) (P.getD (j + 1) pt0)).2 = 1 := by
    have p1 : 0 < (P.getD j pt0).2 := by rw [getD_eq (by omega)]; exact hpp _ (List.getElem_mem _)
    have p2 : 0 < (P.getD (j + 1) pt0).2 := by rw [getD_eq hj]; exact hpp _ (List.getElem_mem _)
    have := btw_u p1 p2
    exact (frac_ok (by omega)).2.2.2.2
  dsimp only at e3
  split at e3
  · rename_i nf
    have e7 : btw (P.getD j pt0) (P.getD (j + 1) pt0) = q := (Option.some.inj e3).trans e6
    obtain ⟨w1, w2⟩ := mw q0
    rw [w1, w2, wF_flat, wF_flat] at nf
    clear e3 w1 w2 mw
    generalize btw (P.getD j pt0) (P.getD (j + 1) pt0) = q'' at *
    subst e7
    refine ⟨q0, m0, g2, g1, nf, lev, fun l hl n ac z => ?_⟩
    have hl' : l ∈ linesv o ++ linesv p := by
      rcases List.mem_append.mp hl with hl | hl
      · exact List.mem_append_left _ (seg_line hl n)
      · exact List.mem_append_right _ (seg_line hl n)
    obtain ⟨_, n1, n2⟩ := ne hl'
    have a : act l (val h') := by
      unfold actC at ac
      unfold act
      rcases ac with ⟨a1, a2⟩ | ⟨a1, a2⟩
      · exact .inl ⟨a1, Rat.lt_of_le_of_ne a2 n2⟩
      · exact .inr ⟨a1, Rat.lt_of_le_of_ne a2 n1⟩
    obtain ⟨w, hw, e⟩ := pl hl' a
    have g := srt_gap hpl hj hw
    rw [e, ← z] at g
    grind
  · cases e3
theorem steps_fb : ∀ x ∈ stepsOf o p, Fb HB x := fun x hx => by
  rcases List.mem_append.mp (mem_ordv hx) with hx | hx
  · exact hts_fb (both_bn ho hp) x (mem_ordv hx)
  · obtain ⟨l, hl, rfl⟩ := List.mem_map.mp hx
    have hl := (List.mem_filter.mp hl).1
    rw [List.map_append] at hl
    have hbn : l.bn 100000 := by
      rcases List.mem_append.mp hl with hl | hl
      · exact hseg_bn ho l hl
      · exact hseg_bn hp l hl
    exact ⟨Nat.le_trans hbn.1.2 (by decide), by show (0 : Int) < 1; omega, by show (1 : Int).natAbs ≤ HB; decide⟩
/-- what is found is not too great -/
theorem part_fb {r : Rule} {q h : Pt} (hs : partv o p r = some (q, h)) : Fb (10 ^ 100) q ∧ Fb (10 ^ 100) h := by
  obtain ⟨k, hk, e⟩ := List.exists_of_findSome?_eq_some hs
  have hk : k + 1 < (stepsOf o p).length := by have := List.mem_range.mp hk; omega
  obtain ⟨q', e1, e2⟩ := Option.map_eq_some_iff.mp e
  obtain ⟨j, hj, e3⟩ := List.exists_of_findSome?_eq_some e1
  have hj : j + 1 < (placesAt (linesv o) (linesv p) (btw ((stepsOf o p).getD k pt0) ((stepsOf o p).getD (k + 1) pt0))).length := by have := List.mem_range.mp hj; omega
  have s1 : Fb HB ((stepsOf o p).getD k pt0) := by rw [getD_eq (by omega)]; exact steps_fb ho hp _ (List.getElem_mem _)
  have s2 : Fb HB ((stepsOf o p).getD (k + 1) pt0) := by rw [getD_eq hk]; exact steps_fb ho hp _ (List.getElem_mem _)
  have hh := btw_fb s1 s2
  have pf : ∀ x ∈ placesAt (linesv o) (linesv p) (btw ((stepsOf o p).getD k pt0) ((stepsOf o p).getD (k + 1) pt0)), Fb (100000000000 * (2 * HB * HB)) x := fun x hx => by
    obtain ⟨c, hc, rfl⟩ := List.mem_map.mp (mem_ordv hx)
    rcases List.mem_append.mp hc with hc | hc
    · exact crs_fb (hline_bn ho) hh c hc
    · exact crs_fb (hline_bn hp) hh c hc
  have e6 : q' = q := (Prod.ext_iff.mp e2).1
  have e5 := (Prod.ext_iff.mp e2).2
  dsimp only at e5
  have p1 : Fb (100000000000 * (2 * HB * HB)) ((placesAt (linesv o) (linesv p) (btw ((stepsOf o p).getD k pt0) ((stepsOf o p).getD (k + 1) pt0))).getD j pt0) := by rw [getD_eq (by omega)]; exact pf _ (List.getElem_mem _)
  have p2 : Fb (100000000000 * (2 * HB * HB)) ((placesAt (linesv o) (linesv p) (btw ((stepsOf o p).getD k pt0) ((stepsOf o p).getD (k + 1) pt0))).getD (j + 1) pt0) := by rw [getD_eq hj]; exact pf _ (List.getElem_mem _)
  have hq := btw_fb p1 p2
  dsimp only at e3
  split at e3
  · have e7 := (Option.some.inj e3).trans e6
    rw [e7] at hq
    rw [e5] at hh
    exact ⟨hq.mono (by decide), hh.mono (by decide)⟩
  · cases e3
end
end Gy

end

section
set_option Elab.async false
set_option linter.all false
set_option maxRecDepth 100000
namespace Gy.k60
open PySem Gy
noncomputable section
/-- _law_filled(_law_outline, _law_point, _law_rule); slots _law_outline _law_point _law_rule _law_x _law_over _law_y _law_under _law_found _law_on _law_one _law_other _law_up _law_low _law_high _law_side _law_within -/
def b_law_filled_1 : XS :=
    (sSeq (sAsg (xBin dSub (xFun (one bInt) (xCons (xBin dGt (xBin dIx (xLook 10) (xC (.int 1))) (xBin dIx (xLook 9) (xC (.int 1)))) xNil)) (xFun (one bInt) (xCons (xBin dLt (xBin dIx (xLook 10) (xC (.int 1))) (xBin dIx (xLook 9) (xC (.int 1)))) xNil))) (gNm 11))
    (sSeq (sAsg (xIf (tB (xBin dGe (xLook 11) (xC (.int 0)))) (xTup (xCons (xVar 9) (xCons (xVar 10) xNil))) (xTup (xCons (xVar 10) (xCons (xVar 9) xNil)))) (gTp (Gy.gCons (gNm 12) (Gy.gCons (gNm 13) gNil))))
    (sSeq (sAsg (xBin dAdd (xBin dMul (xBin dMul (xBin dSub (xBin dMul (xBin dIx (xLook 12) (xC (.int 0))) (xLook 4)) (xLook 3)) (xBin dSub (xBin dIx (xLook 13) (xC (.int 1))) (xBin dIx (xLook 12) (xC (.int 1))))) (xLook 6)) (xBin dMul (xBin dMul (xBin dSub (xBin dIx (xLook 13) (xC (.int 0))) (xBin dIx (xLook 12) (xC (.int 0)))) (xBin dSub (xLook 5) (xBin dMul (xBin dIx (xLook 12) (xC (.int 1))) (xLook 6)))) (xLook 4))) (gNm 14))
    (sSeq (sAsg (xChain dLe dLe (xBin dMul (xFun (two bMin) (xCons (xBin dIx (xLook 9) (xC (.int 0))) (xCons (xBin dIx (xLook 10) (xC (.int 0))) xNil))) (xLook 4)) (xLook 3) (xBin dMul (xFun (two bMax) (xCons (xBin dIx (xLook 9) (xC (.int 0))) (xCons (xBin dIx (xLook 10) (xC (.int 0))) xNil))) (xLook 4))) (gNm 15))
    (sSeq (sIf (tAnd (tB (xChain dLe dLe (xBin dMul (xBin dIx (xLook 12) (xC (.int 1))) (xLook 6)) (xLook 5) (xBin dMul (xBin dIx (xLook 13) (xC (.int 1))) (xLook 6)))) (tIfT (tB (xBin dEq (xLook 11) (xC (.int 0)))) (tTru (xLook 15)) (tB (xBin dEq (xLook 14) (xC (.int 0))))))
    (sAsg (xC (.bl true)) (gNm 8))
    sNil)
    (sIf (tAnd (tB (xChain dLe dLt (xBin dMul (xBin dIx (xLook 12) (xC (.int 1))) (xLook 6)) (xLook 5) (xBin dMul (xBin dIx (xLook 13) (xC (.int 1))) (xLook 6)))) (tB (xBin dGt (xLook 14) (xC (.int 0)))))
    (sAsg (xBin dAdd (xLook 7) (xLook 11)) (gNm 7))
    sNil))))))
def x_law_filled : XS :=
    (sSeq (sAsg (xVar 1) (gTp (Gy.gCons (gTp (Gy.gCons (gNm 3) (Gy.gCons (gNm 4) gNil))) (Gy.gCons (gTp (Gy.gCons (gNm 5) (Gy.gCons (gNm 6) gNil))) gNil))))
    (sSeq (sAsg (xC (.int 0)) (gNm 7))
    (sSeq (sAsg (xC (.bl false)) (gNm 8))
    (sSeq (sFor (iSeq (xCall (atN 1 s_law_pieces) (xCons (xVar 0) xNil))) (gTp (Gy.gCons (gNm 9) (Gy.gCons (gNm 10) gNil))) b_law_filled_1)
    (sRet (xTup (xCons (xIf (tB (xBin dEq (xLook 2) (xC (.str w_6f6464)))) (xBin dEq (xBin dMod (xLook 7) (xC (.int 2))) (xC (.int 1))) (xBin dNe (xLook 7) (xC (.int 0)))) (xCons (xVar 8) xNil))))))))
def s_law_filled : List D → R Sl := runF 16 x_law_filled
/-- _law_parted(_law_way, _law_k); slots _law_way _law_k _law_at _law_one _law_other -/
def x_law_parted : XS :=
    (sSeq (sIf (tB (xBin dLt (xFun (one dLen) (xCons (xLook 0) xNil)) (xC (.int 2))))
    (sRet (xVar 0))
    sNil)
    (sSeq (sAsg (xBin dAdd (xC (.int 1)) (xBin dMod (xLook 1) (xBin dSub (xFun (one dLen) (xCons (xLook 0) xNil)) (xC (.int 1))))) (gNm 2))
    (sSeq (sAsg (xCut (xBin dIx (xLook 0) (xBin dSub (xLook 2) (xC (.int 1)))) (xPart (xUn dNeg (xC (.int 2)))) xNoPart) (gNm 3))
    (sSeq (sAsg (xCut (xBin dIx (xLook 0) (xLook 2)) (xPart (xUn dNeg (xC (.int 2)))) xNoPart) (gNm 4))
    (sSeq (sIf (tOr (tB (xBin dEq (xBin dMod (xBin dAdd (xBin dIx (xLook 3) (xC (.int 0))) (xBin dIx (xLook 4) (xC (.int 0)))) (xC (.int 2))) (xC (.int 1)))) (tB (xBin dEq (xBin dMod (xBin dAdd (xBin dIx (xLook 3) (xC (.int 1))) (xBin dIx (xLook 4) (xC (.int 1)))) (xC (.int 2))) (xC (.int 1)))))
    (sRet (xVar 0))
    sNil)
    (sRet (xBin dAdd (xBin dAdd (xCut (xLook 0) xNoPart (xPart (xLook 2))) (xNew (xLst (xCons (xTup (xCons (xC (.str w_746f)) (xCons (xBin dDiv (xBin dAdd (xBin dIx (xLook 3) (xC (.int 0))) (xBin dIx (xLook 4) (xC (.int 0)))) (xC (.int 2))) (xCons (xBin dDiv (xBin dAdd (xBin dIx (xLook 3) (xC (.int 1))) (xBin dIx (xLook 4) (xC (.int 1)))) (xC (.int 2))) xNil)))) xNil)))) (xCut (xLook 0) (xPart (xLook 2)) xNoPart))))))))
def s_law_parted : List D → R Sl := runF 5 x_law_parted
/-- _law_fraction(_law_found); slots _law_found _law_one _law_other -/
def b_law_fraction_1 : XS :=
    (sPar 1 2 (xCons (xVar 2) (xCons (xBin dMod (xLook 1) (xLook 2)) xNil)))
def x_law_fraction : XS :=
    (sSeq (sIf (tOr (tNot (tB (xUn (bIs .tuple) (xLook 0)))) (tOr (tB (xBin dNe (xFun (one dLen) (xCons (xLook 0) xNil)) (xC (.int 2)))) (tOr (tNot (tB (xCall (atN 1 s_law_whole) (xCons (xBin dIx (xLook 0) (xC (.int 0))) xNil)))) (tNot (tB (xCall (atN 1 s_law_whole) (xCons (xBin dIx (xLook 0) (xC (.int 1))) xNil)))))))
    (sRet (xC (.bl false)))
    sNil)
    (sSeq (sPar 1 2 (xCons (xFun (one bAbs) (xCons (xBin dIx (xLook 0) (xC (.int 0))) xNil)) (xCons (xBin dIx (xLook 0) (xC (.int 1))) xNil)))
    (sSeq (sWh (tB (xBin dGt (xLook 2) (xC (.int 0)))) b_law_fraction_1)
    (sRet (xAnd (xBin dGt (xBin dIx (xLook 0) (xC (.int 1))) (xC (.int 0))) (xBin dEq (xLook 1) (xC (.int 1))))))))
def s_law_fraction : List D → R Sl := runF 3 x_law_fraction
/-- law(_law_script); slots _law_script _law_most _law_outline _law_way _law_other _law_corner _law_rule _law_found _law_first _law_on _law_second _law_by _law_points _law_k _law_number_here _law_one _law_point -/
def t_law_1 : XS :=
    (sAsg (xBin dIx (xNew (xLst (xCons (xC (.int 4)) (xCons (xC (.int 12)) xNil)))) (xBin dMod (xCall (atN 2 s_law_mix) (xCons (xVar 0) (xCons (xC (.int 90)) xNil))) (xC (.int 2)))) (gNm 1))
def t_law_2 : XS :=
    (sAsg (xCall (atN 3 s_law_straight) (xCons (xVar 0) (xCons (xC (.int 0)) (xCons (xVar 1) xNil)))) (gNm 2))
def t_law_3 : XS :=
    (sAsg (xBin dMod (xCall (atN 2 s_law_mix) (xCons (xVar 0) (xCons (xC (.int 91)) xNil))) (xC (.int 5))) (gNm 3))
def t_law_4 : XS :=
    (sAsg (xCall (atN 3 s_law_straight) (xCons (xVar 0) (xCons (xC (.int 40)) (xCons (xVar 1) xNil)))) (gNm 4))
def t_law_5 : XS :=
    (sIf (tB (xBin dEq (xLook 3) (xC (.int 1))))
    (sAsg (xCall (atN 1 s_turned_about) (xCons (xVar 2) xNil)) (gNm 4))
    sNil)
def t_law_6 : XS :=
    (sIf (tB (xBin dEq (xLook 3) (xC (.int 2))))
    (sAsg (xNew (xLc (iSeq (xVar 2)) (gNm 15) tYes (xCall (atN 2 s_law_parted) (xCons (xVar 15) (xCons (xCall (atN 2 s_law_mix) (xCons (xVar 0) (xCons (xC (.int 92)) xNil))) xNil))) [15])) (gNm 4))
    sNil)
def t_law_7 : XS :=
    (sIf (tAnd (tB (xBin dEq (xLook 3) (xC (.int 3)))) (tTru (xLook 2)))
    (sSeq (sOwn2 4 (x2Lc (iSeq (xVar 2)) (gNm 15) tYes (xFunN bList (xCons (xLook 15) xNil)) [15]))
    (sSeq (sAsg (xBin dIx (xRow 4 (xC (.int 0))) (xUn dNeg (xC (.int 1)))) (gNm 5))
    (sPutR 4 (xC (.int 0)) (xUn dNeg (xC (.int 1))) (xTup (xCons (xBin dIx (xLook 5) (xC (.int 0))) (xCons (xBin dSub (xBin dAdd (xBin dIx (xLook 5) (xC (.int 1))) (xBin dMod (xCall (atN 2 s_law_mix) (xCons (xVar 0) (xCons (xC (.int 93)) xNil))) (xC (.int 3)))) (xC (.int 1))) (xCons (xBin dIx (xLook 5) (xC (.int 2))) xNil)))))))
    sNil)
def t_law_8 : XS :=
    (sAsg (xBin dIx (xNew (xLst (xCons (xC (.str w_616e79)) (xCons (xC (.str w_6f6464)) xNil)))) (xBin dMod (xCall (atN 2 s_law_mix) (xCons (xVar 0) (xCons (xC (.int 94)) xNil))) (xC (.int 2)))) (gNm 6))
def t_law_9 : XS :=
    (sAsg (xCall (atN 3 s_parting) (xCons (xNew (xLc (iSeq (xVar 2)) (gNm 15) tYes (xNew (xFunN bList (xCons (xLook 15) xNil))) [15])) (xCons (xNew (xLc (iSeq (xVar 4)) (gNm 15) tYes (xNew (xFunN bList (xCons (xLook 15) xNil))) [15])) (xCons (xVar 6) xNil)))) (gNm 7))
def t_law_10 : XS :=
    (sIf (tAnd (tB (xBin (dInN false) (xLook 3) (xTup (xCons (xC (.int 1)) (xCons (xC (.int 2)) xNil))))) (tB (xBin dNotN (xLook 7) (xC .non))))
    (sRet (xC (.bl false)))
    sNil)
def t_law_11 : XS :=
    (sIf (tB (xBin dNotN (xLook 7) (xC .non)))
    (sSeq (sIf (tOr (tNot (tB (xUn (bIs .tuple) (xLook 7)))) (tOr (tB (xBin dNe (xFun (one dLen) (xCons (xLook 7) xNil)) (xC (.int 2)))) (tNot (tB (xFun (one bAll) (xCons (xNew (xLc (iSeq (xVar 7)) (gNm 15) tYes (xCall (atN 1 s_law_fraction) (xCons (xVar 15) xNil)) [15])) xNil))))))
    (sRet (xC (.bl false)))
    sNil)
    (sSeq (sAsg (xCall (atN 3 s_law_filled) (xCons (xVar 2) (xCons (xVar 7) (xCons (xVar 6) xNil)))) (gTp (Gy.gCons (gNm 8) (Gy.gCons (gNm 9) gNil))))
    (sSeq (sFrz 4) (sSeq (sAsg (xCall (atN 3 s_law_filled) (xCons (xVar 4) (xCons (xVar 7) (xCons (xVar 6) xNil)))) (gTp (Gy.gCons (gNm 10) (Gy.gCons (gNm 11) gNil))))
    (sRet (xAnd (xBin dNe (xLook 8) (xLook 10)) (xAnd (xNotT (xLook 9)) (xNotT (xLook 11)))))))))
    sNil)
def t_law_12 : XS :=
    (sOwn 12 (xLst xNil))
def b_law_1 : XS :=
    (sSeq (sAsg (xCall (atN 2 s_law_mix) (xCons (xVar 0) (xCons (xBin dAdd (xC (.int 100)) (xLook 13)) xNil))) (gNm 14))
    (sApp 12 (xTup (xCons (xTup (xCons (xBin dSub (xBin dMod (xBin dDiv (xLook 14) (xC (.int 8))) (xBin dMul (xC (.int 16)) (xLook 1))) (xBin dMul (xC (.int 8)) (xLook 1))) (xCons (xC (.int 7)) xNil))) (xCons (xTup (xCons (xBin dSub (xBin dMod (xBin dDiv (xLook 14) (xC (.int 4096))) (xBin dMul (xC (.int 16)) (xLook 1))) (xBin dMul (xC (.int 8)) (xLook 1))) (xCons (xC (.int 7)) xNil))) xNil)))))
def t_law_13 : XS :=
    (sFor (iRng1 (xC (.int 30))) (gNm 13) b_law_1)
def t_law_14 : XS :=
    (sRet (xFun (one bAll) (xCons (xNew (xLc (iSeq (xVar 12)) (gNm 16) tYes (xBin dEq (xBin dIx (xCall (atN 3 s_law_filled) (xCons (xVar 2) (xCons (xVar 16) (xCons (xVar 6) xNil)))) (xC (.int 0))) (xBin dIx (xCall (atN 3 s_law_filled) (xCons (xVar 4) (xCons (xVar 16) (xCons (xVar 6) xNil)))) (xC (.int 0)))) [16])) xNil)))
def x_law : XS :=
    (sSeq t_law_1
    (sSeq t_law_2
    (sSeq t_law_3
    (sSeq t_law_4
    (sSeq t_law_5
    (sSeq t_law_6
    (sSeq t_law_7
    (sSeq t_law_8
    (sSeq (sFrz 4) (sSeq t_law_9
    (sSeq t_law_10
    (sSeq t_law_11
    (sSeq t_law_12
    (sSeq t_law_13
    (sSeq (sFrz 4) (sSeq (sFrz 12) t_law_14))))))))))))))))
def s_law : List D → R Sl := runF 17 x_law
end
end Gy.k60

end

section
set_option Elab.async false
set_option linter.all false
set_option maxRecDepth 100000
set_option maxHeartbeats 4000000
namespace Gy.k60
open PySem PySem.Spec PyProof.Rows L2 Gy
def clsS (s : Stmt) (j : Nat) : Stmt := match s with
  | .ClassDef _ _ _ b _ _ _ _ _ _ _ => b.getD j (.Pass ⟨0, 0, 0, 0⟩)
  | _ => .Pass ⟨0, 0, 0, 0⟩
def topS (i : Nat) : Stmt := PySem.Challenge.pw_glyphyard_k60_whole_parting.main.body.getD i (.Pass ⟨0, 0, 0, 0⟩)
theorem e_nil : (Str.ofString "") = w_nil := by decide +kernel
theorem e_616e79 : (Str.ofString "any") = w_616e79 := by decide +kernel
theorem e_6174 : (Str.ofString "at") = w_6174 := by decide +kernel
theorem e_6279 : (Str.ofString "by") = w_6279 := by decide +kernel
theorem e_6f6464 : (Str.ofString "odd") = w_6f6464 := by decide +kernel
theorem e_746f : (Str.ofString "to") = w_746f := by decide +kernel
theorem e_746f6f : (Str.ofString "too") = w_746f6f := by decide +kernel
structure Tx (K : Frag) (w : World) (mg : Str → Option Value) (cv : Nat → Addr) : Prop where
  n_abs : mg "abs" = none
  n_all : mg "all" = none
  n_any : mg "any" = none
  n_bool : mg "bool" = none
  n_int : mg "int" = none
  n_isinstance : mg "isinstance" = none
  n_len : mg "len" = none
  n_list : mg "list" = none
  n_max : mg "max" = none
  n_min : mg "min" = none
  n_range : mg "range" = none
  n_reversed : mg "reversed" = none
  n_sum : mg "sum" = none
  n_tuple : mg "tuple" = none
  i_MOST : ∃ t, mg "MOST" = some (.int 100000 t)
  i_MOST_LINES : ∃ t, mg "MOST_LINES" = some (.int 20 t)
  i_MOST_STEPS : ∃ t, mg "MOST_STEPS" = some (.int 200 t)
  i_MOST_WAYS : ∃ t, mg "MOST_WAYS" = some (.int 40 t)
  e_BadOutline : ExcF K mg cv 0 "BadOutline"
  t_COUNTS : WTab K w mg "COUNTS" t_COUNTS
section
variable {P : Program} {w : World} {K : Frag} {mg : Str → Option Value} {base : Heap} {cv : Nat → Addr}
abbrev st_look_way : Stmt := topS 8
theorem sc_look_way : FnScope ["way", "k", "step", "number"] ["way"] (defScope st_look_way) := ⟨rfl, rfl, rfl, by decide +kernel, rfl, by decide +kernel, by decide +kernel⟩
theorem ok_look_way {f : Addr} {fd : FuncData} (T : Tx K w mg cv) (F : Fun K "look_way" "look_way" st_look_way f fd) (hm : mg "look_way" = some (.ref f))   : Fn P w K mg base cv 1 "look_way" 1 s_look_way := by
  have hb : Binds K fd ["way"] [] := F.binds fun _ _ _ _ _ _ us hl => match us, hl with | [_], _ => rfl
  refine fn_mk F sc_look_way rfl hm hb fun cdv A outer s H E hr => ?_
  have nd := sc_look_way.nd
  have hu := hr.units
  have tk : Takes (cxOf (L2.CX P w) P w K mg base ["way", "k", "step", "number"] "look_way" (defScope st_look_way) f cdv A outer s H E) (fun cls d _ H => E cls d H) := takes_of rfl rfl rfl rfl
  have po : PassesOwn (model P w) (cxOf (L2.CX P w) P w K mg base ["way", "k", "step", "number"] "look_way" (defScope st_look_way) f cdv A outer s H E).A (cxOf (L2.CX P w) P w K mg base ["way", "k", "step", "number"] "look_way" (defScope st_look_way) f cdv A outer s H E).env (cxOf (L2.CX P w) P w K mg base ["way", "k", "step", "number"] "look_way" (defScope st_look_way) f cdv A outer s H E).xe := passes_of rfl
  exact (rss_cons (rs_if (rt_w (rw_or (rt_not (rt_chain od_le od_le (by with_unfolding_all rfl) (RP.rl re_int) (RP.rl (rp_fun an_D cd_len T.n_len b_len (ral_cons (rl_look 0 (pv 0)) ral_nil))) (RP.rl (re_globI T.i_MOST_STEPS)))) (rw_or1 (rt_cp (od_ne hu) (nomark _) (RP.rl (re_ix (RP.rl (re_ix (rl_look 0 (pv 0)) (RP.rl re_int))) (RP.rl re_int))) (RP.rl (re_str e_6174))))))
    (rss_one (rs_raise T.e_BadOutline tk rfl))
    rss_nil)
    (rss_one (rs_for po rfl (ri_rng1 T.n_range (ral_cons (RP.rl (rp_fun an_D cd_len T.n_len b_len (ral_cons (rl_look 0 (pv 0)) ral_nil))) ral_nil)) (rg_nm 1 (pg_name (i := 1) nd rfl (by first | exact Or.inl rfl | exact Or.inr rfl)))
    (rss_cons (rs_asg (re_ix (rl_look 0 (pv 0)) (rl_look 1 (pv 1))) (rg_nm 2 (pg_name (i := 2) nd rfl (by first | exact Or.inl rfl | exact Or.inr rfl))))
    (rss_cons (rs_if (rt_w (rw_or (rt_cp (od_ne hu) (nomark _) (RP.rl (re_tget T.t_COUNTS (RP.rl (re_ix (rl_look 2 (pv 2)) (RP.rl re_int))) ⟨rfl, rfl, rfl, rfl⟩)) (RP.rl (rp_fun an_D cd_len T.n_len b_len (ral_cons (rl_look 2 (pv 2)) ral_nil)))) (rw_or1 (rt_w (rw_and (rt_cp od_gt (nomark _) (rl_look 1 (pv 1)) (RP.rl re_int)) (rw_and1 (rt_cp (od_eq hu) (nomark _) (RP.rl (re_ix (rl_look 2 (pv 2)) (RP.rl re_int))) (RP.rl (re_str e_6174)))))))))
    (rss_one (rs_raise T.e_BadOutline tk rfl))
    rss_nil)
    (rss_one (rs_if (rt_not (rt_val (rp_fun an_D (cd_all rfl) T.n_all b_all (ral_cons (RP.rl (RP.re (rn_lc (own := [("number", 3)]) rfl nd (ri_seq (re_cut (rl_look 2 (pv 2)) (ro_some (RP.rl re_int)) ro_none)) (blkOk_by (by kernel_rfl)) (fun _ _ _ _ _ => (rg_nm 3 (pg_name (i := 3) nd rfl (by first | exact Or.inl rfl | exact Or.inr rfl)))) (fun _ _ _ _ _ => rts_nil) (fun _ _ _ _ _ => (re_chain od_le od_le (by with_unfolding_all rfl) (RP.rl (re_neg (RP.rl (re_globI T.i_MOST)))) (rl_look 3 (pv 3)) (RP.rl (re_globI T.i_MOST))))))) ral_nil))))
    (rss_one (rs_raise T.e_BadOutline tk rfl))
    rss_nil)))))))
abbrev st_look_outline : Stmt := topS 9
theorem sc_look_outline : FnScope ["outline", "way"] ["outline"] (defScope st_look_outline) := ⟨rfl, rfl, rfl, by decide +kernel, rfl, by decide +kernel, by decide +kernel⟩
theorem ok_look_outline {f : Addr} {fd : FuncData} (T : Tx K w mg cv) (F : Fun K "look_outline" "look_outline" st_look_outline f fd) (hm : mg "look_outline" = some (.ref f))  (G_look_way : Fn P w K mg base cv 1 "look_way" 1 s_look_way) : Fn P w K mg base cv 2 "look_outline" 1 s_look_outline := by
  have hb : Binds K fd ["outline"] [] := F.binds fun _ _ _ _ _ _ us hl => match us, hl with | [_], _ => rfl
  refine fn_mk F sc_look_outline rfl hm hb fun cdv A outer s H E hr => ?_
  have nd := sc_look_outline.nd
  have hu := hr.units
  have tk : Takes (cxOf (L2.CX P w) P w K mg base ["outline", "way"] "look_outline" (defScope st_look_outline) f cdv A outer s H E) (fun cls d _ H => E cls d H) := takes_of rfl rfl rfl rfl
  have po : PassesOwn (model P w) (cxOf (L2.CX P w) P w K mg base ["outline", "way"] "look_outline" (defScope st_look_outline) f cdv A outer s H E).A (cxOf (L2.CX P w) P w K mg base ["outline", "way"] "look_outline" (defScope st_look_outline) f cdv A outer s H E).env (cxOf (L2.CX P w) P w K mg base ["outline", "way"] "look_outline" (defScope st_look_outline) f cdv A outer s H E).xe := passes_of rfl
  exact (rss_cons (rs_if (rt_cp od_gt (nomark _) (RP.rl (rp_fun an_D cd_len T.n_len b_len (ral_cons (rl_look 0 (pv 0)) ral_nil))) (RP.rl (re_globI T.i_MOST_WAYS)))
    (rss_one (rs_raise T.e_BadOutline tk rfl))
    rss_nil)
    (rss_one (rs_for po rfl (ri_seq (re_var 0 (pv 0))) (rg_nm 1 (pg_name (i := 1) nd rfl (by first | exact Or.inl rfl | exact Or.inr rfl)))
    (rss_one (rs_expr (re_call G_look_way (hr.mono (by decide)) tk (ra_cons (re_var 1 (pv 1)) ra_nil)))))))
abbrev st_pieces_of : Stmt := topS 10
theorem sc_pieces_of : FnScope ["way", "found", "begin", "here", "step"] ["way"] (defScope st_pieces_of) := ⟨rfl, rfl, rfl, by decide +kernel, rfl, by decide +kernel, by decide +kernel⟩
theorem ok_pieces_of {f : Addr} {fd : FuncData} (T : Tx K w mg cv) (F : Fun K "pieces_of" "pieces_of" st_pieces_of f fd) (hm : mg "pieces_of" = some (.ref f))   : Fn P w K mg base cv 1 "pieces_of" 1 s_pieces_of := by
  have hb : Binds K fd ["way"] [] := F.binds fun _ _ _ _ _ _ us hl => match us, hl with | [_], _ => rfl
  refine fn_mk F sc_pieces_of rfl hm hb fun cdv A outer s H E hr => ?_
  have nd := sc_pieces_of.nd
  have hu := hr.units
  have tk : Takes (cxOf (L2.CX P w) P w K mg base ["way", "found", "begin", "here", "step"] "pieces_of" (defScope st_pieces_of) f cdv A outer s H E) (fun cls d _ H => E cls d H) := takes_of rfl rfl rfl rfl
  have po : PassesOwn (model P w) (cxOf (L2.CX P w) P w K mg base ["way", "found", "begin", "here", "step"] "pieces_of" (defScope st_pieces_of) f cdv A outer s H E).A (cxOf (L2.CX P w) P w K mg base ["way", "found", "begin", "here", "step"] "pieces_of" (defScope st_pieces_of) f cdv A outer s H E).env (cxOf (L2.CX P w) P w K mg base ["way", "found", "begin", "here", "step"] "pieces_of" (defScope st_pieces_of) f cdv A outer s H E).xe := passes_of rfl
  exact (rss_cons (rs_own 1 (rn_lst ra_nil) (fun h => ps_set (i := 1) nd rfl (by first | exact Or.inl rfl | exact Or.inr rfl) h))
    (rss_cons (rs_asg (re_cut (RP.rl (re_ix (rl_look 0 (pv 0)) (RP.rl re_int))) (ro_some (RP.rl re_int)) ro_none) (rg_nm 2 (pg_name (i := 2) nd rfl (by first | exact Or.inl rfl | exact Or.inr rfl))))
    (rss_cons (rs_asg (re_var 2 (pv 2)) (rg_nm 3 (pg_name (i := 3) nd rfl (by first | exact Or.inl rfl | exact Or.inr rfl))))
    (rss_cons (rs_for po rfl (ri_seq (re_cut (rl_look 0 (pv 0)) (ro_some (RP.rl re_int)) ro_none)) (rg_nm 4 (pg_name (i := 4) nd rfl (by first | exact Or.inl rfl | exact Or.inr rfl)))
    (rss_one (rs_if (rt_cp (od_eq hu) (nomark _) (RP.rl (re_ix (rl_look 4 (pv 4)) (RP.rl re_int))) (RP.rl (re_str e_746f)))
    (rss_cons (rs_app 1 (pv 1) (re_tup (ra_cons (re_var 3 (pv 3)) (ra_cons (re_cut (rl_look 4 (pv 4)) (ro_some (RP.rl re_int)) ro_none) ra_nil))))
    (rss_one (rs_asg (re_cut (rl_look 4 (pv 4)) (ro_some (RP.rl re_int)) ro_none) (rg_nm 3 (pg_name (i := 3) nd rfl (by first | exact Or.inl rfl | exact Or.inr rfl))))))
    (rss_cons (rs_app 1 (pv 1) (re_tup (ra_cons (re_var 3 (pv 3)) (ra_cons (re_cut (rl_look 4 (pv 4)) (ro_some (RP.rl re_int)) (ro_some (RP.rl re_int))) (ra_cons (re_cut (rl_look 4 (pv 4)) (ro_some (RP.rl re_int)) ro_none) ra_nil)))))
    (rss_one (rs_asg (re_cut (rl_look 4 (pv 4)) (ro_some (RP.rl re_int)) ro_none) (rg_nm 3 (pg_name (i := 3) nd rfl (by first | exact Or.inl rfl | exact Or.inr rfl)))))))))
    (rss_cons (rs_if (rt_cp (od_ne hu) (nomark _) (rl_look 3 (pv 3)) (rl_look 2 (pv 2)))
    (rss_one (rs_app 1 (pv 1) (re_tup (ra_cons (re_var 3 (pv 3)) (ra_cons (re_var 2 (pv 2)) ra_nil)))))
    rss_nil)
    (rss_one (rs_retO 1 (pv 1))))))))
abbrev st_all_pieces : Stmt := topS 12
theorem sc_all_pieces : FnScope ["outline", "found", "way"] ["outline"] (defScope st_all_pieces) := ⟨rfl, rfl, rfl, by decide +kernel, rfl, by decide +kernel, by decide +kernel⟩
theorem ok_all_pieces {f : Addr} {fd : FuncData} (T : Tx K w mg cv) (F : Fun K "all_pieces" "all_pieces" st_all_pieces f fd) (hm : mg "all_pieces" = some (.ref f))  (G_pieces_of : Fn P w K mg base cv 1 "pieces_of" 1 s_pieces_of) : Fn P w K mg base cv 2 "all_pieces" 1 s_all_pieces := by
  have hb : Binds K fd ["outline"] [] := F.binds fun _ _ _ _ _ _ us hl => match us, hl with | [_], _ => rfl
  refine fn_mk F sc_all_pieces rfl hm hb fun cdv A outer s H E hr => ?_
  have nd := sc_all_pieces.nd
  have hu := hr.units
  have tk : Takes (cxOf (L2.CX P w) P w K mg base ["outline", "found", "way"] "all_pieces" (defScope st_all_pieces) f cdv A outer s H E) (fun cls d _ H => E cls d H) := takes_of rfl rfl rfl rfl
  have po : PassesOwn (model P w) (cxOf (L2.CX P w) P w K mg base ["outline", "found", "way"] "all_pieces" (defScope st_all_pieces) f cdv A outer s H E).A (cxOf (L2.CX P w) P w K mg base ["outline", "found", "way"] "all_pieces" (defScope st_all_pieces) f cdv A outer s H E).env (cxOf (L2.CX P w) P w K mg base ["outline", "found", "way"] "all_pieces" (defScope st_all_pieces) f cdv A outer s H E).xe := passes_of rfl
  exact (rss_cons (rs_own 1 (rn_lst ra_nil) (fun h => ps_set (i := 1) nd rfl (by first | exact Or.inl rfl | exact Or.inr rfl) h))
    (rss_cons (rs_for po rfl (ri_seq (re_var 0 (pv 0))) (rg_nm 2 (pg_name (i := 2) nd rfl (by first | exact Or.inl rfl | exact Or.inr rfl)))
    (rss_one (rs_ext 1 (pv 1) (re_call G_pieces_of (hr.mono (by decide)) tk (ra_cons (re_var 2 (pv 2)) ra_nil)))))
    (rss_one (rs_retO 1 (pv 1)))))
abbrev st_pieces : Stmt := topS 11
theorem sc_pieces : FnScope ["outline"] ["outline"] (defScope st_pieces) := ⟨rfl, rfl, rfl, by decide +kernel, rfl, by decide +kernel, by decide +kernel⟩
theorem ok_pieces {f : Addr} {fd : FuncData} (T : Tx K w mg cv) (F : Fun K "pieces" "pieces" st_pieces f fd) (hm : mg "pieces" = some (.ref f))  (G_all_pieces : Fn P w K mg base cv 2 "all_pieces" 1 s_all_pieces) (G_look_outline : Fn P w K mg base cv 2 "look_outline" 1 s_look_outline) : Fn P w K mg base cv 3 "pieces" 1 s_pieces := by
  have hb : Binds K fd ["outline"] [] := F.binds fun _ _ _ _ _ _ us hl => match us, hl with | [_], _ => rfl
  refine fn_mk F sc_pieces rfl hm hb fun cdv A outer s H E hr => ?_
  have nd := sc_pieces.nd
  have hu := hr.units
  have tk : Takes (cxOf (L2.CX P w) P w K mg base ["outline"] "pieces" (defScope st_pieces) f cdv A outer s H E) (fun cls d _ H => E cls d H) := takes_of rfl rfl rfl rfl
  have po : PassesOwn (model P w) (cxOf (L2.CX P w) P w K mg base ["outline"] "pieces" (defScope st_pieces) f cdv A outer s H E).A (cxOf (L2.CX P w) P w K mg base ["outline"] "pieces" (defScope st_pieces) f cdv A outer s H E).env (cxOf (L2.CX P w) P w K mg base ["outline"] "pieces" (defScope st_pieces) f cdv A outer s H E).xe := passes_of rfl
  exact (rss_cons (rs_expr (re_call G_look_outline (hr.mono (by decide)) tk (ra_cons (re_var 0 (pv 0)) ra_nil)))
    (rss_one (rs_retN (rn_call G_all_pieces (hr.mono (by decide)) tk (ra_cons (re_var 0 (pv 0)) ra_nil)))))
abbrev st_way_of : Stmt := topS 13
theorem sc_way_of : FnScope ["some", "found", "piece"] ["some"] (defScope st_way_of) := ⟨rfl, rfl, rfl, by decide +kernel, rfl, by decide +kernel, by decide +kernel⟩
theorem ok_way_of {f : Addr} {fd : FuncData} (T : Tx K w mg cv) (F : Fun K "way_of" "way_of" st_way_of f fd) (hm : mg "way_of" = some (.ref f))   : Fn P w K mg base cv 1 "way_of" 1 s_way_of := by
  have hb : Binds K fd ["some"] [] := F.binds fun _ _ _ _ _ _ us hl => match us, hl with | [_], _ => rfl
  refine fn_mk F sc_way_of rfl hm hb fun cdv A outer s H E hr => ?_
  have nd := sc_way_of.nd
  have hu := hr.units
  have tk : Takes (cxOf (L2.CX P w) P w K mg base ["some", "found", "piece"] "way_of" (defScope st_way_of) f cdv A outer s H E) (fun cls d _ H => E cls d H) := takes_of rfl rfl rfl rfl
  have po : PassesOwn (model P w) (cxOf (L2.CX P w) P w K mg base ["some", "found", "piece"] "way_of" (defScope st_way_of) f cdv A outer s H E).A (cxOf (L2.CX P w) P w K mg base ["some", "found", "piece"] "way_of" (defScope st_way_of) f cdv A outer s H E).env (cxOf (L2.CX P w) P w K mg base ["some", "found", "piece"] "way_of" (defScope st_way_of) f cdv A outer s H E).xe := passes_of rfl
  exact (rss_cons (rs_own 1 (rn_lst (ra_cons (re_op od_add (RP.rl (re_tup (ra_cons (re_str e_6174) ra_nil))) (RP.rl (re_ix (RP.rl (re_ix (rl_look 0 (pv 0)) (RP.rl re_int))) (RP.rl re_int)))) ra_nil)) (fun h => ps_set (i := 1) nd rfl (by first | exact Or.inl rfl | exact Or.inr rfl) h))
    (rss_cons (rs_for po rfl (ri_seq (re_var 0 (pv 0))) (rg_nm 2 (pg_name (i := 2) nd rfl (by first | exact Or.inl rfl | exact Or.inr rfl)))
    (rss_one (rs_if (rt_cp (od_eq hu) (nomark _) (RP.rl (rp_fun an_D cd_len T.n_len b_len (ral_cons (rl_look 2 (pv 2)) ral_nil))) (RP.rl re_int))
    (rss_one (rs_app 1 (pv 1) (re_op od_add (RP.rl (re_tup (ra_cons (re_str e_746f) ra_nil))) (RP.rl (re_ix (rl_look 2 (pv 2)) (RP.rl re_int))))))
    (rss_one (rs_app 1 (pv 1) (re_op od_add (RP.rl (re_op od_add (RP.rl (re_tup (ra_cons (re_str e_6279) ra_nil))) (RP.rl (re_ix (rl_look 2 (pv 2)) (RP.rl re_int))))) (RP.rl (re_ix (rl_look 2 (pv 2)) (RP.rl re_int)))))))))
    (rss_one (rs_retO 1 (pv 1)))))
abbrev st_turned_about : Stmt := topS 14
theorem sc_turned_about : FnScope ["outline", "found", "way", "some", "piece"] ["outline"] (defScope st_turned_about) := ⟨rfl, rfl, rfl, by decide +kernel, rfl, by decide +kernel, by decide +kernel⟩
theorem ok_turned_about {f : Addr} {fd : FuncData} (T : Tx K w mg cv) (F : Fun K "turned_about" "turned_about" st_turned_about f fd) (hm : mg "turned_about" = some (.ref f))  (G_look_outline : Fn P w K mg base cv 2 "look_outline" 1 s_look_outline) (G_pieces_of : Fn P w K mg base cv 1 "pieces_of" 1 s_pieces_of) (G_way_of : Fn P w K mg base cv 1 "way_of" 1 s_way_of) : Fn P w K mg base cv 3 "turned_about" 1 s_turned_about := by
  have hb : Binds K fd ["outline"] [] := F.binds fun _ _ _ _ _ _ us hl => match us, hl with | [_], _ => rfl
  refine fn_mk F sc_turned_about rfl hm hb fun cdv A outer s H E hr => ?_
  have nd := sc_turned_about.nd
  have hu := hr.units
  have tk : Takes (cxOf (L2.CX P w) P w K mg base ["outline", "found", "way", "some", "piece"] "turned_about" (defScope st_turned_about) f cdv A outer s H E) (fun cls d _ H => E cls d H) := takes_of rfl rfl rfl rfl
  have po : PassesOwn (model P w) (cxOf (L2.CX P w) P w K mg base ["outline", "found", "way", "some", "piece"] "turned_about" (defScope st_turned_about) f cdv A outer s H E).A (cxOf (L2.CX P w) P w K mg base ["outline", "found", "way", "some", "piece"] "turned_about" (defScope st_turned_about) f cdv A outer s H E).env (cxOf (L2.CX P w) P w K mg base ["outline", "found", "way", "some", "piece"] "turned_about" (defScope st_turned_about) f cdv A outer s H E).xe := passes_of rfl
  exact (rss_cons (rs_expr (re_call G_look_outline (hr.mono (by decide)) tk (ra_cons (re_var 0 (pv 0)) ra_nil)))
    (rss_cons (rs_own 1 (rn_lst ra_nil) (fun h => ps_set (i := 1) nd rfl (by first | exact Or.inl rfl | exact Or.inr rfl) h))
    (rss_cons (rs_for po rfl (ri_seq (re_var 0 (pv 0))) (rg_nm 2 (pg_name (i := 2) nd rfl (by first | exact Or.inl rfl | exact Or.inr rfl)))
    (rss_cons (rs_lcD 3 (own := [("piece", 4)]) rfl nd (ri_rev T.n_reversed (re_call G_pieces_of (hr.mono (by decide)) tk (ra_cons (re_var 2 (pv 2)) ra_nil))) (blkOk_by (by kernel_rfl)) (fun _ _ _ _ _ => (rg_nm 4 (pg_name (i := 4) nd rfl (by first | exact Or.inl rfl | exact Or.inr rfl)))) (fun _ _ _ _ _ => rts_nil) (fun _ _ _ _ _ => (re_back (rl_look 4 (pv 4)))) (sw_true rfl rfl rfl (by decide +kernel)))
    (rss_one (rs_app 1 (pv 1) (re_if (rt_tru (rl_look 3 (pv 3))) (re_call G_way_of (hr.mono (by decide)) tk (ra_cons (re_var 3 (pv 3)) ra_nil)) (RP.re (rp_ty an_N cd_list T.n_list b_list (ral_cons (rl_look 2 (pv 2)) ral_nil))))))))
    (rss_frz 1 (rss_cons (rs_expr (re_call G_look_outline (hr.mono (by decide)) tk (ra_cons (re_var 1 (pv 1)) ra_nil)))
    (rss_frz 1 (rss_one (rs_ret (re_var 1 (pv 1))))))))))
abbrev st_fraction : Stmt := topS 17
theorem sc_fraction : FnScope ["top", "under", "one", "other"] ["top", "under"] (defScope st_fraction) := ⟨rfl, rfl, rfl, by decide +kernel, rfl, by decide +kernel, by decide +kernel⟩
theorem ok_fraction {f : Addr} {fd : FuncData} (T : Tx K w mg cv) (F : Fun K "fraction" "fraction" st_fraction f fd) (hm : mg "fraction" = some (.ref f))   : Fn P w K mg base cv 1 "fraction" 2 s_fraction := by
  have hb : Binds K fd ["top", "under"] [] := F.binds fun _ _ _ _ _ _ us hl => match us, hl with | [_, _], _ => rfl
  refine fn_mk F sc_fraction rfl hm hb fun cdv A outer s H E hr => ?_
  have nd := sc_fraction.nd
  have hu := hr.units
  have tk : Takes (cxOf (L2.CX P w) P w K mg base ["top", "under", "one", "other"] "fraction" (defScope st_fraction) f cdv A outer s H E) (fun cls d _ H => E cls d H) := takes_of rfl rfl rfl rfl
  have po : PassesOwn (model P w) (cxOf (L2.CX P w) P w K mg base ["top", "under", "one", "other"] "fraction" (defScope st_fraction) f cdv A outer s H E).A (cxOf (L2.CX P w) P w K mg base ["top", "under", "one", "other"] "fraction" (defScope st_fraction) f cdv A outer s H E).env (cxOf (L2.CX P w) P w K mg base ["top", "under", "one", "other"] "fraction" (defScope st_fraction) f cdv A outer s H E).xe := passes_of rfl
  exact (rss_cons (rs_if (rt_cp od_lt (nomark _) (rl_look 1 (pv 1)) (RP.rl re_int))
    (rss_one (rs_par (i := 0) (j := 1) rfl nd (ra_cons (re_neg (rl_look 0 (pv 0))) (ra_cons (re_neg (rl_look 1 (pv 1))) ra_nil))))
    rss_nil)
    (rss_cons (rs_par (i := 2) (j := 3) rfl nd (ra_cons (rp_fun an_D cd_abs T.n_abs b_abs (ral_cons (rl_look 0 (pv 0)) ral_nil)) (ra_cons (re_var 1 (pv 1)) ra_nil)))
    (rss_cons (rs_while po (rt_cp od_gt (nomark _) (rl_look 3 (pv 3)) (RP.rl re_int))
    (rss_one (rs_par (i := 2) (j := 3) rfl nd (ra_cons (re_var 3 (pv 3)) (ra_cons (re_op od_mod (rl_look 2 (pv 2)) (rl_look 3 (pv 3))) ra_nil)))))
    (rss_one (rs_ret (re_tup (ra_cons (re_op od_div (rl_look 0 (pv 0)) (rl_look 2 (pv 2))) (ra_cons (re_op od_div (rl_look 1 (pv 1)) (rl_look 2 (pv 2))) ra_nil))))))))
abbrev st_less : Stmt := topS 18
theorem sc_less : FnScope ["one", "other"] ["one", "other"] (defScope st_less) := ⟨rfl, rfl, rfl, by decide +kernel, rfl, by decide +kernel, by decide +kernel⟩
theorem ok_less {f : Addr} {fd : FuncData} (T : Tx K w mg cv) (F : Fun K "less" "less" st_less f fd) (hm : mg "less" = some (.ref f))   : Fn P w K mg base cv 1 "less" 2 s_less := by
  have hb : Binds K fd ["one", "other"] [] := F.binds fun _ _ _ _ _ _ us hl => match us, hl with | [_, _], _ => rfl
  refine fn_mk F sc_less rfl hm hb fun cdv A outer s H E hr => ?_
  have nd := sc_less.nd
  have hu := hr.units
  have tk : Takes (cxOf (L2.CX P w) P w K mg base ["one", "other"] "less" (defScope st_less) f cdv A outer s H E) (fun cls d _ H => E cls d H) := takes_of rfl rfl rfl rfl
  have po : PassesOwn (model P w) (cxOf (L2.CX P w) P w K mg base ["one", "other"] "less" (defScope st_less) f cdv A outer s H E).A (cxOf (L2.CX P w) P w K mg base ["one", "other"] "less" (defScope st_less) f cdv A outer s H E).env (cxOf (L2.CX P w) P w K mg base ["one", "other"] "less" (defScope st_less) f cdv A outer s H E).xe := passes_of rfl
  exact (rss_one (rs_ret (re_cp od_lt (nomark _) (RP.rl (re_op od_mul (RP.rl (re_ix (rl_look 0 (pv 0)) (RP.rl re_int))) (RP.rl (re_ix (rl_look 1 (pv 1)) (RP.rl re_int))))) (RP.rl (re_op od_mul (RP.rl (re_ix (rl_look 1 (pv 1)) (RP.rl re_int))) (RP.rl (re_ix (rl_look 0 (pv 0)) (RP.rl re_int))))))))
abbrev st_between : Stmt := topS 19
theorem sc_between : FnScope ["one", "other"] ["one", "other"] (defScope st_between) := ⟨rfl, rfl, rfl, by decide +kernel, rfl, by decide +kernel, by decide +kernel⟩
theorem ok_between {f : Addr} {fd : FuncData} (T : Tx K w mg cv) (F : Fun K "between" "between" st_between f fd) (hm : mg "between" = some (.ref f))  (G_fraction : Fn P w K mg base cv 1 "fraction" 2 s_fraction) : Fn P w K mg base cv 2 "between" 2 s_between := by
  have hb : Binds K fd ["one", "other"] [] := F.binds fun _ _ _ _ _ _ us hl => match us, hl with | [_, _], _ => rfl
  refine fn_mk F sc_between rfl hm hb fun cdv A outer s H E hr => ?_
  have nd := sc_between.nd
  have hu := hr.units
  have tk : Takes (cxOf (L2.CX P w) P w K mg base ["one", "other"] "between" (defScope st_between) f cdv A outer s H E) (fun cls d _ H => E cls d H) := takes_of rfl rfl rfl rfl
  have po : PassesOwn (model P w) (cxOf (L2.CX P w) P w K mg base ["one", "other"] "between" (defScope st_between) f cdv A outer s H E).A (cxOf (L2.CX P w) P w K mg base ["one", "other"] "between" (defScope st_between) f cdv A outer s H E).env (cxOf (L2.CX P w) P w K mg base ["one", "other"] "between" (defScope st_between) f cdv A outer s H E).xe := passes_of rfl
  exact (rss_one (rs_ret (re_call G_fraction (hr.mono (by decide)) tk (ra_cons (re_op od_add (RP.rl (re_op od_mul (RP.rl (re_ix (rl_look 0 (pv 0)) (RP.rl re_int))) (RP.rl (re_ix (rl_look 1 (pv 1)) (RP.rl re_int))))) (RP.rl (re_op od_mul (RP.rl (re_ix (rl_look 1 (pv 1)) (RP.rl re_int))) (RP.rl (re_ix (rl_look 0 (pv 0)) (RP.rl re_int)))))) (ra_cons (re_op od_mul (RP.rl (re_op od_mul (RP.rl re_int) (RP.rl (re_ix (rl_look 0 (pv 0)) (RP.rl re_int))))) (RP.rl (re_ix (rl_look 1 (pv 1)) (RP.rl re_int)))) ra_nil)))))
abbrev st_in_order : Stmt := topS 20
theorem sc_in_order : FnScope ["some", "found", "one", "at"] ["some"] (defScope st_in_order) := ⟨rfl, rfl, rfl, by decide +kernel, rfl, by decide +kernel, by decide +kernel⟩
theorem ok_in_order {f : Addr} {fd : FuncData} (T : Tx K w mg cv) (F : Fun K "in_order" "in_order" st_in_order f fd) (hm : mg "in_order" = some (.ref f))  (G_less : Fn P w K mg base cv 1 "less" 2 s_less) : Fn P w K mg base cv 2 "in_order" 1 s_in_order := by
  have hb : Binds K fd ["some"] [] := F.binds fun _ _ _ _ _ _ us hl => match us, hl with | [_], _ => rfl
  refine fn_mk F sc_in_order rfl hm hb fun cdv A outer s H E hr => ?_
  have nd := sc_in_order.nd
  have hu := hr.units
  have tk : Takes (cxOf (L2.CX P w) P w K mg base ["some", "found", "one", "at"] "in_order" (defScope st_in_order) f cdv A outer s H E) (fun cls d _ H => E cls d H) := takes_of rfl rfl rfl rfl
  have po : PassesOwn (model P w) (cxOf (L2.CX P w) P w K mg base ["some", "found", "one", "at"] "in_order" (defScope st_in_order) f cdv A outer s H E).A (cxOf (L2.CX P w) P w K mg base ["some", "found", "one", "at"] "in_order" (defScope st_in_order) f cdv A outer s H E).env (cxOf (L2.CX P w) P w K mg base ["some", "found", "one", "at"] "in_order" (defScope st_in_order) f cdv A outer s H E).xe := passes_of rfl
  exact (rss_cons (rs_own 1 (rn_lst ra_nil) (fun h => ps_set (i := 1) nd rfl (by first | exact Or.inl rfl | exact Or.inr rfl) h))
    (rss_cons (rs_for po rfl (ri_seq (re_var 0 (pv 0))) (rg_nm 2 (pg_name (i := 2) nd rfl (by first | exact Or.inl rfl | exact Or.inr rfl)))
    (rss_cons (rs_asg re_int (rg_nm 3 (pg_name (i := 3) nd rfl (by first | exact Or.inl rfl | exact Or.inr rfl))))
    (rss_cons (rs_while po (rt_w (rw_and (rt_cp od_lt (nomark _) (rl_look 3 (pv 3)) (RP.rl (rp_fun an_D cd_len T.n_len b_len (ral_cons (rl_look 1 (pv 1)) ral_nil)))) (rw_and1 (rt_val (re_call G_less (hr.mono (by decide)) tk (ra_cons (re_ix (rl_look 1 (pv 1)) (rl_look 3 (pv 3))) (ra_cons (re_var 2 (pv 2)) ra_nil)))))))
    (rss_one (rs_asg (re_op od_add (rl_look 3 (pv 3)) (RP.rl re_int)) (rg_nm 3 (pg_name (i := 3) nd rfl (by first | exact Or.inl rfl | exact Or.inr rfl))))))
    (rss_one (rs_if (rt_w (rw_or (rt_cp (od_eq hu) (nomark _) (rl_look 3 (pv 3)) (RP.rl (rp_fun an_D cd_len T.n_len b_len (ral_cons (rl_look 1 (pv 1)) ral_nil)))) (rw_or1 (rt_val (re_call G_less (hr.mono (by decide)) tk (ra_cons (re_var 2 (pv 2)) (ra_cons (re_ix (rl_look 1 (pv 1)) (rl_look 3 (pv 3))) ra_nil)))))))
    (rss_one (rs_ins 1 (pv 1) (re_var 3 (pv 3)) (re_var 2 (pv 2))))
    rss_nil)))))
    (rss_one (rs_retO 1 (pv 1)))))
abbrev st_lines_of : Stmt := topS 21
theorem sc_lines_of : FnScope ["outline", "found", "piece"] ["outline"] (defScope st_lines_of) := ⟨rfl, rfl, rfl, by decide +kernel, rfl, by decide +kernel, by decide +kernel⟩
theorem ok_lines_of {f : Addr} {fd : FuncData} (T : Tx K w mg cv) (F : Fun K "lines_of" "lines_of" st_lines_of f fd) (hm : mg "lines_of" = some (.ref f))  (G_pieces : Fn P w K mg base cv 3 "pieces" 1 s_pieces) : Fn P w K mg base cv 4 "lines_of" 1 s_lines_of := by
  have hb : Binds K fd ["outline"] [] := F.binds fun _ _ _ _ _ _ us hl => match us, hl with | [_], _ => rfl
  refine fn_mk F sc_lines_of rfl hm hb fun cdv A outer s H E hr => ?_
  have nd := sc_lines_of.nd
  have hu := hr.units
  have tk : Takes (cxOf (L2.CX P w) P w K mg base ["outline", "found", "piece"] "lines_of" (defScope st_lines_of) f cdv A outer s H E) (fun cls d _ H => E cls d H) := takes_of rfl rfl rfl rfl
  have po : PassesOwn (model P w) (cxOf (L2.CX P w) P w K mg base ["outline", "found", "piece"] "lines_of" (defScope st_lines_of) f cdv A outer s H E).A (cxOf (L2.CX P w) P w K mg base ["outline", "found", "piece"] "lines_of" (defScope st_lines_of) f cdv A outer s H E).env (cxOf (L2.CX P w) P w K mg base ["outline", "found", "piece"] "lines_of" (defScope st_lines_of) f cdv A outer s H E).xe := passes_of rfl
  exact (rss_cons (rs_asg (re_call G_pieces (hr.mono (by decide)) tk (ra_cons (re_var 0 (pv 0)) ra_nil)) (rg_nm 1 (pg_name (i := 1) nd rfl (by first | exact Or.inl rfl | exact Or.inr rfl))))
    (rss_cons (rs_if (rt_val (rp_fun an_D (cd_any rfl) T.n_any b_any (ral_cons (RP.rl (RP.re (rn_lc (own := [("piece", 2)]) rfl nd (ri_seq (re_var 1 (pv 1))) (blkOk_by (by kernel_rfl)) (fun _ _ _ _ _ => (rg_nm 2 (pg_name (i := 2) nd rfl (by first | exact Or.inl rfl | exact Or.inr rfl)))) (fun _ _ _ _ _ => rts_nil) (fun _ _ _ _ _ => (re_cp (od_eq hu) (nomark _) (RP.rl (rp_fun an_D cd_len T.n_len b_len (ral_cons (rl_look 2 (pv 2)) ral_nil))) (RP.rl re_int)))))) ral_nil)))
    (rss_one (rs_raise T.e_BadOutline tk rfl))
    rss_nil)
    (rss_cons (rs_lcD 1 (own := [("piece", 2)]) rfl nd (ri_seq (re_var 1 (pv 1))) (blkOk_by (by kernel_rfl)) (fun _ _ _ _ _ => (rg_nm 2 (pg_name (i := 2) nd rfl (by first | exact Or.inl rfl | exact Or.inr rfl)))) (fun _ _ _ _ _ => (rts_one (rt_cp (od_ne hu) (nomark _) (RP.rl (re_ix (RP.rl (re_ix (rl_look 2 (pv 2)) (RP.rl re_int))) (RP.rl re_int))) (RP.rl (re_ix (RP.rl (re_ix (rl_look 2 (pv 2)) (RP.rl re_int))) (RP.rl re_int)))))) (fun _ _ _ _ _ => (re_var 2 (pv 2))) (sw_true rfl rfl rfl (by decide +kernel)))
    (rss_cons (rs_if (rt_cp od_gt (nomark _) (RP.rl (rp_fun an_D cd_len T.n_len b_len (ral_cons (rl_look 1 (pv 1)) ral_nil))) (RP.rl (re_globI T.i_MOST_LINES)))
    (rss_one (rs_raise T.e_BadOutline tk rfl))
    rss_nil)
    (rss_one (rs_ret (re_var 1 (pv 1))))))))
abbrev st_cross_height : Stmt := topS 22
theorem sc_cross_height : FnScope ["one", "other", "wide", "far", "off", "under", "first", "second"] ["one", "other"] (defScope st_cross_height) := ⟨rfl, rfl, rfl, by decide +kernel, rfl, by decide +kernel, by decide +kernel⟩
theorem ok_cross_height {f : Addr} {fd : FuncData} (T : Tx K w mg cv) (F : Fun K "cross_height" "cross_height" st_cross_height f fd) (hm : mg "cross_height" = some (.ref f))  (G_fraction : Fn P w K mg base cv 1 "fraction" 2 s_fraction) : Fn P w K mg base cv 2 "cross_height" 2 s_cross_height := by
  have hb : Binds K fd ["one", "other"] [] := F.binds fun _ _ _ _ _ _ us hl => match us, hl with | [_, _], _ => rfl
  refine fn_mk F sc_cross_height rfl hm hb fun cdv A outer s H E hr => ?_
  have nd := sc_cross_height.nd
  have hu := hr.units
  have tk : Takes (cxOf (L2.CX P w) P w K mg base ["one", "other", "wide", "far", "off", "under", "first", "second"] "cross_height" (defScope st_cross_height) f cdv A outer s H E) (fun cls d _ H => E cls d H) := takes_of rfl rfl rfl rfl
  have po : PassesOwn (model P w) (cxOf (L2.CX P w) P w K mg base ["one", "other", "wide", "far", "off", "under", "first", "second"] "cross_height" (defScope st_cross_height) f cdv A outer s H E).A (cxOf (L2.CX P w) P w K mg base ["one", "other", "wide", "far", "off", "under", "first", "second"] "cross_height" (defScope st_cross_height) f cdv A outer s H E).env (cxOf (L2.CX P w) P w K mg base ["one", "other", "wide", "far", "off", "under", "first", "second"] "cross_height" (defScope st_cross_height) f cdv A outer s H E).xe := passes_of rfl
  exact (rss_cons (rs_asg (re_tup (ra_cons (re_op od_sub (RP.rl (re_ix (RP.rl (re_ix (rl_look 0 (pv 0)) (RP.rl re_int))) (RP.rl re_int))) (RP.rl (re_ix (RP.rl (re_ix (rl_look 0 (pv 0)) (RP.rl re_int))) (RP.rl re_int)))) (ra_cons (re_op od_sub (RP.rl (re_ix (RP.rl (re_ix (rl_look 0 (pv 0)) (RP.rl re_int))) (RP.rl re_int))) (RP.rl (re_ix (RP.rl (re_ix (rl_look 0 (pv 0)) (RP.rl re_int))) (RP.rl re_int)))) ra_nil))) (rg_nm 2 (pg_name (i := 2) nd rfl (by first | exact Or.inl rfl | exact Or.inr rfl))))
    (rss_cons (rs_asg (re_tup (ra_cons (re_op od_sub (RP.rl (re_ix (RP.rl (re_ix (rl_look 1 (pv 1)) (RP.rl re_int))) (RP.rl re_int))) (RP.rl (re_ix (RP.rl (re_ix (rl_look 1 (pv 1)) (RP.rl re_int))) (RP.rl re_int)))) (ra_cons (re_op od_sub (RP.rl (re_ix (RP.rl (re_ix (rl_look 1 (pv 1)) (RP.rl re_int))) (RP.rl re_int))) (RP.rl (re_ix (RP.rl (re_ix (rl_look 1 (pv 1)) (RP.rl re_int))) (RP.rl re_int)))) ra_nil))) (rg_nm 3 (pg_name (i := 3) nd rfl (by first | exact Or.inl rfl | exact Or.inr rfl))))
    (rss_cons (rs_asg (re_tup (ra_cons (re_op od_sub (RP.rl (re_ix (RP.rl (re_ix (rl_look 1 (pv 1)) (RP.rl re_int))) (RP.rl re_int))) (RP.rl (re_ix (RP.rl (re_ix (rl_look 0 (pv 0)) (RP.rl re_int))) (RP.rl re_int)))) (ra_cons (re_op od_sub (RP.rl (re_ix (RP.rl (re_ix (rl_look 1 (pv 1)) (RP.rl re_int))) (RP.rl re_int))) (RP.rl (re_ix (RP.rl (re_ix (rl_look 0 (pv 0)) (RP.rl re_int))) (RP.rl re_int)))) ra_nil))) (rg_nm 4 (pg_name (i := 4) nd rfl (by first | exact Or.inl rfl | exact Or.inr rfl))))
    (rss_cons (rs_asg (re_op od_sub (RP.rl (re_op od_mul (RP.rl (re_ix (rl_look 2 (pv 2)) (RP.rl re_int))) (RP.rl (re_ix (rl_look 3 (pv 3)) (RP.rl re_int))))) (RP.rl (re_op od_mul (RP.rl (re_ix (rl_look 2 (pv 2)) (RP.rl re_int))) (RP.rl (re_ix (rl_look 3 (pv 3)) (RP.rl re_int)))))) (rg_nm 5 (pg_name (i := 5) nd rfl (by first | exact Or.inl rfl | exact Or.inr rfl))))
    (rss_cons (rs_if (rt_cp (od_eq hu) (nomark _) (rl_look 5 (pv 5)) (RP.rl re_int))
    (rss_one (rs_ret re_non))
    rss_nil)
    (rss_cons (rs_asg (re_op od_sub (RP.rl (re_op od_mul (RP.rl (re_ix (rl_look 4 (pv 4)) (RP.rl re_int))) (RP.rl (re_ix (rl_look 3 (pv 3)) (RP.rl re_int))))) (RP.rl (re_op od_mul (RP.rl (re_ix (rl_look 4 (pv 4)) (RP.rl re_int))) (RP.rl (re_ix (rl_look 3 (pv 3)) (RP.rl re_int)))))) (rg_nm 6 (pg_name (i := 6) nd rfl (by first | exact Or.inl rfl | exact Or.inr rfl))))
    (rss_cons (rs_asg (re_op od_sub (RP.rl (re_op od_mul (RP.rl (re_ix (rl_look 4 (pv 4)) (RP.rl re_int))) (RP.rl (re_ix (rl_look 2 (pv 2)) (RP.rl re_int))))) (RP.rl (re_op od_mul (RP.rl (re_ix (rl_look 4 (pv 4)) (RP.rl re_int))) (RP.rl (re_ix (rl_look 2 (pv 2)) (RP.rl re_int)))))) (rg_nm 7 (pg_name (i := 7) nd rfl (by first | exact Or.inl rfl | exact Or.inr rfl))))
    (rss_cons (rs_if (rt_cp od_lt (nomark _) (rl_look 5 (pv 5)) (RP.rl re_int))
    (rss_one (rs_par3 (i := 6) (j := 7) (l := 5) rfl nd (ra_cons (re_neg (rl_look 6 (pv 6))) (ra_cons (re_neg (rl_look 7 (pv 7))) (ra_cons (re_neg (rl_look 5 (pv 5))) ra_nil)))))
    rss_nil)
    (rss_cons (rs_if (rt_w (rw_or (rt_not (rt_chain od_le od_le (by with_unfolding_all rfl) (RP.rl re_int) (rl_look 6 (pv 6)) (rl_look 5 (pv 5)))) (rw_or1 (rt_not (rt_chain od_le od_le (by with_unfolding_all rfl) (RP.rl re_int) (rl_look 7 (pv 7)) (rl_look 5 (pv 5)))))))
    (rss_one (rs_ret re_non))
    rss_nil)
    (rss_one (rs_ret (re_call G_fraction (hr.mono (by decide)) tk (ra_cons (re_op od_add (RP.rl (re_op od_mul (RP.rl (re_ix (RP.rl (re_ix (rl_look 0 (pv 0)) (RP.rl re_int))) (RP.rl re_int))) (rl_look 5 (pv 5)))) (RP.rl (re_op od_mul (rl_look 6 (pv 6)) (RP.rl (re_ix (rl_look 2 (pv 2)) (RP.rl re_int)))))) (ra_cons (re_var 5 (pv 5)) ra_nil))))))))))))))
abbrev st_heights : Stmt := topS 23
theorem sc_heights : FnScope ["lines", "found", "k", "other", "height"] ["lines"] (defScope st_heights) := ⟨rfl, rfl, rfl, by decide +kernel, rfl, by decide +kernel, by decide +kernel⟩
theorem ok_heights {f : Addr} {fd : FuncData} (T : Tx K w mg cv) (F : Fun K "heights" "heights" st_heights f fd) (hm : mg "heights" = some (.ref f))  (G_cross_height : Fn P w K mg base cv 2 "cross_height" 2 s_cross_height) (G_in_order : Fn P w K mg base cv 2 "in_order" 1 s_in_order) : Fn P w K mg base cv 3 "heights" 1 s_heights := by
  have hb : Binds K fd ["lines"] [] := F.binds fun _ _ _ _ _ _ us hl => match us, hl with | [_], _ => rfl
  refine fn_mk F sc_heights rfl hm hb fun cdv A outer s H E hr => ?_
  have nd := sc_heights.nd
  have hu := hr.units
  have tk : Takes (cxOf (L2.CX P w) P w K mg base ["lines", "found", "k", "other", "height"] "heights" (defScope st_heights) f cdv A outer s H E) (fun cls d _ H => E cls d H) := takes_of rfl rfl rfl rfl
  have po : PassesOwn (model P w) (cxOf (L2.CX P w) P w K mg base ["lines", "found", "k", "other", "height"] "heights" (defScope st_heights) f cdv A outer s H E).A (cxOf (L2.CX P w) P w K mg base ["lines", "found", "k", "other", "height"] "heights" (defScope st_heights) f cdv A outer s H E).env (cxOf (L2.CX P w) P w K mg base ["lines", "found", "k", "other", "height"] "heights" (defScope st_heights) f cdv A outer s H E).xe := passes_of rfl
  exact (rss_cons (rs_own 1 (rn_lst ra_nil) (fun h => ps_set (i := 1) nd rfl (by first | exact Or.inl rfl | exact Or.inr rfl) h))
    (rss_cons (rs_for po rfl (ri_rng1 T.n_range (ral_cons (RP.rl (rp_fun an_D cd_len T.n_len b_len (ral_cons (rl_look 0 (pv 0)) ral_nil))) ral_nil)) (rg_nm 2 (pg_name (i := 2) nd rfl (by first | exact Or.inl rfl | exact Or.inr rfl)))
    (rss_cons (rs_ext 1 (pv 1) (RP.re (rn_lst (ra_cons (re_tup (ra_cons (re_ix (RP.rl (re_ix (RP.rl (re_ix (rl_look 0 (pv 0)) (rl_look 2 (pv 2)))) (RP.rl re_int))) (RP.rl re_int)) (ra_cons re_int ra_nil))) (ra_cons (re_tup (ra_cons (re_ix (RP.rl (re_ix (RP.rl (re_ix (rl_look 0 (pv 0)) (rl_look 2 (pv 2)))) (RP.rl re_int))) (RP.rl re_int)) (ra_cons re_int ra_nil))) ra_nil)))))
    (rss_one (rs_for po rfl (ri_seq (re_cut (rl_look 0 (pv 0)) ro_none (ro_some (rl_look 2 (pv 2))))) (rg_nm 3 (pg_name (i := 3) nd rfl (by first | exact Or.inl rfl | exact Or.inr rfl)))
    (rss_cons (rs_asg (re_call G_cross_height (hr.mono (by decide)) tk (ra_cons (re_ix (rl_look 0 (pv 0)) (rl_look 2 (pv 2))) (ra_cons (re_var 3 (pv 3)) ra_nil))) (rg_nm 4 (pg_name (i := 4) nd rfl (by first | exact Or.inl rfl | exact Or.inr rfl))))
    (rss_one (rs_if (rt_cp od_notN (nomark _) (rl_look 4 (pv 4)) (RP.rl re_non))
    (rss_one (rs_app 1 (pv 1) (re_var 4 (pv 4))))
    rss_nil)))))))
    (rss_frz 1 (rss_one (rs_retN (rn_call G_in_order (hr.mono (by decide)) tk (ra_cons (re_var 1 (pv 1)) ra_nil)))))))
abbrev st_crossings : Stmt := topS 24
theorem sc_crossings : FnScope ["lines", "height", "found", "one", "other", "up", "low", "high", "top", "under"] ["lines", "height"] (defScope st_crossings) := ⟨rfl, rfl, rfl, by decide +kernel, rfl, by decide +kernel, by decide +kernel⟩
theorem ok_crossings {f : Addr} {fd : FuncData} (T : Tx K w mg cv) (F : Fun K "crossings" "crossings" st_crossings f fd) (hm : mg "crossings" = some (.ref f))  (G_fraction : Fn P w K mg base cv 1 "fraction" 2 s_fraction) (G_less : Fn P w K mg base cv 1 "less" 2 s_less) : Fn P w K mg base cv 2 "crossings" 2 s_crossings := by
  have hb : Binds K fd ["lines", "height"] [] := F.binds fun _ _ _ _ _ _ us hl => match us, hl with | [_, _], _ => rfl
  refine fn_mk F sc_crossings rfl hm hb fun cdv A outer s H E hr => ?_
  have nd := sc_crossings.nd
  have hu := hr.units
  have tk : Takes (cxOf (L2.CX P w) P w K mg base ["lines", "height", "found", "one", "other", "up", "low", "high", "top", "under"] "crossings" (defScope st_crossings) f cdv A outer s H E) (fun cls d _ H => E cls d H) := takes_of rfl rfl rfl rfl
  have po : PassesOwn (model P w) (cxOf (L2.CX P w) P w K mg base ["lines", "height", "found", "one", "other", "up", "low", "high", "top", "under"] "crossings" (defScope st_crossings) f cdv A outer s H E).A (cxOf (L2.CX P w) P w K mg base ["lines", "height", "found", "one", "other", "up", "low", "high", "top", "under"] "crossings" (defScope st_crossings) f cdv A outer s H E).env (cxOf (L2.CX P w) P w K mg base ["lines", "height", "found", "one", "other", "up", "low", "high", "top", "under"] "crossings" (defScope st_crossings) f cdv A outer s H E).xe := passes_of rfl
  exact (rss_cons (rs_own 2 (rn_lst ra_nil) (fun h => ps_set (i := 2) nd rfl (by first | exact Or.inl rfl | exact Or.inr rfl) h))
    (rss_cons (rs_for po rfl (ri_seq (re_var 0 (pv 0))) (rg_tup rfl (rgs_cons (rg_nm 3 (pg_name (i := 3) nd rfl (by first | exact Or.inl rfl | exact Or.inr rfl))) (rgs_cons (rg_nm 4 (pg_name (i := 4) nd rfl (by first | exact Or.inl rfl | exact Or.inr rfl))) rgs_nil)) 2 (hl := (len_cons (len_cons (fun _ _ _ h => len_nil h)))))
    (rss_cons (rs_asg (re_if (rt_cp od_lt (nomark _) (RP.rl (re_ix (rl_look 3 (pv 3)) (RP.rl re_int))) (RP.rl (re_ix (rl_look 4 (pv 4)) (RP.rl re_int)))) re_int (re_neg (RP.rl re_int))) (rg_nm 5 (pg_name (i := 5) nd rfl (by first | exact Or.inl rfl | exact Or.inr rfl))))
    (rss_cons (rs_asg (re_if (rt_cp od_gt (nomark _) (rl_look 5 (pv 5)) (RP.rl re_int)) (re_tup (ra_cons (re_var 3 (pv 3)) (ra_cons (re_var 4 (pv 4)) ra_nil))) (re_tup (ra_cons (re_var 4 (pv 4)) (ra_cons (re_var 3 (pv 3)) ra_nil)))) (rg_tup rfl (rgs_cons (rg_nm 6 (pg_name (i := 6) nd rfl (by first | exact Or.inl rfl | exact Or.inr rfl))) (rgs_cons (rg_nm 7 (pg_name (i := 7) nd rfl (by first | exact Or.inl rfl | exact Or.inr rfl))) rgs_nil)) 2 (hl := (len_cons (len_cons (fun _ _ _ h => len_nil h))))))
    (rss_one (rs_if (rt_w (rw_and (rt_val (re_call G_less (hr.mono (by decide)) tk (ra_cons (re_tup (ra_cons (re_ix (rl_look 6 (pv 6)) (RP.rl re_int)) (ra_cons re_int ra_nil))) (ra_cons (re_var 1 (pv 1)) ra_nil)))) (rw_and1 (rt_val (re_call G_less (hr.mono (by decide)) tk (ra_cons (re_var 1 (pv 1)) (ra_cons (re_tup (ra_cons (re_ix (rl_look 7 (pv 7)) (RP.rl re_int)) (ra_cons re_int ra_nil))) ra_nil)))))))
    (rss_cons (rs_asg (re_op od_mul (RP.rl (re_op od_sub (RP.rl (re_ix (rl_look 7 (pv 7)) (RP.rl re_int))) (RP.rl (re_ix (rl_look 6 (pv 6)) (RP.rl re_int))))) (RP.rl (re_op od_sub (RP.rl (re_ix (rl_look 1 (pv 1)) (RP.rl re_int))) (RP.rl (re_op od_mul (RP.rl (re_ix (rl_look 6 (pv 6)) (RP.rl re_int))) (RP.rl (re_ix (rl_look 1 (pv 1)) (RP.rl re_int)))))))) (rg_nm 8 (pg_name (i := 8) nd rfl (by first | exact Or.inl rfl | exact Or.inr rfl))))
    (rss_cons (rs_asg (re_op od_mul (RP.rl (re_op od_sub (RP.rl (re_ix (rl_look 7 (pv 7)) (RP.rl re_int))) (RP.rl (re_ix (rl_look 6 (pv 6)) (RP.rl re_int))))) (RP.rl (re_ix (rl_look 1 (pv 1)) (RP.rl re_int)))) (rg_nm 9 (pg_name (i := 9) nd rfl (by first | exact Or.inl rfl | exact Or.inr rfl))))
    (rss_one (rs_app 2 (pv 2) (re_tup (ra_cons (re_call G_fraction (hr.mono (by decide)) tk (ra_cons (re_op od_add (RP.rl (re_op od_mul (RP.rl (re_ix (rl_look 6 (pv 6)) (RP.rl re_int))) (rl_look 9 (pv 9)))) (rl_look 8 (pv 8))) (ra_cons (re_var 9 (pv 9)) ra_nil))) (ra_cons (re_var 5 (pv 5)) ra_nil)))))))
    rss_nil)))))
    (rss_one (rs_retO 2 (pv 2)))))
abbrev st_is_filled3 : Stmt := topS 25
theorem sc_is_filled3 : FnScope ["some", "place", "rule", "many", "here", "up"] ["some", "place", "rule"] (defScope st_is_filled3) := ⟨rfl, rfl, rfl, by decide +kernel, rfl, by decide +kernel, by decide +kernel⟩
theorem ok_is_filled3 {f : Addr} {fd : FuncData} (T : Tx K w mg cv) (F : Fun K "is_filled" "is_filled" st_is_filled3 f fd) (hm : mg "is_filled" = some (.ref f))  (G_less : Fn P w K mg base cv 1 "less" 2 s_less) : Fn P w K mg base cv 2 "is_filled" 3 s_is_filled3 := by
  have hb : Binds K fd ["some", "place", "rule"] [] := F.binds fun _ _ _ _ _ _ us hl => match us, hl with | [_, _, _], _ => rfl
  refine fn_mk F sc_is_filled3 rfl hm hb fun cdv A outer s H E hr => ?_
  have nd := sc_is_filled3.nd
  have hu := hr.units
  have tk : Takes (cxOf (L2.CX P w) P w K mg base ["some", "place", "rule", "many", "here", "up"] "is_filled" (defScope st_is_filled3) f cdv A outer s H E) (fun cls d _ H => E cls d H) := takes_of rfl rfl rfl rfl
  have po : PassesOwn (model P w) (cxOf (L2.CX P w) P w K mg base ["some", "place", "rule", "many", "here", "up"] "is_filled" (defScope st_is_filled3) f cdv A outer s H E).A (cxOf (L2.CX P w) P w K mg base ["some", "place", "rule", "many", "here", "up"] "is_filled" (defScope st_is_filled3) f cdv A outer s H E).env (cxOf (L2.CX P w) P w K mg base ["some", "place", "rule", "many", "here", "up"] "is_filled" (defScope st_is_filled3) f cdv A outer s H E).xe := passes_of rfl
  exact (rss_cons (rs_asg (rp_fun an_D (cd_sum rfl) T.n_sum b_sum (ral_cons (RP.rl (RP.re (rn_lc (own := [("here", 4), ("up", 5)]) rfl nd (ri_seq (re_var 0 (pv 0))) (blkOk_by (by kernel_rfl)) (fun _ _ _ _ _ => (rg_tup rfl (rgs_cons (rg_nm 4 (pg_name (i := 4) nd rfl (by first | exact Or.inl rfl | exact Or.inr rfl))) (rgs_cons (rg_nm 5 (pg_name (i := 5) nd rfl (by first | exact Or.inl rfl | exact Or.inr rfl))) rgs_nil)) 2 (hl := (len_cons (len_cons (fun _ _ _ h => len_nil h)))))) (fun _ _ _ _ _ => (rts_one (rt_val (re_call G_less (hr.mono (by decide)) tk0 (ra_cons (re_var 1 (pv 1)) (ra_cons (re_var 4 (pv 4)) ra_nil)))))) (fun _ _ _ _ _ => (re_var 5 (pv 5)))))) ral_nil)) (rg_nm 3 (pg_name (i := 3) nd rfl (by first | exact Or.inl rfl | exact Or.inr rfl))))
    (rss_one (rs_ret (re_if (rt_cp (od_eq hu) (nomark _) (rl_look 2 (pv 2)) (RP.rl (re_str e_6f6464))) (re_cp (od_eq hu) (nomark _) (RP.rl (re_op od_mod (rl_look 3 (pv 3)) (RP.rl re_int))) (RP.rl re_int)) (re_cp (od_ne hu) (nomark _) (rl_look 3 (pv 3)) (RP.rl re_int))))))
abbrev st_parting : Stmt := topS 26
theorem sc_parting : FnScope ["one", "other", "rule", "both", "level", "steps", "k", "height", "some", "places", "j", "place", "piece", "lines", "up"] ["one", "other", "rule"] (defScope st_parting) := ⟨rfl, rfl, rfl, by decide +kernel, rfl, by decide +kernel, by decide +kernel⟩
theorem ok_parting {f : Addr} {fd : FuncData} (T : Tx K w mg cv) (F : Fun K "parting" "parting" st_parting f fd) (hm : mg "parting" = some (.ref f))  (G_between : Fn P w K mg base cv 2 "between" 2 s_between) (G_crossings : Fn P w K mg base cv 2 "crossings" 2 s_crossings) (G_heights : Fn P w K mg base cv 3 "heights" 1 s_heights) (G_in_order : Fn P w K mg base cv 2 "in_order" 1 s_in_order) (G_is_filled3 : Fn P w K mg base cv 2 "is_filled" 3 s_is_filled3) (G_lines_of : Fn P w K mg base cv 4 "lines_of" 1 s_lines_of) (G_pieces : Fn P w K mg base cv 3 "pieces" 1 s_pieces) : Fn P w K mg base cv 5 "parting" 3 s_parting := by
  have hb : Binds K fd ["one", "other", "rule"] [] := F.binds fun _ _ _ _ _ _ us hl => match us, hl with | [_, _, _], _ => rfl
  refine fn_mk F sc_parting rfl hm hb fun cdv A outer s H E hr => ?_
  have nd := sc_parting.nd
  have hu := hr.units
  have tk : Takes (cxOf (L2.CX P w) P w K mg base ["one", "other", "rule", "both", "level", "steps", "k", "height", "some", "places", "j", "place", "piece", "lines", "up"] "parting" (defScope st_parting) f cdv A outer s H E) (fun cls d _ H => E cls d H) := takes_of rfl rfl rfl rfl
  have po : PassesOwn (model P w) (cxOf (L2.CX P w) P w K mg base ["one", "other", "rule", "both", "level", "steps", "k", "height", "some", "places", "j", "place", "piece", "lines", "up"] "parting" (defScope st_parting) f cdv A outer s H E).A (cxOf (L2.CX P w) P w K mg base ["one", "other", "rule", "both", "level", "steps", "k", "height", "some", "places", "j", "place", "piece", "lines", "up"] "parting" (defScope st_parting) f cdv A outer s H E).env (cxOf (L2.CX P w) P w K mg base ["one", "other", "rule", "both", "level", "steps", "k", "height", "some", "places", "j", "place", "piece", "lines", "up"] "parting" (defScope st_parting) f cdv A outer s H E).xe := passes_of rfl
  exact (rss_cons (rs_asg (RP.re (rn_lst (ra_cons (re_call G_lines_of (hr.mono (by decide)) tk (ra_cons (re_var 0 (pv 0)) ra_nil)) (ra_cons (re_call G_lines_of (hr.mono (by decide)) tk (ra_cons (re_var 1 (pv 1)) ra_nil)) ra_nil)))) (rg_nm 3 (pg_name (i := 3) nd rfl (by first | exact Or.inl rfl | exact Or.inr rfl))))
    (rss_cons (rs_lcD 4 (own := [("piece", 12)]) rfl nd (ri_seq (re_op od_add (RP.rl (re_call G_pieces (hr.mono (by decide)) tk (ra_cons (re_var 0 (pv 0)) ra_nil))) (RP.rl (re_call G_pieces (hr.mono (by decide)) tk (ra_cons (re_var 1 (pv 1)) ra_nil))))) (blkOk_by (by kernel_rfl)) (fun _ _ _ _ _ => (rg_nm 12 (pg_name (i := 12) nd rfl (by first | exact Or.inl rfl | exact Or.inr rfl)))) (fun _ _ _ _ _ => (rts_one (rt_cp (od_eq hu) (nomark _) (RP.rl (re_ix (RP.rl (re_ix (rl_look 12 (pv 12)) (RP.rl re_int))) (RP.rl re_int))) (RP.rl (re_ix (RP.rl (re_ix (rl_look 12 (pv 12)) (RP.rl re_int))) (RP.rl re_int)))))) (fun _ _ _ _ _ => (re_tup (ra_cons (re_ix (RP.rl (re_ix (rl_look 12 (pv 12)) (RP.rl re_int))) (RP.rl re_int)) (ra_cons re_int ra_nil)))) (sw_true rfl rfl rfl (by decide +kernel)))
    (rss_cons (rs_asg (re_call G_in_order (hr.mono (by decide)) tk (ra_cons (re_op od_add (RP.rl (re_call G_heights (hr.mono (by decide)) tk (ra_cons (re_op od_add (RP.rl (re_ix (rl_look 3 (pv 3)) (RP.rl re_int))) (RP.rl (re_ix (rl_look 3 (pv 3)) (RP.rl re_int)))) ra_nil))) (rl_look 4 (pv 4))) ra_nil)) (rg_nm 5 (pg_name (i := 5) nd rfl (by first | exact Or.inl rfl | exact Or.inr rfl))))
    (rss_cons (rs_for po rfl (ri_rng1 T.n_range (ral_cons (RP.rl (re_op od_sub (RP.rl (rp_fun an_D cd_len T.n_len b_len (ral_cons (rl_look 5 (pv 5)) ral_nil))) (RP.rl re_int))) ral_nil)) (rg_nm 6 (pg_name (i := 6) nd rfl (by first | exact Or.inl rfl | exact Or.inr rfl)))
    (rss_cons (rs_asg (re_call G_between (hr.mono (by decide)) tk (ra_cons (re_ix (rl_look 5 (pv 5)) (rl_look 6 (pv 6))) (ra_cons (re_ix (rl_look 5 (pv 5)) (RP.rl (re_op od_add (rl_look 6 (pv 6)) (RP.rl re_int)))) ra_nil))) (rg_nm 7 (pg_name (i := 7) nd rfl (by first | exact Or.inl rfl | exact Or.inr rfl))))
    (rss_cons (rs_lcD 8 (own := [("lines", 13)]) rfl nd (ri_seq (re_var 3 (pv 3))) (blkOk_by (by kernel_rfl)) (fun _ _ _ _ _ => (rg_nm 13 (pg_name (i := 13) nd rfl (by first | exact Or.inl rfl | exact Or.inr rfl)))) (fun _ _ _ _ _ => rts_nil) (fun _ _ _ _ _ => (re_call G_crossings (hr.mono (by decide)) tk0 (ra_cons (re_var 13 (pv 13)) (ra_cons (re_var 7 (pv 7)) ra_nil)))) (sw_true rfl rfl rfl (by decide +kernel)))
    (rss_cons (rs_asg (re_call G_in_order (hr.mono (by decide)) tk (ra_cons (RP.re (rn_lc (own := [("place", 11), ("up", 14)]) rfl nd (ri_seq (re_op od_add (RP.rl (re_ix (rl_look 8 (pv 8)) (RP.rl re_int))) (RP.rl (re_ix (rl_look 8 (pv 8)) (RP.rl re_int))))) (blkOk_by (by kernel_rfl)) (fun _ _ _ _ _ => (rg_tup rfl (rgs_cons (rg_nm 11 (pg_name (i := 11) nd rfl (by first | exact Or.inl rfl | exact Or.inr rfl))) (rgs_cons (rg_nm 14 (pg_name (i := 14) nd rfl (by first | exact Or.inl rfl | exact Or.inr rfl))) rgs_nil)) 2 (hl := (len_cons (len_cons (fun _ _ _ h => len_nil h)))))) (fun _ _ _ _ _ => rts_nil) (fun _ _ _ _ _ => (re_var 11 (pv 11))))) ra_nil)) (rg_nm 9 (pg_name (i := 9) nd rfl (by first | exact Or.inl rfl | exact Or.inr rfl))))
    (rss_one (rs_for po rfl (ri_rng1 T.n_range (ral_cons (RP.rl (re_op od_sub (RP.rl (rp_fun an_D cd_len T.n_len b_len (ral_cons (rl_look 9 (pv 9)) ral_nil))) (RP.rl re_int))) ral_nil)) (rg_nm 10 (pg_name (i := 10) nd rfl (by first | exact Or.inl rfl | exact Or.inr rfl)))
    (rss_cons (rs_asg (re_call G_between (hr.mono (by decide)) tk (ra_cons (re_ix (rl_look 9 (pv 9)) (rl_look 10 (pv 10))) (ra_cons (re_ix (rl_look 9 (pv 9)) (RP.rl (re_op od_add (rl_look 10 (pv 10)) (RP.rl re_int)))) ra_nil))) (rg_nm 11 (pg_name (i := 11) nd rfl (by first | exact Or.inl rfl | exact Or.inr rfl))))
    (rss_one (rs_if (rt_cp (od_ne hu) (nomark _) (RP.rl (re_call G_is_filled3 (hr.mono (by decide)) tk (ra_cons (re_ix (rl_look 8 (pv 8)) (RP.rl re_int)) (ra_cons (re_var 11 (pv 11)) (ra_cons (re_var 2 (pv 2)) ra_nil))))) (RP.rl (re_call G_is_filled3 (hr.mono (by decide)) tk (ra_cons (re_ix (rl_look 8 (pv 8)) (RP.rl re_int)) (ra_cons (re_var 11 (pv 11)) (ra_cons (re_var 2 (pv 2)) ra_nil))))))
    (rss_one (rs_ret (re_tup (ra_cons (re_var 11 (pv 11)) (ra_cons (re_var 7 (pv 7)) ra_nil)))))
    rss_nil)))))))))
    (rss_one (rs_ret re_non))))))
abbrev st_law_cell : Stmt := topS 28
theorem sc_law_cell : FnScope ["_law_script", "_law_k"] ["_law_script", "_law_k"] (defScope st_law_cell) := ⟨rfl, rfl, rfl, by decide +kernel, rfl, by decide +kernel, by decide +kernel⟩
theorem ok_law_cell {f : Addr} {fd : FuncData} (T : Tx K w mg cv) (F : Fun K "_law_cell" "_law_cell" st_law_cell f fd) (hm : mg "_law_cell" = some (.ref f))   : Fn P w K mg base cv 1 "_law_cell" 2 s_law_cell := by
  have hb : Binds K fd ["_law_script", "_law_k"] [] := F.binds fun _ _ _ _ _ _ us hl => match us, hl with | [_, _], _ => rfl
  refine fn_mk F sc_law_cell rfl hm hb fun cdv A outer s H E hr => ?_
  have nd := sc_law_cell.nd
  have hu := hr.units
  have tk : Takes (cxOf (L2.CX P w) P w K mg base ["_law_script", "_law_k"] "_law_cell" (defScope st_law_cell) f cdv A outer s H E) (fun cls d _ H => E cls d H) := takes_of rfl rfl rfl rfl
  have po : PassesOwn (model P w) (cxOf (L2.CX P w) P w K mg base ["_law_script", "_law_k"] "_law_cell" (defScope st_law_cell) f cdv A outer s H E).A (cxOf (L2.CX P w) P w K mg base ["_law_script", "_law_k"] "_law_cell" (defScope st_law_cell) f cdv A outer s H E).env (cxOf (L2.CX P w) P w K mg base ["_law_script", "_law_k"] "_law_cell" (defScope st_law_cell) f cdv A outer s H E).xe := passes_of rfl
  exact (rss_cons (rs_if (rt_tru (rl_look 0 (pv 0)))
    (rss_one (rs_ret (re_ix (rl_look 0 (pv 0)) (RP.rl (re_op od_mod (rl_look 1 (pv 1)) (RP.rl (rp_fun an_D cd_len T.n_len b_len (ral_cons (rl_look 0 (pv 0)) ral_nil))))))))
    rss_nil)
    (rss_one (rs_ret re_int)))
abbrev st_law_mix : Stmt := topS 29
theorem sc_law_mix : FnScope ["_law_script", "_law_k", "_law_number_here"] ["_law_script", "_law_k"] (defScope st_law_mix) := ⟨rfl, rfl, rfl, by decide +kernel, rfl, by decide +kernel, by decide +kernel⟩
theorem ok_law_mix {f : Addr} {fd : FuncData} (T : Tx K w mg cv) (F : Fun K "_law_mix" "_law_mix" st_law_mix f fd) (hm : mg "_law_mix" = some (.ref f))  (G_law_cell : Fn P w K mg base cv 1 "_law_cell" 2 s_law_cell) : Fn P w K mg base cv 2 "_law_mix" 2 s_law_mix := by
  have hb : Binds K fd ["_law_script", "_law_k"] [] := F.binds fun _ _ _ _ _ _ us hl => match us, hl with | [_, _], _ => rfl
  refine fn_mk F sc_law_mix rfl hm hb fun cdv A outer s H E hr => ?_
  have nd := sc_law_mix.nd
  have hu := hr.units
  have tk : Takes (cxOf (L2.CX P w) P w K mg base ["_law_script", "_law_k", "_law_number_here"] "_law_mix" (defScope st_law_mix) f cdv A outer s H E) (fun cls d _ H => E cls d H) := takes_of rfl rfl rfl rfl
  have po : PassesOwn (model P w) (cxOf (L2.CX P w) P w K mg base ["_law_script", "_law_k", "_law_number_here"] "_law_mix" (defScope st_law_mix) f cdv A outer s H E).A (cxOf (L2.CX P w) P w K mg base ["_law_script", "_law_k", "_law_number_here"] "_law_mix" (defScope st_law_mix) f cdv A outer s H E).env (cxOf (L2.CX P w) P w K mg base ["_law_script", "_law_k", "_law_number_here"] "_law_mix" (defScope st_law_mix) f cdv A outer s H E).xe := passes_of rfl
  exact (rss_cons (rs_asg (re_op od_mod (RP.rl (re_op od_add (RP.rl (re_call G_law_cell (hr.mono (by decide)) tk (ra_cons (re_var 0 (pv 0)) (ra_cons (re_var 1 (pv 1)) ra_nil)))) (RP.rl (re_op od_mul (RP.rl re_int) (RP.rl (re_op od_add (rl_look 1 (pv 1)) (RP.rl re_int))))))) (RP.rl re_int)) (rg_nm 2 (pg_name (i := 2) nd rfl (by first | exact Or.inl rfl | exact Or.inr rfl))))
    (rss_cons (rs_asg (re_op od_mod (RP.rl (re_op od_pow (rl_look 2 (pv 2)) (RP.rl re_int))) (RP.rl re_int)) (rg_nm 2 (pg_name (i := 2) nd rfl (by first | exact Or.inl rfl | exact Or.inr rfl))))
    (rss_one (rs_ret (re_op od_mod (RP.rl (re_op od_add (RP.rl (re_op od_mul (RP.rl (re_op od_div (rl_look 2 (pv 2)) (RP.rl re_int))) (RP.rl re_int))) (rl_look 2 (pv 2)))) (RP.rl re_int))))))
abbrev st_law_whole : Stmt := topS 30
theorem sc_law_whole : FnScope ["_law_found"] ["_law_found"] (defScope st_law_whole) := ⟨rfl, rfl, rfl, by decide +kernel, rfl, by decide +kernel, by decide +kernel⟩
theorem ok_law_whole {f : Addr} {fd : FuncData} (T : Tx K w mg cv) (F : Fun K "_law_whole" "_law_whole" st_law_whole f fd) (hm : mg "_law_whole" = some (.ref f))   : Fn P w K mg base cv 1 "_law_whole" 1 s_law_whole := by
  have hb : Binds K fd ["_law_found"] [] := F.binds fun _ _ _ _ _ _ us hl => match us, hl with | [_], _ => rfl
  refine fn_mk F sc_law_whole rfl hm hb fun cdv A outer s H E hr => ?_
  have nd := sc_law_whole.nd
  have hu := hr.units
  have tk : Takes (cxOf (L2.CX P w) P w K mg base ["_law_found"] "_law_whole" (defScope st_law_whole) f cdv A outer s H E) (fun cls d _ H => E cls d H) := takes_of rfl rfl rfl rfl
  have po : PassesOwn (model P w) (cxOf (L2.CX P w) P w K mg base ["_law_found"] "_law_whole" (defScope st_law_whole) f cdv A outer s H E).A (cxOf (L2.CX P w) P w K mg base ["_law_found"] "_law_whole" (defScope st_law_whole) f cdv A outer s H E).env (cxOf (L2.CX P w) P w K mg base ["_law_found"] "_law_whole" (defScope st_law_whole) f cdv A outer s H E).xe := passes_of rfl
  exact (rss_one (rs_ret (re_and (re_isi .int T.n_isinstance b_isinstance T.n_int b_int (rl_look 0 (pv 0))) (re_one (re_not (re_isi .bool T.n_isinstance b_isinstance T.n_bool b_bool (rl_look 0 (pv 0))))))))
abbrev st_law_number : Stmt := topS 31
theorem sc_law_number : FnScope ["_law_script", "_law_k", "_law_most", "_law_number_here"] ["_law_script", "_law_k", "_law_most"] (defScope st_law_number) := ⟨rfl, rfl, rfl, by decide +kernel, rfl, by decide +kernel, by decide +kernel⟩
theorem ok_law_number {f : Addr} {fd : FuncData} (T : Tx K w mg cv) (F : Fun K "_law_number" "_law_number" st_law_number f fd) (hm : mg "_law_number" = some (.ref f))  (G_law_mix : Fn P w K mg base cv 2 "_law_mix" 2 s_law_mix) : Fn P w K mg base cv 3 "_law_number" 3 s_law_number := by
  have hb : Binds K fd ["_law_script", "_law_k", "_law_most"] [] := F.binds fun _ _ _ _ _ _ us hl => match us, hl with | [_, _, _], _ => rfl
  refine fn_mk F sc_law_number rfl hm hb fun cdv A outer s H E hr => ?_
  have nd := sc_law_number.nd
  have hu := hr.units
  have tk : Takes (cxOf (L2.CX P w) P w K mg base ["_law_script", "_law_k", "_law_most", "_law_number_here"] "_law_number" (defScope st_law_number) f cdv A outer s H E) (fun cls d _ H => E cls d H) := takes_of rfl rfl rfl rfl
  have po : PassesOwn (model P w) (cxOf (L2.CX P w) P w K mg base ["_law_script", "_law_k", "_law_most", "_law_number_here"] "_law_number" (defScope st_law_number) f cdv A outer s H E).A (cxOf (L2.CX P w) P w K mg base ["_law_script", "_law_k", "_law_most", "_law_number_here"] "_law_number" (defScope st_law_number) f cdv A outer s H E).env (cxOf (L2.CX P w) P w K mg base ["_law_script", "_law_k", "_law_most", "_law_number_here"] "_law_number" (defScope st_law_number) f cdv A outer s H E).xe := passes_of rfl
  exact (rss_cons (rs_asg (re_call G_law_mix (hr.mono (by decide)) tk (ra_cons (re_var 0 (pv 0)) (ra_cons (re_var 1 (pv 1)) ra_nil))) (rg_nm 3 (pg_name (i := 3) nd rfl (by first | exact Or.inl rfl | exact Or.inr rfl))))
    (rss_one (rs_ret (re_ix (RP.rl (RP.re (rn_lst (ra_cons re_int (ra_cons re_int (ra_cons (re_neg (RP.rl re_int)) (ra_cons (re_op od_sub (RP.rl (re_op od_mod (RP.rl (re_op od_div (rl_look 3 (pv 3)) (RP.rl re_int))) (RP.rl re_int))) (RP.rl re_int)) (ra_cons (re_op od_sub (RP.rl (re_op od_mod (RP.rl (re_op od_div (rl_look 3 (pv 3)) (RP.rl re_int))) (RP.rl (re_op od_add (RP.rl (re_op od_mul (RP.rl re_int) (rl_look 2 (pv 2)))) (RP.rl re_int))))) (rl_look 2 (pv 2))) ra_nil)))))))) (RP.rl (re_op od_mod (rl_look 3 (pv 3)) (RP.rl re_int)))))))
abbrev st_law_pieces : Stmt := topS 32
theorem sc_law_pieces : FnScope ["_law_outline", "_law_found", "_law_way", "_law_points", "_law_step", "_law_k"] ["_law_outline"] (defScope st_law_pieces) := ⟨rfl, rfl, rfl, by decide +kernel, rfl, by decide +kernel, by decide +kernel⟩
theorem ok_law_pieces {f : Addr} {fd : FuncData} (T : Tx K w mg cv) (F : Fun K "_law_pieces" "_law_pieces" st_law_pieces f fd) (hm : mg "_law_pieces" = some (.ref f))   : Fn P w K mg base cv 1 "_law_pieces" 1 s_law_pieces := by
  have hb : Binds K fd ["_law_outline"] [] := F.binds fun _ _ _ _ _ _ us hl => match us, hl with | [_], _ => rfl
  refine fn_mk F sc_law_pieces rfl hm hb fun cdv A outer s H E hr => ?_
  have nd := sc_law_pieces.nd
  have hu := hr.units
  have tk : Takes (cxOf (L2.CX P w) P w K mg base ["_law_outline", "_law_found", "_law_way", "_law_points", "_law_step", "_law_k"] "_law_pieces" (defScope st_law_pieces) f cdv A outer s H E) (fun cls d _ H => E cls d H) := takes_of rfl rfl rfl rfl
  have po : PassesOwn (model P w) (cxOf (L2.CX P w) P w K mg base ["_law_outline", "_law_found", "_law_way", "_law_points", "_law_step", "_law_k"] "_law_pieces" (defScope st_law_pieces) f cdv A outer s H E).A (cxOf (L2.CX P w) P w K mg base ["_law_outline", "_law_found", "_law_way", "_law_points", "_law_step", "_law_k"] "_law_pieces" (defScope st_law_pieces) f cdv A outer s H E).env (cxOf (L2.CX P w) P w K mg base ["_law_outline", "_law_found", "_law_way", "_law_points", "_law_step", "_law_k"] "_law_pieces" (defScope st_law_pieces) f cdv A outer s H E).xe := passes_of rfl
  exact (rss_cons (rs_own 1 (rn_lst ra_nil) (fun h => ps_set (i := 1) nd rfl (by first | exact Or.inl rfl | exact Or.inr rfl) h))
    (rss_cons (rs_for po rfl (ri_seq (re_var 0 (pv 0))) (rg_nm 2 (pg_name (i := 2) nd rfl (by first | exact Or.inl rfl | exact Or.inr rfl)))
    (rss_cons (rs_asg (re_cut (RP.rl (re_ix (rl_look 2 (pv 2)) (RP.rl re_int))) (ro_some (RP.rl re_int)) ro_none) (rg_nm 3 (pg_name (i := 3) nd rfl (by first | exact Or.inl rfl | exact Or.inr rfl))))
    (rss_cons (rs_for po rfl (ri_seq (re_cut (rl_look 2 (pv 2)) (ro_some (RP.rl re_int)) ro_none)) (rg_nm 4 (pg_name (i := 4) nd rfl (by first | exact Or.inl rfl | exact Or.inr rfl)))
    (rss_cons (rs_app 1 (pv 1) (re_op od_add (RP.rl (re_tup (ra_cons (re_var 3 (pv 3)) ra_nil))) (RP.rl (rp_ty an_D cd_tuple T.n_tuple b_tuple (ral_cons (RP.rl (RP.re (rn_lc (own := [("_law_k", 5)]) rfl nd (ri_rng3 T.n_range (ral_cons (RP.rl re_int) (ral_cons (RP.rl (rp_fun an_D cd_len T.n_len b_len (ral_cons (rl_look 4 (pv 4)) ral_nil))) (ral_cons (RP.rl re_int) ral_nil)))) (blkOk_by (by kernel_rfl)) (fun _ _ _ _ _ => (rg_nm 5 (pg_name (i := 5) nd rfl (by first | exact Or.inl rfl | exact Or.inr rfl)))) (fun _ _ _ _ _ => rts_nil) (fun _ _ _ _ _ => (re_cut (rl_look 4 (pv 4)) (ro_some (rl_look 5 (pv 5))) (ro_some (RP.rl (re_op od_add (rl_look 5 (pv 5)) (RP.rl re_int))))))))) ral_nil)))))
    (rss_one (rs_asg (re_cut (rl_look 4 (pv 4)) (ro_some (RP.rl (re_neg (RP.rl re_int)))) ro_none) (rg_nm 3 (pg_name (i := 3) nd rfl (by first | exact Or.inl rfl | exact Or.inr rfl)))))))
    (rss_one (rs_if (rt_cp (od_ne hu) (nomark _) (rl_look 3 (pv 3)) (RP.rl (re_cut (RP.rl (re_ix (rl_look 2 (pv 2)) (RP.rl re_int))) (ro_some (RP.rl re_int)) ro_none)))
    (rss_one (rs_app 1 (pv 1) (re_tup (ra_cons (re_var 3 (pv 3)) (ra_cons (re_cut (RP.rl (re_ix (rl_look 2 (pv 2)) (RP.rl re_int))) (ro_some (RP.rl re_int)) ro_none) ra_nil)))))
    rss_nil)))))
    (rss_one (rs_retO 1 (pv 1)))))
abbrev st_law_straight : Stmt := topS 33
theorem sc_law_straight : FnScope ["_law_script", "_law_k", "_law_most", "_law_found", "_law_j", "_law_way", "_law_i", "_law_x"] ["_law_script", "_law_k", "_law_most"] (defScope st_law_straight) := ⟨rfl, rfl, rfl, by decide +kernel, rfl, by decide +kernel, by decide +kernel⟩
theorem ok_law_straight {f : Addr} {fd : FuncData} (T : Tx K w mg cv) (F : Fun K "_law_straight" "_law_straight" st_law_straight f fd) (hm : mg "_law_straight" = some (.ref f))  (G_law_mix : Fn P w K mg base cv 2 "_law_mix" 2 s_law_mix) (G_law_number : Fn P w K mg base cv 3 "_law_number" 3 s_law_number) : Fn P w K mg base cv 4 "_law_straight" 3 s_law_straight := by
  have hb : Binds K fd ["_law_script", "_law_k", "_law_most"] [] := F.binds fun _ _ _ _ _ _ us hl => match us, hl with | [_, _, _], _ => rfl
  refine fn_mk F sc_law_straight rfl hm hb fun cdv A outer s H E hr => ?_
  have nd := sc_law_straight.nd
  have hu := hr.units
  have tk : Takes (cxOf (L2.CX P w) P w K mg base ["_law_script", "_law_k", "_law_most", "_law_found", "_law_j", "_law_way", "_law_i", "_law_x"] "_law_straight" (defScope st_law_straight) f cdv A outer s H E) (fun cls d _ H => E cls d H) := takes_of rfl rfl rfl rfl
  have po : PassesOwn (model P w) (cxOf (L2.CX P w) P w K mg base ["_law_script", "_law_k", "_law_most", "_law_found", "_law_j", "_law_way", "_law_i", "_law_x"] "_law_straight" (defScope st_law_straight) f cdv A outer s H E).A (cxOf (L2.CX P w) P w K mg base ["_law_script", "_law_k", "_law_most", "_law_found", "_law_j", "_law_way", "_law_i", "_law_x"] "_law_straight" (defScope st_law_straight) f cdv A outer s H E).env (cxOf (L2.CX P w) P w K mg base ["_law_script", "_law_k", "_law_most", "_law_found", "_law_j", "_law_way", "_law_i", "_law_x"] "_law_straight" (defScope st_law_straight) f cdv A outer s H E).xe := passes_of rfl
  exact (rss_cons (rs_own 3 (rn_lst ra_nil) (fun h => ps_set (i := 3) nd rfl (by first | exact Or.inl rfl | exact Or.inr rfl) h))
    (rss_cons (rs_for po rfl (ri_rng1 T.n_range (ral_cons (RP.rl (re_ix (RP.rl (RP.re (rn_lst (ra_cons re_int (ra_cons re_int (ra_cons re_int (ra_cons re_int (ra_cons re_int (ra_cons re_int ra_nil))))))))) (RP.rl (re_op od_mod (RP.rl (re_call G_law_mix (hr.mono (by decide)) tk (ra_cons (re_var 0 (pv 0)) (ra_cons (re_var 1 (pv 1)) ra_nil)))) (RP.rl re_int))))) ral_nil)) (rg_nm 4 (pg_name (i := 4) nd rfl (by first | exact Or.inl rfl | exact Or.inr rfl)))
    (rss_cons (rs_own 5 (rn_lst (ra_cons (re_tup (ra_cons (re_str e_6174) (ra_cons (re_call G_law_number (hr.mono (by decide)) tk (ra_cons (re_var 0 (pv 0)) (ra_cons (re_op od_add (RP.rl (re_op od_add (rl_look 1 (pv 1)) (RP.rl re_int))) (RP.rl (re_op od_mul (RP.rl re_int) (rl_look 4 (pv 4))))) (ra_cons (re_var 2 (pv 2)) ra_nil)))) (ra_cons (re_call G_law_number (hr.mono (by decide)) tk (ra_cons (re_var 0 (pv 0)) (ra_cons (re_op od_add (RP.rl (re_op od_add (rl_look 1 (pv 1)) (RP.rl re_int))) (RP.rl (re_op od_mul (RP.rl re_int) (rl_look 4 (pv 4))))) (ra_cons (re_var 2 (pv 2)) ra_nil)))) ra_nil)))) ra_nil)) (fun h => ps_set (i := 5) nd rfl (by first | exact Or.inl rfl | exact Or.inr rfl) h))
    (rss_cons (rs_for po rfl (ri_rng1 T.n_range (ral_cons (RP.rl (re_op od_mod (RP.rl (re_call G_law_mix (hr.mono (by decide)) tk (ra_cons (re_var 0 (pv 0)) (ra_cons (re_op od_add (RP.rl (re_op od_add (rl_look 1 (pv 1)) (RP.rl re_int))) (RP.rl (re_op od_mul (RP.rl re_int) (rl_look 4 (pv 4))))) ra_nil)))) (RP.rl re_int))) ral_nil)) (rg_nm 6 (pg_name (i := 6) nd rfl (by first | exact Or.inl rfl | exact Or.inr rfl)))
    (rss_cons (rs_asg (re_call G_law_number (hr.mono (by decide)) tk (ra_cons (re_var 0 (pv 0)) (ra_cons (re_op od_add (RP.rl (re_op od_add (RP.rl (re_op od_add (rl_look 1 (pv 1)) (RP.rl re_int))) (RP.rl (re_op od_mul (RP.rl re_int) (rl_look 4 (pv 4)))))) (RP.rl (re_op od_mul (RP.rl re_int) (rl_look 6 (pv 6))))) (ra_cons (re_var 2 (pv 2)) ra_nil)))) (rg_nm 7 (pg_name (i := 7) nd rfl (by first | exact Or.inl rfl | exact Or.inr rfl))))
    (rss_one (rs_app 5 (pv 5) (re_tup (ra_cons (re_str e_746f) (ra_cons (re_var 7 (pv 7)) (ra_cons (re_call G_law_number (hr.mono (by decide)) tk (ra_cons (re_var 0 (pv 0)) (ra_cons (re_op od_add (RP.rl (re_op od_add (RP.rl (re_op od_add (rl_look 1 (pv 1)) (RP.rl re_int))) (RP.rl (re_op od_mul (RP.rl re_int) (rl_look 4 (pv 4)))))) (RP.rl (re_op od_mul (RP.rl re_int) (rl_look 6 (pv 6))))) (ra_cons (re_var 2 (pv 2)) ra_nil)))) ra_nil))))))))
    (rss_frz 5 (rss_one (rs_app 3 (pv 3) (re_var 5 (pv 5))))))))
    (rss_one (rs_retO 3 (pv 3)))))
abbrev st_law_filled : Stmt := topS 34
theorem sc_law_filled : FnScope ["_law_outline", "_law_point", "_law_rule", "_law_x", "_law_over", "_law_y", "_law_under", "_law_found", "_law_on", "_law_one", "_law_other", "_law_up", "_law_low", "_law_high", "_law_side", "_law_within"] ["_law_outline", "_law_point", "_law_rule"] (defScope st_law_filled) := ⟨rfl, rfl, rfl, by decide +kernel, rfl, by decide +kernel, by decide +kernel⟩
theorem ok_law_filled {f : Addr} {fd : FuncData} (T : Tx K w mg cv) (F : Fun K "_law_filled" "_law_filled" st_law_filled f fd) (hm : mg "_law_filled" = some (.ref f))  (G_law_pieces : Fn P w K mg base cv 1 "_law_pieces" 1 s_law_pieces) : Fn P w K mg base cv 2 "_law_filled" 3 s_law_filled := by
  have hb : Binds K fd ["_law_outline", "_law_point", "_law_rule"] [] := F.binds fun _ _ _ _ _ _ us hl => match us, hl with | [_, _, _], _ => rfl
  refine fn_mk F sc_law_filled rfl hm hb fun cdv A outer s H E hr => ?_
  have nd := sc_law_filled.nd
  have hu := hr.units
  have tk : Takes (cxOf (L2.CX P w) P w K mg base ["_law_outline", "_law_point", "_law_rule", "_law_x", "_law_over", "_law_y", "_law_under", "_law_found", "_law_on", "_law_one", "_law_other", "_law_up", "_law_low", "_law_high", "_law_side", "_law_within"] "_law_filled" (defScope st_law_filled) f cdv A outer s H E) (fun cls d _ H => E cls d H) := takes_of rfl rfl rfl rfl
  have po : PassesOwn (model P w) (cxOf (L2.CX P w) P w K mg base ["_law_outline", "_law_point", "_law_rule", "_law_x", "_law_over", "_law_y", "_law_under", "_law_found", "_law_on", "_law_one", "_law_other", "_law_up", "_law_low", "_law_high", "_law_side", "_law_within"] "_law_filled" (defScope st_law_filled) f cdv A outer s H E).A (cxOf (L2.CX P w) P w K mg base ["_law_outline", "_law_point", "_law_rule", "_law_x", "_law_over", "_law_y", "_law_under", "_law_found", "_law_on", "_law_one", "_law_other", "_law_up", "_law_low", "_law_high", "_law_side", "_law_within"] "_law_filled" (defScope st_law_filled) f cdv A outer s H E).env (cxOf (L2.CX P w) P w K mg base ["_law_outline", "_law_point", "_law_rule", "_law_x", "_law_over", "_law_y", "_law_under", "_law_found", "_law_on", "_law_one", "_law_other", "_law_up", "_law_low", "_law_high", "_law_side", "_law_within"] "_law_filled" (defScope st_law_filled) f cdv A outer s H E).xe := passes_of rfl
  exact (rss_cons (rs_asg (re_var 1 (pv 1)) (rg_tup rfl (rgs_cons (rg_tup rfl (rgs_cons (rg_nm 3 (pg_name (i := 3) nd rfl (by first | exact Or.inl rfl | exact Or.inr rfl))) (rgs_cons (rg_nm 4 (pg_name (i := 4) nd rfl (by first | exact Or.inl rfl | exact Or.inr rfl))) rgs_nil)) 2 (hl := (len_cons (len_cons (fun _ _ _ h => len_nil h))))) (rgs_cons (rg_tup rfl (rgs_cons (rg_nm 5 (pg_name (i := 5) nd rfl (by first | exact Or.inl rfl | exact Or.inr rfl))) (rgs_cons (rg_nm 6 (pg_name (i := 6) nd rfl (by first | exact Or.inl rfl | exact Or.inr rfl))) rgs_nil)) 2 (hl := (len_cons (len_cons (fun _ _ _ h => len_nil h))))) rgs_nil)) 2 (hl := (len_cons (len_cons (fun _ _ _ h => len_nil h))))))
    (rss_cons (rs_asg re_int (rg_nm 7 (pg_name (i := 7) nd rfl (by first | exact Or.inl rfl | exact Or.inr rfl))))
    (rss_cons (rs_asg re_bl (rg_nm 8 (pg_name (i := 8) nd rfl (by first | exact Or.inl rfl | exact Or.inr rfl))))
    (rss_cons (rs_for po rfl (ri_seq (re_call G_law_pieces (hr.mono (by decide)) tk (ra_cons (re_var 0 (pv 0)) ra_nil))) (rg_tup rfl (rgs_cons (rg_nm 9 (pg_name (i := 9) nd rfl (by first | exact Or.inl rfl | exact Or.inr rfl))) (rgs_cons (rg_nm 10 (pg_name (i := 10) nd rfl (by first | exact Or.inl rfl | exact Or.inr rfl))) rgs_nil)) 2 (hl := (len_cons (len_cons (fun _ _ _ h => len_nil h)))))
    (rss_cons (rs_asg (re_op od_sub (RP.rl (rp_ty an_D cd_int T.n_int b_int (ral_cons (RP.rl (re_cp od_gt (nomark _) (RP.rl (re_ix (rl_look 10 (pv 10)) (RP.rl re_int))) (RP.rl (re_ix (rl_look 9 (pv 9)) (RP.rl re_int))))) ral_nil))) (RP.rl (rp_ty an_D cd_int T.n_int b_int (ral_cons (RP.rl (re_cp od_lt (nomark _) (RP.rl (re_ix (rl_look 10 (pv 10)) (RP.rl re_int))) (RP.rl (re_ix (rl_look 9 (pv 9)) (RP.rl re_int))))) ral_nil)))) (rg_nm 11 (pg_name (i := 11) nd rfl (by first | exact Or.inl rfl | exact Or.inr rfl))))
    (rss_cons (rs_asg (re_if (rt_cp od_ge (nomark _) (rl_look 11 (pv 11)) (RP.rl re_int)) (re_tup (ra_cons (re_var 9 (pv 9)) (ra_cons (re_var 10 (pv 10)) ra_nil))) (re_tup (ra_cons (re_var 10 (pv 10)) (ra_cons (re_var 9 (pv 9)) ra_nil)))) (rg_tup rfl (rgs_cons (rg_nm 12 (pg_name (i := 12) nd rfl (by first | exact Or.inl rfl | exact Or.inr rfl))) (rgs_cons (rg_nm 13 (pg_name (i := 13) nd rfl (by first | exact Or.inl rfl | exact Or.inr rfl))) rgs_nil)) 2 (hl := (len_cons (len_cons (fun _ _ _ h => len_nil h))))))
    (rss_cons (rs_asg (re_op od_add (RP.rl (re_op od_mul (RP.rl (re_op od_mul (RP.rl (re_op od_sub (RP.rl (re_op od_mul (RP.rl (re_ix (rl_look 12 (pv 12)) (RP.rl re_int))) (rl_look 4 (pv 4)))) (rl_look 3 (pv 3)))) (RP.rl (re_op od_sub (RP.rl (re_ix (rl_look 13 (pv 13)) (RP.rl re_int))) (RP.rl (re_ix (rl_look 12 (pv 12)) (RP.rl re_int))))))) (rl_look 6 (pv 6)))) (RP.rl (re_op od_mul (RP.rl (re_op od_mul (RP.rl (re_op od_sub (RP.rl (re_ix (rl_look 13 (pv 13)) (RP.rl re_int))) (RP.rl (re_ix (rl_look 12 (pv 12)) (RP.rl re_int))))) (RP.rl (re_op od_sub (rl_look 5 (pv 5)) (RP.rl (re_op od_mul (RP.rl (re_ix (rl_look 12 (pv 12)) (RP.rl re_int))) (rl_look 6 (pv 6)))))))) (rl_look 4 (pv 4))))) (rg_nm 14 (pg_name (i := 14) nd rfl (by first | exact Or.inl rfl | exact Or.inr rfl))))
    (rss_cons (rs_asg (re_chain od_le od_le (by with_unfolding_all rfl) (RP.rl (re_op od_mul (RP.rl (rp_fun an_D (cd_min2 rfl) T.n_min b_min (ral_cons (RP.rl (re_ix (rl_look 9 (pv 9)) (RP.rl re_int))) (ral_cons (RP.rl (re_ix (rl_look 10 (pv 10)) (RP.rl re_int))) ral_nil)))) (rl_look 4 (pv 4)))) (rl_look 3 (pv 3)) (RP.rl (re_op od_mul (RP.rl (rp_fun an_D (cd_max2 rfl) T.n_max b_max (ral_cons (RP.rl (re_ix (rl_look 9 (pv 9)) (RP.rl re_int))) (ral_cons (RP.rl (re_ix (rl_look 10 (pv 10)) (RP.rl re_int))) ral_nil)))) (rl_look 4 (pv 4))))) (rg_nm 15 (pg_name (i := 15) nd rfl (by first | exact Or.inl rfl | exact Or.inr rfl))))
    (rss_cons (rs_if (rt_w (rw_and (rt_chain od_le od_le (by with_unfolding_all rfl) (RP.rl (re_op od_mul (RP.rl (re_ix (rl_look 12 (pv 12)) (RP.rl re_int))) (rl_look 6 (pv 6)))) (rl_look 5 (pv 5)) (RP.rl (re_op od_mul (RP.rl (re_ix (rl_look 13 (pv 13)) (RP.rl re_int))) (rl_look 6 (pv 6))))) (rw_and1 (rt_if (rt_cp (od_eq hu) (nomark _) (rl_look 11 (pv 11)) (RP.rl re_int)) (rt_tru (rl_look 15 (pv 15))) (rt_cp (od_eq hu) (nomark _) (rl_look 14 (pv 14)) (RP.rl re_int))))))
    (rss_one (rs_asg re_bl (rg_nm 8 (pg_name (i := 8) nd rfl (by first | exact Or.inl rfl | exact Or.inr rfl)))))
    rss_nil)
    (rss_one (rs_if (rt_w (rw_and (rt_chain od_le od_lt (by with_unfolding_all rfl) (RP.rl (re_op od_mul (RP.rl (re_ix (rl_look 12 (pv 12)) (RP.rl re_int))) (rl_look 6 (pv 6)))) (rl_look 5 (pv 5)) (RP.rl (re_op od_mul (RP.rl (re_ix (rl_look 13 (pv 13)) (RP.rl re_int))) (rl_look 6 (pv 6))))) (rw_and1 (rt_cp od_gt (nomark _) (rl_look 14 (pv 14)) (RP.rl re_int)))))
    (rss_one (rs_asg (re_op od_add (rl_look 7 (pv 7)) (rl_look 11 (pv 11))) (rg_nm 7 (pg_name (i := 7) nd rfl (by first | exact Or.inl rfl | exact Or.inr rfl)))))
    rss_nil))))))))
    (rss_one (rs_ret (re_tup (ra_cons (re_if (rt_cp (od_eq hu) (nomark _) (rl_look 2 (pv 2)) (RP.rl (re_str e_6f6464))) (re_cp (od_eq hu) (nomark _) (RP.rl (re_op od_mod (rl_look 7 (pv 7)) (RP.rl re_int))) (RP.rl re_int)) (re_cp (od_ne hu) (nomark _) (rl_look 7 (pv 7)) (RP.rl re_int))) (ra_cons (re_var 8 (pv 8)) ra_nil)))))))))
abbrev st_law_parted : Stmt := topS 35
theorem sc_law_parted : FnScope ["_law_way", "_law_k", "_law_at", "_law_one", "_law_other"] ["_law_way", "_law_k"] (defScope st_law_parted) := ⟨rfl, rfl, rfl, by decide +kernel, rfl, by decide +kernel, by decide +kernel⟩
theorem ok_law_parted {f : Addr} {fd : FuncData} (T : Tx K w mg cv) (F : Fun K "_law_parted" "_law_parted" st_law_parted f fd) (hm : mg "_law_parted" = some (.ref f))   : Fn P w K mg base cv 1 "_law_parted" 2 s_law_parted := by
  have hb : Binds K fd ["_law_way", "_law_k"] [] := F.binds fun _ _ _ _ _ _ us hl => match us, hl with | [_, _], _ => rfl
  refine fn_mk F sc_law_parted rfl hm hb fun cdv A outer s H E hr => ?_
  have nd := sc_law_parted.nd
  have hu := hr.units
  have tk : Takes (cxOf (L2.CX P w) P w K mg base ["_law_way", "_law_k", "_law_at", "_law_one", "_law_other"] "_law_parted" (defScope st_law_parted) f cdv A outer s H E) (fun cls d _ H => E cls d H) := takes_of rfl rfl rfl rfl
  have po : PassesOwn (model P w) (cxOf (L2.CX P w) P w K mg base ["_law_way", "_law_k", "_law_at", "_law_one", "_law_other"] "_law_parted" (defScope st_law_parted) f cdv A outer s H E).A (cxOf (L2.CX P w) P w K mg base ["_law_way", "_law_k", "_law_at", "_law_one", "_law_other"] "_law_parted" (defScope st_law_parted) f cdv A outer s H E).env (cxOf (L2.CX P w) P w K mg base ["_law_way", "_law_k", "_law_at", "_law_one", "_law_other"] "_law_parted" (defScope st_law_parted) f cdv A outer s H E).xe := passes_of rfl
  exact (rss_cons (rs_if (rt_cp od_lt (nomark _) (RP.rl (rp_fun an_D cd_len T.n_len b_len (ral_cons (rl_look 0 (pv 0)) ral_nil))) (RP.rl re_int))
    (rss_one (rs_ret (re_var 0 (pv 0))))
    rss_nil)
    (rss_cons (rs_asg (re_op od_add (RP.rl re_int) (RP.rl (re_op od_mod (rl_look 1 (pv 1)) (RP.rl (re_op od_sub (RP.rl (rp_fun an_D cd_len T.n_len b_len (ral_cons (rl_look 0 (pv 0)) ral_nil))) (RP.rl re_int)))))) (rg_nm 2 (pg_name (i := 2) nd rfl (by first | exact Or.inl rfl | exact Or.inr rfl))))
    (rss_cons (rs_asg (re_cut (RP.rl (re_ix (rl_look 0 (pv 0)) (RP.rl (re_op od_sub (rl_look 2 (pv 2)) (RP.rl re_int))))) (ro_some (RP.rl (re_neg (RP.rl re_int)))) ro_none) (rg_nm 3 (pg_name (i := 3) nd rfl (by first | exact Or.inl rfl | exact Or.inr rfl))))
    (rss_cons (rs_asg (re_cut (RP.rl (re_ix (rl_look 0 (pv 0)) (rl_look 2 (pv 2)))) (ro_some (RP.rl (re_neg (RP.rl re_int)))) ro_none) (rg_nm 4 (pg_name (i := 4) nd rfl (by first | exact Or.inl rfl | exact Or.inr rfl))))
    (rss_cons (rs_if (rt_w (rw_or (rt_cp (od_eq hu) (nomark _) (RP.rl (re_op od_mod (RP.rl (re_op od_add (RP.rl (re_ix (rl_look 3 (pv 3)) (RP.rl re_int))) (RP.rl (re_ix (rl_look 4 (pv 4)) (RP.rl re_int))))) (RP.rl re_int))) (RP.rl re_int)) (rw_or1 (rt_cp (od_eq hu) (nomark _) (RP.rl (re_op od_mod (RP.rl (re_op od_add (RP.rl (re_ix (rl_look 3 (pv 3)) (RP.rl re_int))) (RP.rl (re_ix (rl_look 4 (pv 4)) (RP.rl re_int))))) (RP.rl re_int))) (RP.rl re_int)))))
    (rss_one (rs_ret (re_var 0 (pv 0))))
    rss_nil)
    (rss_one (rs_ret (re_op od_add (RP.rl (re_op od_add (RP.rl (re_cut (rl_look 0 (pv 0)) ro_none (ro_some (rl_look 2 (pv 2))))) (RP.rl (RP.re (rn_lst (ra_cons (re_tup (ra_cons (re_str e_746f) (ra_cons (re_op od_div (RP.rl (re_op od_add (RP.rl (re_ix (rl_look 3 (pv 3)) (RP.rl re_int))) (RP.rl (re_ix (rl_look 4 (pv 4)) (RP.rl re_int))))) (RP.rl re_int)) (ra_cons (re_op od_div (RP.rl (re_op od_add (RP.rl (re_ix (rl_look 3 (pv 3)) (RP.rl re_int))) (RP.rl (re_ix (rl_look 4 (pv 4)) (RP.rl re_int))))) (RP.rl re_int)) ra_nil)))) ra_nil)))))) (RP.rl (re_cut (rl_look 0 (pv 0)) (ro_some (rl_look 2 (pv 2))) ro_none))))))))))
abbrev st_law_fraction : Stmt := topS 36
theorem sc_law_fraction : FnScope ["_law_found", "_law_one", "_law_other"] ["_law_found"] (defScope st_law_fraction) := ⟨rfl, rfl, rfl, by decide +kernel, rfl, by decide +kernel, by decide +kernel⟩
theorem ok_law_fraction {f : Addr} {fd : FuncData} (T : Tx K w mg cv) (F : Fun K "_law_fraction" "_law_fraction" st_law_fraction f fd) (hm : mg "_law_fraction" = some (.ref f))  (G_law_whole : Fn P w K mg base cv 1 "_law_whole" 1 s_law_whole) : Fn P w K mg base cv 2 "_law_fraction" 1 s_law_fraction := by
  have hb : Binds K fd ["_law_found"] [] := F.binds fun _ _ _ _ _ _ us hl => match us, hl with | [_], _ => rfl
  refine fn_mk F sc_law_fraction rfl hm hb fun cdv A outer s H E hr => ?_
  have nd := sc_law_fraction.nd
  have hu := hr.units
  have tk : Takes (cxOf (L2.CX P w) P w K mg base ["_law_found", "_law_one", "_law_other"] "_law_fraction" (defScope st_law_fraction) f cdv A outer s H E) (fun cls d _ H => E cls d H) := takes_of rfl rfl rfl rfl
  have po : PassesOwn (model P w) (cxOf (L2.CX P w) P w K mg base ["_law_found", "_law_one", "_law_other"] "_law_fraction" (defScope st_law_fraction) f cdv A outer s H E).A (cxOf (L2.CX P w) P w K mg base ["_law_found", "_law_one", "_law_other"] "_law_fraction" (defScope st_law_fraction) f cdv A outer s H E).env (cxOf (L2.CX P w) P w K mg base ["_law_found", "_law_one", "_law_other"] "_law_fraction" (defScope st_law_fraction) f cdv A outer s H E).xe := passes_of rfl
  exact (rss_cons (rs_if (rt_w (rw_or (rt_not (rt_val (re_isi .tuple T.n_isinstance b_isinstance T.n_tuple b_tuple (rl_look 0 (pv 0))))) (rw_or (rt_cp (od_ne hu) (nomark _) (RP.rl (rp_fun an_D cd_len T.n_len b_len (ral_cons (rl_look 0 (pv 0)) ral_nil))) (RP.rl re_int)) (rw_or (rt_not (rt_val (re_call G_law_whole (hr.mono (by decide)) tk (ra_cons (re_ix (rl_look 0 (pv 0)) (RP.rl re_int)) ra_nil)))) (rw_or1 (rt_not (rt_val (re_call G_law_whole (hr.mono (by decide)) tk (ra_cons (re_ix (rl_look 0 (pv 0)) (RP.rl re_int)) ra_nil)))))))))
    (rss_one (rs_ret re_bl))
    rss_nil)
    (rss_cons (rs_par (i := 1) (j := 2) rfl nd (ra_cons (rp_fun an_D cd_abs T.n_abs b_abs (ral_cons (RP.rl (re_ix (rl_look 0 (pv 0)) (RP.rl re_int))) ral_nil)) (ra_cons (re_ix (rl_look 0 (pv 0)) (RP.rl re_int)) ra_nil)))
    (rss_cons (rs_while po (rt_cp od_gt (nomark _) (rl_look 2 (pv 2)) (RP.rl re_int))
    (rss_one (rs_par (i := 1) (j := 2) rfl nd (ra_cons (re_var 2 (pv 2)) (ra_cons (re_op od_mod (rl_look 1 (pv 1)) (rl_look 2 (pv 2))) ra_nil)))))
    (rss_one (rs_ret (re_and (re_cp od_gt (nomark _) (RP.rl (re_ix (rl_look 0 (pv 0)) (RP.rl re_int))) (RP.rl re_int)) (re_one (re_cp (od_eq hu) (nomark _) (rl_look 1 (pv 1)) (RP.rl re_int)))))))))
abbrev st_law : Stmt := topS 37
theorem sc_law : FnScope ["_law_script", "_law_most", "_law_outline", "_law_way", "_law_other", "_law_corner", "_law_rule", "_law_found", "_law_first", "_law_on", "_law_second", "_law_by", "_law_points", "_law_k", "_law_number_here", "_law_one", "_law_point"] ["_law_script"] (defScope st_law) := ⟨rfl, rfl, rfl, by decide +kernel, rfl, by decide +kernel, by decide +kernel⟩
end
end Gy.k60

end

section
set_option Elab.async false
set_option linter.all false
set_option maxRecDepth 100000
set_option maxHeartbeats 2000000
namespace Gy.k60
open PySem Gy
theorem to_ln (w : Way) (h : ∀ s ∈ w.st, ∃ x y, s = .to x y) : ∀ p ∈ w.pcs, p.isLn = true := by
  have : ∀ (st : List Stp) (a : Pt), (∀ s ∈ st, ∃ x y, s = .to x y) → ∀ p ∈ linesFrom a st, p.isLn = true := fun st => by
    induction st with
    | nil => intro a _ p hp; cases hp
    | cons s r ih =>
      intro a hs p hp
      obtain ⟨x, y, rfl⟩ := hs s List.mem_cons_self
      rcases List.mem_cons.mp hp with rfl | hp
      · rfl
      · exact ih _ (fun s z => hs s (List.mem_cons_of_mem _ z)) p hp
  intro p hp
  unfold Way.pcs at hp
  rcases List.mem_append.mp hp with hp | hp
  · exact this w.st w.at h p hp
  · split at hp
    · cases hp
    · have e : p = .ln (endFrom w.at w.st) w.at := by simpa using hp
      rw [e]
      rfl
theorem straight_of (o : List Way) (h : ∀ w ∈ o, ∀ s ∈ w.st, ∃ x y, s = .to x y) : (pcs o).any (fun p => !p.isLn) = false := by
  refine List.any_eq_false.mpr fun p hp => ?_
  obtain ⟨w, hw, hp⟩ := List.mem_flatMap.mp hp
  rw [to_ln w (h w hw) p hp]
  decide
theorem strw_bn (ns : List Int) (k most : Int) (j : Nat) (h0 : 0 ≤ most) : (strw ns k most j).bn (max 5 most).toNat := ⟨⟨num_bn _ _ _ h0, num_bn _ _ _ h0⟩, fun s hs => by
  obtain ⟨i, _, rfl⟩ := List.mem_map.mp hs
  exact ⟨num_bn _ _ _ h0, num_bn _ _ _ h0⟩⟩
theorem strw_len (ns : List Int) (k most : Int) (j : Nat) : (strw ns k most j).st.length ≤ 4 := by
  have r0 := Int.emod_nonneg (mixv ns (k + 3 + 12 * (j : Int))) (show (5 : Int) ≠ 0 by decide)
  have r1 := Int.emod_lt_of_pos (mixv ns (k + 3 + 12 * (j : Int))) (show (0 : Int) < 5 by decide)
  simp [strw]
  omega
theorem strv_len (ns : List Int) (k most : Int) : (strv ns k most).length ≤ 2 := by
  unfold strv strn
  simp only [List.length_map, List.length_range]
  repeat (split; omega)
  omega
theorem strv_ok (ns : List Int) (k most : Int) (h0 : 0 ≤ most) (h1 : most ≤ 100000) : OutOk (strv ns k most) ∧ (pcs (strv ns k most)).any (fun p => !p.isLn) = false ∧ (linesv (strv ns k most)).length ≤ 10 := by
  have hl := strv_len ns k most
  refine ⟨⟨by omega, fun w hw => ?_⟩, straight_of _ fun w hw s hs => ?_, ?_⟩
  · obtain ⟨j, _, rfl⟩ := List.mem_map.mp hw
    have := strw_len ns k most j
    exact way_ok (by omega) (strw_bn ns k most j h0) (by omega)
  · obtain ⟨j, _, rfl⟩ := List.mem_map.mp hw
    obtain ⟨i, _, rfl⟩ := List.mem_map.mp hs
    exact ⟨_, _, rfl⟩
  · have h2 := pcs_tot (n := 4) (strv ns k most) fun w hw => by
      obtain ⟨j, _, rfl⟩ := List.mem_map.mp hw
      exact strw_len ns k most j
    have h3 := List.length_filter_le (fun l : Seg => decide (l.1.2 ≠ l.2.2)) ((pcs (strv ns k most)).map Pc.seg)
    rw [List.length_map] at h3
    unfold linesv
    omega
/-! ### the law's own filling -/
theorem ab_add {a b : Int} {A B : Nat} (ha : a.natAbs ≤ A) (hb : b.natAbs ≤ B) : (a + b).natAbs ≤ A + B := by omega
theorem ab_sub {a b : Int} {A B : Nat} (ha : a.natAbs ≤ A) (hb : b.natAbs ≤ B) : (a - b).natAbs ≤ A + B := by omega
theorem sm_to {i : Int} {M : Nat} (h : i.natAbs ≤ M) (hM : M ≤ cap := by decide +kernel) : Sm i := sm_cap (Nat.le_trans h hM)
theorem chain_le {a b c : XE} {ρ : Rho} {i j k : Int} (ha : a ρ = .ok (.int i)) (hb : b ρ = .ok (.int j)) (hc : c ρ = .ok (.int k)) : xChain dLe dLe a b c ρ = .ok (.bl (decide (i ≤ j) && decide (j ≤ k))) := by
  show (a ρ).bind _ = _
  rw [ha, R.bind_ok, hb, R.bind_ok, dLe_i, R.bind_ok, dAsB_b, R.bind_ok]
  by_cases h : i ≤ j
  · rw [decide_eq_true h, if_pos rfl, hc, R.bind_ok, dLe_i]
    rfl
  · rw [decide_eq_false h, if_neg Bool.false_ne_true]
    rfl
theorem xAt_flip {l : Seg} (n : l.1.2 ≠ l.2.2) (h : Rat) : xAt (l.2, l.1) h = xAt l h := by
  have d1 : (l.1.2 : Rat) - l.2.2 ≠ 0 := fun z => n (Rat.intCast_inj.mp (by grind))
  have d2 : (l.2.2 : Rat) - l.1.2 ≠ 0 := fun z => n (Rat.intCast_inj.mp (by grind))
  have q1 : (h - l.2.2) / ((l.1.2 : Rat) - l.2.2) * ((l.1.2 : Rat) - l.2.2) = h - l.2.2 := Rat.div_mul_cancel d1
  have q2 : (h - l.1.2) / ((l.2.2 : Rat) - l.1.2) * ((l.2.2 : Rat) - l.1.2) = h - l.1.2 := Rat.div_mul_cancel d2
  show (l.2.1 : Rat) + ((l.1.1 : Rat) - l.2.1) * ((h - l.2.2) / ((l.1.2 : Rat) - l.2.2)) = (l.1.1 : Rat) + ((l.2.1 : Rat) - l.1.1) * ((h - l.1.2) / ((l.2.2 : Rat) - l.1.2))
  generalize (h - l.2.2) / ((l.1.2 : Rat) - l.2.2) = S at *
  generalize (h - l.1.2) / ((l.2.2 : Rat) - l.1.2) = T at *
  have z : (S - (1 - T)) * ((l.1.2 : Rat) - l.2.2) = 0 := by grind
  rcases Rat.mul_eq_zero.mp z with z | z
  · grind
  · exact absurd z d1
def sideI (lo hi : Pt) (x u y v : Int) : Int := (lo.1 * u - x) * (hi.2 - lo.2) * v + (hi.1 - lo.1) * (y - lo.2 * v) * u
theorem side_rat {lo hi : Pt} (h : lo.2 < hi.2) {x u y v : Int} (hu : 0 < u) (hv : 0 < v) : (0 < sideI lo hi x u y v ↔ val (x, u) < xAt (lo, hi) (val (y, v))) ∧ (sideI lo hi x u y v = 0 ↔ val (x, u) = xAt (lo, hi) (val (y, v))) := by
  have m1 := val_mul (f := (x, u)) hu
  have m2 := val_mul (f := (y, v)) hv
  have hr := clt.mpr h
  have ur := cpos hu
  have vr := cpos hv
  have dne : (hi.2 : Rat) - lo.2 ≠ 0 := by grind
  have dc : (val (y, v) - lo.2) / ((hi.2 : Rat) - lo.2) * ((hi.2 : Rat) - lo.2) = val (y, v) - lo.2 := Rat.div_mul_cancel dne
  have ex : xAt (lo, hi) (val (y, v)) = (lo.1 : Rat) + ((hi.1 : Rat) - lo.1) * ((val (y, v) - lo.2) / ((hi.2 : Rat) - lo.2)) := rfl
  rw [ex]
  generalize (val (y, v) - lo.2) / ((hi.2 : Rat) - lo.2) = T at *
  have e : (sideI lo hi x u y v : Rat) = ((lo.1 : Rat) + ((hi.1 : Rat) - lo.1) * T - val (x, u)) * (((hi.2 : Rat) - lo.2) * u * v) := by
    have e0 : (sideI lo hi x u y v : Rat) = ((lo.1 : Rat) * u - x) * ((hi.2 : Rat) - lo.2) * v + ((hi.1 : Rat) - lo.1) * ((y : Rat) - lo.2 * v) * u := by
      unfold sideI
      grind
    rw [e0]
    have m1' : (x : Rat) = val (x, u) * u := m1.symm
    have m2' : (y : Rat) = val (y, v) * v := m2.symm
    generalize val (x, u) = XX at *
    generalize val (y, v) = YY at *
    rw [m1', m2']
    grind
  have pk : 0 < ((hi.2 : Rat) - lo.2) * u * v := Rat.mul_pos (Rat.mul_pos (by grind) ur) vr
  generalize val (x, u) = XX at *
  generalize ((hi.2 : Rat) - lo.2) * u * v = K at *
  constructor
  · constructor
    · intro z
      have zr := cpos z
      rw [e] at zr
      have := (Rat.mul_pos_iff_of_pos_right pk).mp zr
      grind
    · intro z
      have : 0 < (sideI lo hi x u y v : Rat) := by
        rw [e]
        exact Rat.mul_pos (by grind) pk
      exact Rat.intCast_pos.mp this
  · constructor
    · intro z
      rw [z] at e
      have e' : ((lo.1 : Rat) + ((hi.1 : Rat) - lo.1) * T - XX) * K = 0 := e.symm
      rcases Rat.mul_eq_zero.mp e' with q | q
      · grind
      · rw [q] at pk
        exact absurd pk (by decide)
    · intro z
      have : (sideI lo hi x u y v : Rat) = 0 := by rw [e, ← z]; grind
      exact Rat.intCast_eq_zero_iff.mp this
theorem low_rat (n : Int) {y v : Int} (hv : 0 < v) : (n * v ≤ y ↔ (n : Rat) ≤ val (y, v)) ∧ (y < n * v ↔ val (y, v) < (n : Rat)) ∧ (y ≤ n * v ↔ val (y, v) ≤ (n : Rat)) := by
  have m2 := val_mul (f := (y, v)) hv
  have m2' : (y : Rat) = val (y, v) * v := m2.symm
  have vr := cpos hv
  have e : ((n * v : Int) : Rat) = (n : Rat) * v := by grind
  refine ⟨?_, ?_, ?_⟩
  · rw [← cle, e, m2']
    exact ⟨fun h => Rat.le_of_mul_le_mul_right h vr, fun h => Rat.mul_le_mul_of_nonneg_right h (Rat.le_of_lt vr)⟩
  · rw [← clt, e, m2']
    exact Rat.mul_lt_mul_right vr
  · rw [← cle, e, m2']
    exact ⟨fun h => Rat.le_of_mul_le_mul_right h vr, fun h => Rat.mul_le_mul_of_nonneg_right h (Rat.le_of_lt vr)⟩
/-- on a line -/
def onP (l : Seg) (X Y : Pt) : Prop := (l.1.2 ≠ l.2.2 ∧ actC l (val Y) ∧ val X = xAt l (val Y)) ∨ (l.1.2 = l.2.2 ∧ val Y = (l.1.2 : Rat) ∧ (if l.2.1 < l.1.1 then l.2.1 else l.1.1) * X.2 ≤ X.1 ∧ X.1 ≤ (if l.2.1 > l.1.1 then l.2.1 else l.1.1) * X.2)
noncomputable def onB (l : Seg) (X Y : Pt) : Bool := open Classical in decide (onP l X Y)
theorem fill_in (a0 a1 a2 : Sl) {x u y v : Int} (hu : 0 < u) (hv : 0 < v) (bx : x.natAbs ≤ 10 ^ 100) (bu : u.natAbs ≤ 10 ^ 100) (by' : y.natAbs ≤ 10 ^ 100) (bv : v.natAbs ≤ 10 ^ 100) {a b : Pt} (ha : Pt.bn 1000 a) (hb : Pt.bn 1000 b) (n : Int) (on : Bool) (t11 t12 t13 t14 t15 : Sl) : ∃ u11 u12 u13 u14 u15,
    b_law_filled_1 [a0, a1, a2, .dat (.int x), .dat (.int u), .dat (.int y), .dat (.int v), .dat (.int n), .dat (.bl on), .dat (ePt a), .dat (ePt b), t11, t12, t13, t14, t15]
      = .nx [a0, a1, a2, .dat (.int x), .dat (.int u), .dat (.int y), .dat (.int v), .dat (.int (n + ctb (a, b) (val (x, u)) (val (y, v)))), .dat (.bl (on || onB (a, b) (x, u) (y, v))), .dat (ePt a), .dat (ePt b), u11, u12, u13, u14, u15] := by
  have sx := sm_to bx
  have su := sm_to bu
  have sy := sm_to by'
  have sv := sm_to bv
  -- the numbers of a lower and an upper end
  have nums : ∀ lo hi : Pt, Pt.bn 1000 lo → Pt.bn 1000 hi → Sm lo.1 ∧ Sm lo.2 ∧ Sm hi.2 ∧ Sm (lo.1 * u - x) ∧ Sm (hi.2 - lo.2) ∧ Sm ((lo.1 * u - x) * (hi.2 - lo.2)) ∧ Sm (hi.1 - lo.1) ∧ Sm (y - lo.2 * v) ∧ Sm ((hi.1 - lo.1) * (y - lo.2 * v)) := fun lo hi hl hh => by
    have q1 := ab_sub (ab_mul hl.1 bu) bx
    have q2 := ab_sub hh.2 hl.2
    have q3 := ab_sub hh.1 hl.1
    have q4 := ab_sub by' (ab_mul hl.2 bv)
    exact ⟨sm_to hl.1, sm_to hl.2, sm_to hh.2, sm_to q1, sm_to q2, sm_to (ab_mul q1 q2), sm_to q3, sm_to q4, sm_to (ab_mul q3 q4)⟩
  have mn : (if b.1 < a.1 then b.1 else a.1).natAbs ≤ 1000 := by obtain ⟨_, _⟩ := ha; obtain ⟨_, _⟩ := hb; split <;> omega
  have mx : (if b.1 > a.1 then b.1 else a.1).natAbs ≤ 1000 := by obtain ⟨_, _⟩ := ha; obtain ⟨_, _⟩ := hb; split <;> omega
  have smn := sm_to mn
  have smx := sm_to mx
  -- all behind the ends are known
  have tail : ∀ (up : Int) (lo hi : Pt), Pt.bn 1000 lo → Pt.bn 1000 hi → ∃ u14 u15,
      ((sSeq (sAsg (xBin dAdd (xBin dMul (xBin dMul (xBin dSub (xBin dMul (xBin dIx (xLook 12) (xC (.int 0))) (xLook 4)) (xLook 3)) (xBin dSub (xBin dIx (xLook 13) (xC (.int 1))) (xBin dIx (xLook 12) (xC (.int 1))))) (xLook 6)) (xBin dMul (xBin dMul (xBin dSub (xBin dIx (xLook 13) (xC (.int 0))) (xBin dIx (xLook 12) (xC (.int 0)))) (xBin dSub (xLook 5) (xBin dMul (xBin dIx (xLook 12) (xC (.int 1))) (xLook 6)))) (xLook 4))) (gNm 14))
    (sSeq (sAsg (xChain dLe dLe (xBin dMul (xFun (two bMin) (xCons (xBin dIx (xLook 9) (xC (.int 0))) (xCons (xBin dIx (xLook 10) (xC (.int 0))) xNil))) (xLook 4)) (xLook 3) (xBin dMul (xFun (two bMax) (xCons (xBin dIx (xLook 9) (xC (.int 0))) (xCons (xBin dIx (xLook 10) (xC (.int 0))) xNil))) (xLook 4))) (gNm 15))
    (sSeq (sIf (tAnd (tB (xChain dLe dLe (xBin dMul (xBin dIx (xLook 12) (xC (.int 1))) (xLook 6)) (xLook 5) (xBin dMul (xBin dIx (xLook 13) (xC (.int 1))) (xLook 6)))) (tIfT (tB (xBin dEq (xLook 11) (xC (.int 0)))) (tTru (xLook 15)) (tB (xBin dEq (xLook 14) (xC (.int 0))))))
    (sAsg (xC (.bl true)) (gNm 8))
    sNil)
    (sIf (tAnd (tB (xChain dLe dLt (xBin dMul (xBin dIx (xLook 12) (xC (.int 1))) (xLook 6)) (xLook 5) (xBin dMul (xBin dIx (xLook 13) (xC (.int 1))) (xLook 6)))) (tB (xBin dGt (xLook 14) (xC (.int 0)))))
    (sAsg (xBin dAdd (xLook 7) (xLook 11)) (gNm 7))
    sNil))))) [a0, a1, a2, .dat (.int x), .dat (.int u), .dat (.int y), .dat (.int v), .dat (.int n), .dat (.bl on), .dat (ePt a), .dat (ePt b), .dat (.int up), .dat (ePt lo), .dat (ePt hi), t14, t15]
      = .nx [a0, a1, a2, .dat (.int x), .dat (.int u), .dat (.int y), .dat (.int v), .dat (.int (n + if (lo.2 * v ≤ y ∧ y < hi.2 * v) ∧ 0 < sideI lo hi x u y v then up else 0)), .dat (.bl (on || decide ((lo.2 * v ≤ y ∧ y ≤ hi.2 * v) ∧ if up = 0 then ((if b.1 < a.1 then b.1 else a.1) * u ≤ x ∧ x ≤ (if b.1 > a.1 then b.1 else a.1) * u) else sideI lo hi x u y v = 0))), .dat (ePt a), .dat (ePt b), .dat (.int up), .dat (ePt lo), .dat (ePt hi), u14, u15] := fun up lo hi hl hh => by
    obtain ⟨n1, n2, n3, n4, n5, n6, n7, n8, n9⟩ := nums lo hi hl hh
    obtain ⟨a1', a2'⟩ := a
    obtain ⟨b1', b2'⟩ := b
    obtain ⟨l1, l2⟩ := lo
    obtain ⟨h1, h2⟩ := hi
    dsimp only at *
    refine ⟨.dat (.int (sideI (l1, l2) (h1, h2) x u y v)), .dat (.bl (decide ((if b1' < a1' then b1' else a1') * u ≤ x) && decide (x ≤ (if b1' > a1' then b1' else a1') * u))), ?_⟩
    have hS : (l1 * u - x) * (h2 - l2) * v + (h1 - l1) * (y - l2 * v) * u = sideI (l1, l2) (h1, h2) x u y v := rfl
    refine (go_nx (ρ' := [a0, a1, a2, .dat (.int x), .dat (.int u), .dat (.int y), .dat (.int v), .dat (.int n), .dat (.bl on), .dat (ePt (a1', a2')), .dat (ePt (b1', b2')), .dat (.int up), .dat (ePt (l1, l2)), .dat (ePt (h1, h2)), .dat (.int (sideI (l1, l2) (h1, h2) x u y v)), t15]) (by simp [ePt, su, sv, n1, n2, n4, n5, n6, n7, n8, n9, hS])).trans ?_
    generalize sideI (l1, l2) (h1, h2) x u y v = SI
    refine (go_nx (ρ' := [a0, a1, a2, .dat (.int x), .dat (.int u), .dat (.int y), .dat (.int v), .dat (.int n), .dat (.bl on), .dat (ePt (a1', a2')), .dat (ePt (b1', b2')), .dat (.int up), .dat (ePt (l1, l2)), .dat (ePt (h1, h2)), .dat (.int SI), .dat (.bl (decide ((if b1' < a1' then b1' else a1') * u ≤ x) && decide (x ≤ (if b1' > a1' then b1' else a1') * u)))]) ?_).trans ?_
    · have c := chain_le (a := xBin dMul (xFun (two bMin) (xCons (xBin dIx (xLook 9) (xC (.int 0))) (xCons (xBin dIx (xLook 10) (xC (.int 0))) xNil))) (xLook 4)) (b := xLook 3) (c := xBin dMul (xFun (two bMax) (xCons (xBin dIx (xLook 9) (xC (.int 0))) (xCons (xBin dIx (xLook 10) (xC (.int 0))) xNil))) (xLook 4)) (ρ := [a0, a1, a2, .dat (.int x), .dat (.int u), .dat (.int y), .dat (.int v), .dat (.int n), .dat (.bl on), .dat (ePt (a1', a2')), .dat (ePt (b1', b2')), .dat (.int up), .dat (ePt (l1, l2)), .dat (ePt (h1, h2)), .dat (.int SI), t15]) (i := (if b1' < a1' then b1' else a1') * u) (j := x) (k := (if b1' > a1' then b1' else a1') * u)
        (by
          generalize hm : (if b1' < a1' then b1' else a1') = m at *
          simp [ePt, hm, smn, su])
        rfl
        (by
          generalize hm : (if b1' > a1' then b1' else a1') = m at *
          simp [ePt] at hm ⊢
          simp [hm, smx, su])
      show (xChain _ _ _ _ _ _).thn _ _ = _
      rw [c]
      rfl
    · generalize (if b1' < a1' then b1' else a1') * u = M1
      generalize (if b1' > a1' then b1' else a1') * u = M2
      by_cases c1 : l2 * v ≤ y
      · by_cases c2 : y < h2 * v
        · have c3 : y ≤ h2 * v := by omega
          by_cases c4 : 0 < SI
          · have c5 : ¬ SI = 0 := by omega
            by_cases c6 : up = 0
            · by_cases c7 : M1 ≤ x
              · by_cases c8 : x ≤ M2 <;> simp [ePt, n2, n3, sv, c1, c2, c3, c4, c5, c6, c7, c8]
              · simp [ePt, n2, n3, sv, c1, c2, c3, c4, c5, c6, c7]
            · simp [ePt, n2, n3, sv, c1, c2, c3, c4, c5, c6]
          · by_cases c6 : up = 0
            · by_cases c7 : M1 ≤ x
              · by_cases c8 : x ≤ M2 <;> simp [ePt, n2, n3, sv, c1, c2, c3, c4, c6, c7, c8]
              · simp [ePt, n2, n3, sv, c1, c2, c3, c4, c6, c7]
            · by_cases c5 : SI = 0 <;> simp [ePt, n2, n3, sv, c1, c2, c3, c4, c5, c6]
        · by_cases c3 : y ≤ h2 * v
          · by_cases c6 : up = 0
            · by_cases c7 : M1 ≤ x
              · by_cases c8 : x ≤ M2 <;> simp [ePt, n2, n3, sv, c1, c2, c3, c6, c7, c8]
              · simp [ePt, n2, n3, sv, c1, c2, c3, c6, c7]
            · by_cases c5 : SI = 0 <;> simp [ePt, n2, n3, sv, c1, c2, c3, c5, c6]
          · simp [ePt, n2, n3, sv, c1, c2, c3]
      · simp [ePt, n2, n3, sv, c1]
  have go : ∀ (up : Int) (lo hi : Pt), Pt.bn 1000 lo → Pt.bn 1000 hi → (xBin dSub (xFun (one bInt) (xCons (xBin dGt (xBin dIx (xLook 10) (xC (.int 1))) (xBin dIx (xLook 9) (xC (.int 1)))) xNil)) (xFun (one bInt) (xCons (xBin dLt (xBin dIx (xLook 10) (xC (.int 1))) (xBin dIx (xLook 9) (xC (.int 1)))) xNil))) [a0, a1, a2, .dat (.int x), .dat (.int u), .dat (.int y), .dat (.int v), .dat (.int n), .dat (.bl on), .dat (ePt a), .dat (ePt b), t11, t12, t13, t14, t15] = .ok (.int up) →
      (0 ≤ up → lo = a ∧ hi = b) → (¬ 0 ≤ up → lo = b ∧ hi = a) → ∃ u14 u15, b_law_filled_1 [a0, a1, a2, .dat (.int x), .dat (.int u), .dat (.int y), .dat (.int v), .dat (.int n), .dat (.bl on), .dat (ePt a), .dat (ePt b), t11, t12, t13, t14, t15]
        = .nx [a0, a1, a2, .dat (.int x), .dat (.int u), .dat (.int y), .dat (.int v), .dat (.int (n + if (lo.2 * v ≤ y ∧ y < hi.2 * v) ∧ 0 < sideI lo hi x u y v then up else 0)), .dat (.bl (on || decide ((lo.2 * v ≤ y ∧ y ≤ hi.2 * v) ∧ if up = 0 then ((if b.1 < a.1 then b.1 else a.1) * u ≤ x ∧ x ≤ (if b.1 > a.1 then b.1 else a.1) * u) else sideI lo hi x u y v = 0))), .dat (ePt a), .dat (ePt b), .dat (.int up), .dat (ePt lo), .dat (ePt hi), u14, u15] := fun up lo hi hl hh eu e1 e2 => by
    obtain ⟨u14, u15, e⟩ := tail up lo hi hl hh
    refine ⟨u14, u15, ?_⟩
    refine (go_nx (ρ' := [a0, a1, a2, .dat (.int x), .dat (.int u), .dat (.int y), .dat (.int v), .dat (.int n), .dat (.bl on), .dat (ePt a), .dat (ePt b), .dat (.int up), t12, t13, t14, t15]) (by
      show (xBin dSub _ _ _).thn _ _ = _
      rw [eu]
      rfl)).trans ?_
    refine (go_nx (ρ' := [a0, a1, a2, .dat (.int x), .dat (.int u), .dat (.int y), .dat (.int v), .dat (.int n), .dat (.bl on), .dat (ePt a), .dat (ePt b), .dat (.int up), .dat (ePt lo), .dat (ePt hi), t14, t15]) ?_).trans e
    by_cases c : 0 ≤ up
    · obtain ⟨rfl, rfl⟩ := e1 c
      generalize ePt lo = A
      generalize ePt hi = B
      simp [c]
    · obtain ⟨rfl, rfl⟩ := e2 c
      generalize ePt lo = A
      generalize ePt hi = B
      simp [c]
  clear tail nums
  obtain ⟨r1, r2, r3⟩ := low_rat a.2 (y := y) hv
  obtain ⟨s1, s2, s3⟩ := low_rat b.2 (y := y) hv
  rcases Int.lt_trichotomy a.2 b.2 with c | c | c
  · obtain ⟨u14, u15, e⟩ := go 1 a b ha hb (by
      have c2 : ¬ b.2 < a.2 := by omega
      simp [ePt, c, c2]) (fun _ => ⟨rfl, rfl⟩) (fun h => absurd (by decide) h)
    obtain ⟨g1, g2⟩ := side_rat c (x := x) (y := y) hu hv
    have cr := clt.mpr c
    refine ⟨.dat (.int 1), .dat (ePt a), .dat (ePt b), u14, u15, ?_⟩
    rw [e]
    have f1 : (if (a.2 * v ≤ y ∧ y < b.2 * v) ∧ 0 < sideI a b x u y v then (1 : Int) else 0) = ctb (a, b) (val (x, u)) (val (y, v)) := by
      unfold ctb
      rw [if_pos (show (a, b).1.2 < (a, b).2.2 from c)]
      by_cases d : (a.2 * v ≤ y ∧ y < b.2 * v) ∧ 0 < sideI a b x u y v
      · rw [if_pos d, if_pos ⟨r1.mp d.1.1, s2.mp d.1.2, g1.mp d.2⟩]
      · rw [if_neg d, if_neg (fun z => d ⟨⟨r1.mpr z.1, s2.mpr z.2.1⟩, g1.mpr z.2.2⟩)]
    have f2 : decide ((a.2 * v ≤ y ∧ y ≤ b.2 * v) ∧ if (1 : Int) = 0 then ((if b.1 < a.1 then b.1 else a.1) * u ≤ x ∧ x ≤ (if b.1 > a.1 then b.1 else a.1) * u) else sideI a b x u y v = 0) = onB (a, b) (x, u) (y, v) := by
      unfold onB
      refine decide_eq_decide.mpr ?_
      rw [if_neg (by decide)]
      unfold onP actC
      constructor
      · rintro ⟨⟨z1, z2⟩, z3⟩
        exact .inl ⟨by show a.2 ≠ b.2; omega, .inl ⟨r1.mp z1, s3.mp z2⟩, g2.mp z3⟩
      · rintro (⟨z1, z2, z3⟩ | ⟨z1, _⟩)
        · rcases z2 with ⟨z4, z5⟩ | ⟨z4, z5⟩
          · exact ⟨⟨r1.mpr z4, s3.mpr z5⟩, g2.mpr z3⟩
          · have z4 : (b.2 : Rat) ≤ val (y, v) := z4
            have z5 : val (y, v) ≤ (a.2 : Rat) := z5
            grind
        · exact absurd z1 (by show ¬ a.2 = b.2; omega)
    rw [f1, f2]
  · obtain ⟨u14, u15, e⟩ := go 0 a b ha hb (by
      have c2 : ¬ b.2 < a.2 := by omega
      have c3 : ¬ a.2 < b.2 := by omega
      simp [ePt, c2, c3]) (fun _ => ⟨rfl, rfl⟩) (fun h => absurd (by decide) h)
    refine ⟨.dat (.int 0), .dat (ePt a), .dat (ePt b), u14, u15, ?_⟩
    rw [e]
    have f1 : (if (a.2 * v ≤ y ∧ y < b.2 * v) ∧ 0 < sideI a b x u y v then (0 : Int) else 0) = ctb (a, b) (val (x, u)) (val (y, v)) := by
      unfold ctb
      rw [if_neg (show ¬ (a, b).1.2 < (a, b).2.2 by show ¬ a.2 < b.2; omega), if_neg (show ¬ (a, b).2.2 < (a, b).1.2 by show ¬ b.2 < a.2; omega)]
      split <;> rfl
    have f2 : decide ((a.2 * v ≤ y ∧ y ≤ b.2 * v) ∧ if (0 : Int) = 0 then ((if b.1 < a.1 then b.1 else a.1) * u ≤ x ∧ x ≤ (if b.1 > a.1 then b.1 else a.1) * u) else sideI a b x u y v = 0) = onB (a, b) (x, u) (y, v) := by
      unfold onB
      refine decide_eq_decide.mpr ?_
      rw [if_pos rfl]
      unfold onP
      constructor
      · rintro ⟨⟨z1, z2⟩, z3⟩
        refine .inr ⟨c, ?_, z3⟩
        have q1 := r1.mp z1
        have q2 := s3.mp z2
        rw [← c] at q2
        exact Rat.le_antisymm q2 q1
      · rintro (⟨z1, _⟩ | ⟨_, z2, z3⟩)
        · exact absurd c z1
        · have z2 : val (y, v) = (a.2 : Rat) := z2
          refine ⟨⟨r1.mpr (by rw [z2]; exact Rat.le_refl), s3.mpr ?_⟩, z3⟩
          rw [← c, z2]
          exact Rat.le_refl
    rw [f1, f2]
  · obtain ⟨u14, u15, e⟩ := go (-1) b a hb ha (by
      have c2 : ¬ a.2 < b.2 := by omega
      simp [ePt, c, c2]) (fun h => absurd h (by decide)) (fun _ => ⟨rfl, rfl⟩)
    obtain ⟨g1, g2⟩ := side_rat c (x := x) (y := y) hu hv
    have cr := clt.mpr c
    rw [show xAt (b, a) (val (y, v)) = xAt (a, b) (val (y, v)) from xAt_flip (l := (a, b)) (by show a.2 ≠ b.2; omega) _] at g1 g2
    refine ⟨.dat (.int (-1)), .dat (ePt b), .dat (ePt a), u14, u15, ?_⟩
    rw [e]
    have f1 : (if (b.2 * v ≤ y ∧ y < a.2 * v) ∧ 0 < sideI b a x u y v then (-1 : Int) else 0) = ctb (a, b) (val (x, u)) (val (y, v)) := by
      unfold ctb
      rw [if_neg (show ¬ (a, b).1.2 < (a, b).2.2 by show ¬ a.2 < b.2; omega), if_pos (show (a, b).2.2 < (a, b).1.2 from c)]
      by_cases d : (b.2 * v ≤ y ∧ y < a.2 * v) ∧ 0 < sideI b a x u y v
      · rw [if_pos d, if_pos ⟨s1.mp d.1.1, r2.mp d.1.2, g1.mp d.2⟩]
      · rw [if_neg d, if_neg (fun z => d ⟨⟨s1.mpr z.1, r2.mpr z.2.1⟩, g1.mpr z.2.2⟩)]
    have f2 : decide ((b.2 * v ≤ y ∧ y ≤ a.2 * v) ∧ if (-1 : Int) = 0 then ((if b.1 < a.1 then b.1 else a.1) * u ≤ x ∧ x ≤ (if b.1 > a.1 then b.1 else a.1) * u) else sideI b a x u y v = 0) = onB (a, b) (x, u) (y, v) := by
      unfold onB
      refine decide_eq_decide.mpr ?_
      rw [if_neg (by decide)]
      unfold onP actC
      constructor
      · rintro ⟨⟨z1, z2⟩, z3⟩
        exact .inl ⟨by show a.2 ≠ b.2; omega, .inr ⟨s1.mp z1, r3.mp z2⟩, g2.mp z3⟩
      · rintro (⟨z1, z2, z3⟩ | ⟨z1, _⟩)
        · rcases z2 with ⟨z4, z5⟩ | ⟨z4, z5⟩
          · have z4 : (a.2 : Rat) ≤ val (y, v) := z4
            have z5 : val (y, v) ≤ (b.2 : Rat) := z5
            grind
          · exact ⟨⟨s1.mpr z4, r3.mpr z5⟩, g2.mpr z3⟩
        · exact absurd z1 (by show ¬ a.2 = b.2; omega)
    rw [f1, f2]
/-- what the law tells of a point -/
theorem filled_eq {o : List Way} (hb : ∀ w ∈ o, w.bn 1000 ∧ w.st.length ≤ 100) (hf : o.length ≤ 10) (so : (pcs o).any (fun p => !p.isLn) = false) {X Y : Pt} (hx : 0 < X.2) (hy : 0 < Y.2) (bX : X.1.natAbs ≤ 10 ^ 100 ∧ X.2.natAbs ≤ 10 ^ 100) (bY : Y.1.natAbs ≤ 10 ^ 100 ∧ Y.2.natAbs ≤ 10 ^ 100) (r : Rule) :
    s_law_filled [eOut o, .tup [ePt X, ePt Y], eRule r] = .ok (.dat (.tup [.bl (r.fills (wF (segs o) (val X) (val Y))), .bl ((segs o).any fun l => onB l X Y)])) := by
  have lp := law_pieces_eq o (by omega) (fun w hw => by have := (hb w hw).2; omega)
  have pb : ∀ q ∈ pcs o, q.bn 1000 := pcs_bn fun w hw => (hb w hw).1
  obtain ⟨x, u⟩ := X
  obtain ⟨y, v⟩ := Y
  have ep : (pcs o).map ePc = (segs o).map eSeg := by
    unfold segs
    rw [List.map_map]
    refine List.map_congr_left fun q hq => ?_
    have := List.any_eq_false.mp so q hq
    exact seg_eq (by simpa using this)
  have sb : ∀ l ∈ segs o, Pt.bn 1000 l.1 ∧ Pt.bn 1000 l.2 := fun l hl => by
    obtain ⟨q, hq, rfl⟩ := List.mem_map.mp hl
    have := pb q hq
    cases q with
    | ln a b => exact this
    | bd a b c => exact ⟨this.1, this.2.2⟩
  rw [ep] at lp
  obtain ⟨ρ', e1, u9, u10, u11, u12, u13, u14, u15, rfl⟩ := for_map (g := gTp (Gy.gCons (gNm 9) (Gy.gCons (gNm 10) gNil))) (s := b_law_filled_1) eSeg (fun (z : Int × Bool) ρ => ∃ u9 u10 u11 u12 u13 u14 u15, ρ = [.dat (eOut o), .dat (.tup [ePt (x, u), ePt (y, v)]), .dat (eRule r), .dat (.int x), .dat (.int u), .dat (.int y), .dat (.int v), .dat (.int z.1), .dat (.bl z.2), u9, u10, u11, u12, u13, u14, u15]) (fun z l => (z.1 + ctb l (val (x, u)) (val (y, v)), z.2 || onB l (x, u) (y, v))) (segs o) (0, false)
    [.dat (eOut o), .dat (.tup [ePt (x, u), ePt (y, v)]), .dat (eRule r), .dat (.int x), .dat (.int u), .dat (.int y), .dat (.int v), .dat (.int 0), .dat (.bl false), .no, .no, .no, .no, .no, .no, .no] ⟨_, _, _, _, _, _, _, rfl⟩ (by
    rintro ⟨z1, z2⟩ ρ l hl ⟨u9, u10, u11, u12, u13, u14, u15, rfl⟩
    obtain ⟨h1, h2⟩ := sb l hl
    obtain ⟨w11, w12, w13, w14, w15, e⟩ := fill_in (.dat (eOut o)) (.dat (.tup [ePt (x, u), ePt (y, v)])) (.dat (eRule r)) hx hy bX.1 bX.2 bY.1 bY.2 h1 h2 z1 z2 u11 u12 u13 u14 u15
    exact ⟨_, _, rfl, e, _, _, _, _, _, _, _, rfl⟩)
  have fold : ∀ (ls : List Seg) (z : Int × Bool), ls.foldl (fun z l => (z.1 + ctb l (val (x, u)) (val (y, v)), z.2 || onB l (x, u) (y, v))) z = (z.1 + wF ls (val (x, u)) (val (y, v)), z.2 || ls.any fun l => onB l (x, u) (y, v)) := fun ls => by
    induction ls with
    | nil =>
      intro z
      unfold wF
      simp
    | cons l ls ih =>
      intro z
      rw [List.foldl_cons, ih, List.any_cons]
      unfold wF
      rw [List.map_cons, List.sum_cons, Int.add_assoc, Bool.or_assoc]
  rw [fold] at e1
  dsimp only at e1
  rw [Int.zero_add, Bool.false_or] at e1
  unfold s_law_filled x_law_filled
  refine run_rt ?_
  have k0 : ([eOut o, .tup [ePt (x, u), ePt (y, v)], eRule r].map Sl.dat ++ List.replicate (16 - [eOut o, D.tup [ePt (x, u), ePt (y, v)], eRule r].length) Sl.no) = [.dat (eOut o), .dat (.tup [ePt (x, u), ePt (y, v)]), .dat (eRule r), .no, .no, .no, .no, .no, .no, .no, .no, .no, .no, .no, .no, .no] := rfl
  rw [k0]
  refine (go_nx (ρ' := [.dat (eOut o), .dat (.tup [ePt (x, u), ePt (y, v)]), .dat (eRule r), .dat (.int x), .dat (.int u), .dat (.int y), .dat (.int v), .no, .no, .no, .no, .no, .no, .no, .no, .no]) (by simp [ePt])).trans ?_
  generalize D.tup [ePt (x, u), ePt (y, v)] = PP at *
  generalize wF (segs o) (val (x, u)) (val (y, v)) = WW at *
  generalize ((segs o).any fun l => onB l (x, u) (y, v)) = OO at *
  generalize (segs o).map eSeg = SS at *
  generalize eOut o = O at *
  refine (go_nx (ρ' := [.dat O, .dat PP, .dat (eRule r), .dat (.int x), .dat (.int u), .dat (.int y), .dat (.int v), .dat (.int 0), .no, .no, .no, .no, .no, .no, .no, .no]) (by simp)).trans ?_
  refine (go_nx (ρ' := [.dat O, .dat PP, .dat (eRule r), .dat (.int x), .dat (.int u), .dat (.int y), .dat (.int v), .dat (.int 0), .dat (.bl false), .no, .no, .no, .no, .no, .no, .no]) (by simp)).trans ?_
  refine (go_nx (by simp [lp]; exact e1)).trans ?_
  cases r <;> simp [eRule, Rule.fills]
/-! ### fractions -/
theorem whole_eq (n : Int) : s_law_whole [.int n] = .ok (.dat (.bl true)) := by
  unfold s_law_whole runF x_law_whole
  simp
theorem fr_eq {f : Pt} (h : 0 < f.2) (hg : Int.gcd f.1 f.2 = 1) : s_law_fraction [ePt f] = .ok (.dat (.bl true)) := by
  unfold s_law_fraction runF x_law_fraction
  obtain ⟨a, b⟩ := f
  obtain ⟨n, e⟩ := gcd_loop (.dat (ePt (a, b))) b.natAbs a.natAbs
  have e : whRun (tB (xBin dGt (xLook 2) (xC (.int 0)))) b_law_fraction_1 n _ = _ := e
  have e := wh_of e (by simp)
  have h : 0 < b := h
  have ea : (a.natAbs : Int) = if a < 0 then -a else a := by split <;> omega
  have eb : (b.natAbs : Int) = b := by omega
  rw [ea, eb] at e
  have g0 : Nat.gcd a.natAbs b.natAbs = 1 := hg
  rw [g0] at e
  have w1 := whole_eq a
  have w2 := whole_eq b
  simp [ePt] at e
  simp [ePt, e, w1, w2, h]
/-! ### the same told otherwise -/
theorem fills_neg (r : Rule) (n : Int) : r.fills (-n) = r.fills n := by
  cases r
  · show decide (-n ≠ 0) = decide (n ≠ 0)
    exact decide_eq_decide.mpr (by omega)
  · show decide (-n % 2 = 1) = decide (n % 2 = 1)
    exact decide_eq_decide.mpr (by omega)
theorem ctb_flip (l : Seg) (X Y : Rat) : ctb (l.2, l.1) X Y = -ctb l X Y := by
  by_cases n : l.1.2 = l.2.2
  · rw [ctb_no (flat_no n Y), ctb_no (flat_no (l := (l.2, l.1)) n.symm Y)]
    rfl
  · have e := xAt_flip n Y
    unfold ctb
    rw [e]
    by_cases u : l.1.2 < l.2.2
    · rw [if_neg (show ¬ (l.2, l.1).1.2 < (l.2, l.1).2.2 by show ¬ l.2.2 < l.1.2; omega), if_pos (show (l.2, l.1).2.2 < (l.2, l.1).1.2 from u), if_pos u]
      show (if (l.1.2 : Rat) ≤ Y ∧ Y < (l.2.2 : Rat) ∧ X < xAt l Y then (-1 : Int) else 0) = -(if (l.1.2 : Rat) ≤ Y ∧ Y < (l.2.2 : Rat) ∧ X < xAt l Y then 1 else 0)
      split <;> rfl
    · have u' : l.2.2 < l.1.2 := by omega
      rw [if_pos (show (l.2, l.1).1.2 < (l.2, l.1).2.2 from u'), if_neg u, if_pos u']
      show (if (l.2.2 : Rat) ≤ Y ∧ Y < (l.1.2 : Rat) ∧ X < xAt l Y then (1 : Int) else 0) = -(if (l.2.2 : Rat) ≤ Y ∧ Y < (l.1.2 : Rat) ∧ X < xAt l Y then -1 else 0)
      split <;> rfl
theorem wF_app (a b : List Seg) (X Y : Rat) : wF (a ++ b) X Y = wF a X Y + wF b X Y := by
  unfold wF
  rw [List.map_append, List.sum_append]
theorem wF_cons (l : Seg) (b : List Seg) (X Y : Rat) : wF (l :: b) X Y = ctb l X Y + wF b X Y := rfl
theorem wF_flip (X Y : Rat) : ∀ ps : List Pc, wF (((ps.map Pc.flip).reverse).map Pc.seg) X Y = -wF (ps.map Pc.seg) X Y
  | [] => rfl
  | q :: r => by
    have e : q.flip.seg = (q.seg.2, q.seg.1) := by cases q <;> rfl
    rw [List.map_cons, List.reverse_cons, List.map_append, wF_app, wF_flip X Y r, List.map_cons, List.map_nil, wF_cons, e, ctb_flip, List.map_cons, wF_cons]
    show -wF (r.map Pc.seg) X Y + (-ctb q.seg X Y + 0) = _
    omega
theorem wF_turned (X Y : Rat) : ∀ o : List Way, wF (segs (o.map Way.turned)) X Y = -wF (segs o) X Y
  | [] => rfl
  | w :: r => by
    rw [List.map_cons, segs_cons, segs_cons, wF_app, wF_app, turned_pcs, wF_flip, wF_turned X Y r]
    omega
/-- a line as two, parted at its middle -/
theorem xAt_half {e g m : Pt} (n : e.2 ≠ g.2) (h1 : 2 * m.1 = e.1 + g.1) (h2 : 2 * m.2 = e.2 + g.2) (h : Rat) : xAt (e, m) h = xAt (e, g) h := by
  have nm : e.2 ≠ m.2 := by omega
  have d1 := dif_ne (l := (e, g)) n
  have d2 := dif_ne (l := (e, m)) nm
  have q1 := tAt_mul (l := (e, g)) n h
  have q2 := tAt_mul (l := (e, m)) nm h
  have r1 : 2 * (m.1 : Rat) = (e.1 : Rat) + g.1 := by
    have : ((2 * m.1 : Int) : Rat) = ((e.1 + g.1 : Int) : Rat) := by rw [h1]
    grind
  have r2 : 2 * (m.2 : Rat) = (e.2 : Rat) + g.2 := by
    have : ((2 * m.2 : Int) : Rat) = ((e.2 + g.2 : Int) : Rat) := by rw [h2]
    grind
  rw [xAt_t, xAt_t]
  generalize tAt (e, g) h = S at *
  generalize tAt (e, m) h = T at *
  dsimp only at *
  have z : (T - 2 * S) * ((m.2 : Rat) - e.2) = 0 := by grind
  rcases Rat.mul_eq_zero.mp z with z | z
  · have : T = 2 * S := by grind
    rw [this]
    grind
  · exact absurd z d2
theorem ctb_half {e g m : Pt} (h1 : 2 * m.1 = e.1 + g.1) (h2 : 2 * m.2 = e.2 + g.2) (X Y : Rat) : ctb (e, g) X Y = ctb (e, m) X Y + ctb (m, g) X Y := by
  by_cases n : e.2 = g.2
  · rw [ctb_no (flat_no (l := (e, g)) n Y), ctb_no (flat_no (l := (e, m)) (by show e.2 = m.2; omega) Y), ctb_no (flat_no (l := (m, g)) (by show m.2 = g.2; omega) Y)]
    rfl
  · have x1 := xAt_half n h1 h2 Y
    have x2 : xAt (m, g) Y = xAt (e, g) Y := by
      rw [← xAt_flip (l := (m, g)) (by show m.2 ≠ g.2; omega), ← xAt_flip (l := (e, g)) n]
      exact xAt_half (e := g) (g := e) (m := m) (fun z => n z.symm) (by omega) (by omega) Y
    unfold ctb
    rw [x1, x2]
    dsimp only
    generalize xAt (e, g) Y = V
    by_cases c : e.2 < g.2
    · have c1 : e.2 < m.2 := by omega
      have c2 : m.2 < g.2 := by omega
      have k1 := clt.mpr c1
      have k2 := clt.mpr c2
      rw [if_pos c, if_pos c1, if_pos c2]
      by_cases a : (e.2 : Rat) ≤ Y ∧ Y < (g.2 : Rat) ∧ X < V
      · rw [if_pos a]
        by_cases b : Y < (m.2 : Rat)
        · rw [if_pos ⟨a.1, b, a.2.2⟩, if_neg (fun z => by grind)]
          rfl
        · rw [if_neg (fun z => b z.2.1), if_pos ⟨by grind, a.2.1, a.2.2⟩]
          rfl
      · rw [if_neg a, if_neg (fun z => a ⟨z.1, by grind, z.2.2⟩), if_neg (fun z => a ⟨by grind, z.2.1, z.2.2⟩)]
        rfl
    · have c0 : g.2 < e.2 := by omega
      have c1 : m.2 < e.2 := by omega
      have c2 : g.2 < m.2 := by omega
      have k1 := clt.mpr c1
      have k2 := clt.mpr c2
      rw [if_neg c, if_pos c0, if_neg (show ¬ e.2 < m.2 by omega), if_pos c1, if_neg (show ¬ m.2 < g.2 by omega), if_pos c2]
      by_cases a : (g.2 : Rat) ≤ Y ∧ Y < (e.2 : Rat) ∧ X < V
      · rw [if_pos a]
        by_cases b : Y < (m.2 : Rat)
        · rw [if_neg (fun z => by grind), if_pos ⟨a.1, b, a.2.2⟩]
          rfl
        · rw [if_pos ⟨by grind, a.2.1, a.2.2⟩, if_neg (fun z => b z.2.1)]
          rfl
      · rw [if_neg a, if_neg (fun z => a ⟨by grind, z.2.1, z.2.2⟩), if_neg (fun z => a ⟨z.1, by grind, z.2.2⟩)]
        rfl
/-- a way with its j-th line as two -/
def Way.cut (w : Way) (j : Nat) (mx my : Int) : Way := ⟨w.x, w.y, w.st.take j ++ .to mx my :: w.st.drop j⟩
theorem lines_app : ∀ (h : Pt) (st su : List Stp), linesFrom h (st ++ su) = linesFrom h st ++ linesFrom (endFrom h st) su
  | _, [], _ => rfl
  | h, s :: r, su => by rw [List.cons_append, linesFrom, linesFrom, endFrom, lines_app s.fin r su, List.cons_append]
theorem end_app : ∀ (h : Pt) (st su : List Stp), endFrom h (st ++ su) = endFrom (endFrom h st) su
  | _, [], _ => rfl
  | h, s :: r, su => by rw [List.cons_append, endFrom, endFrom, end_app s.fin r su]
theorem wF_cut (w : Way) (j : Nat) (hj : j < w.st.length) (hs : ∃ gx gy, w.st[j] = .to gx gy) {mx my : Int} (h1 : 2 * mx = (endFrom w.at (w.st.take j)).1 + (w.st[j]).fin.1) (h2 : 2 * my = (endFrom w.at (w.st.take j)).2 + (w.st[j]).fin.2) (X Y : Rat) :
    wF ((Way.cut w j mx my).pcs.map Pc.seg) X Y = wF (w.pcs.map Pc.seg) X Y := by
  obtain ⟨gx, gy, hg⟩ := hs
  have ed : w.st.drop j = .to gx gy :: w.st.drop (j + 1) := by rw [List.drop_eq_getElem_cons hj, hg]
  rw [hg] at h1 h2
  have est : w.st = w.st.take j ++ .to gx gy :: w.st.drop (j + 1) := by rw [← ed, List.take_append_drop]
  have e1 : endFrom w.at w.st = endFrom (gx, gy) (w.st.drop (j + 1)) := by
    conv => lhs; rw [est]
    rw [end_app]
    rfl
  have e2 : endFrom (Way.cut w j mx my).at (Way.cut w j mx my).st = endFrom (gx, gy) (w.st.drop (j + 1)) := by
    show endFrom w.at (w.st.take j ++ .to mx my :: w.st.drop j) = _
    rw [end_app, ed]
    rfl
  have l1 : linesFrom w.at w.st = linesFrom w.at (w.st.take j) ++ Pc.ln (endFrom w.at (w.st.take j)) (gx, gy) :: linesFrom (gx, gy) (w.st.drop (j + 1)) := by
    conv => lhs; rw [est]
    rw [lines_app]
    rfl
  have l2 : linesFrom (Way.cut w j mx my).at (Way.cut w j mx my).st = linesFrom w.at (w.st.take j) ++ Pc.ln (endFrom w.at (w.st.take j)) (mx, my) :: Pc.ln (mx, my) (gx, gy) :: linesFrom (gx, gy) (w.st.drop (j + 1)) := by
    show linesFrom w.at (w.st.take j ++ .to mx my :: w.st.drop j) = _
    rw [lines_app, ed]
    rfl
  unfold Way.pcs
  rw [l1, l2, e1, e2]
  have at' : (Way.cut w j mx my).at = w.at := rfl
  rw [at']
  have ch := ctb_half (e := endFrom w.at (w.st.take j)) (g := (gx, gy)) (m := (mx, my)) h1 h2 X Y
  simp only [List.map_append, List.map_cons, wF_app, wF_cons]
  have s1 : (Pc.ln (endFrom w.at (w.st.take j)) (gx, gy)).seg = (endFrom w.at (w.st.take j), (gx, gy)) := rfl
  have s2 : (Pc.ln (endFrom w.at (w.st.take j)) (mx, my)).seg = (endFrom w.at (w.st.take j), (mx, my)) := rfl
  have s3 : (Pc.ln (mx, my) (gx, gy)).seg = ((mx, my), (gx, gy)) := rfl
  rw [s1, s2, s3, ch]
  omega
/-! ### the law's parted ways -/
theorem end_take : ∀ (st : List Stp) (h : Pt) (j : Nat) (hj : j < st.length), endFrom h (st.take (j + 1)) = (st[j]).fin
  | s :: r, h, 0, _ => rfl
  | s :: r, h, j + 1, hj => by
    rw [List.take_succ_cons, endFrom, end_take r s.fin j (by simpa using hj)]
    rfl
theorem item_cut (x y : Int) (st : List Stp) (j : Nat) (hj : j ≤ st.length) : ∃ L, getAt (eAt x y :: st.map eStp) (j : Int) = some (.tup L) ∧ cutAt L (some (-2)) none = [.int (endFrom (x, y) (st.take j)).1, .int (endFrom (x, y) (st.take j)).2] := by
  cases j with
  | zero => exact ⟨[.str w_6174, .int x, .int y], by simp [eAt], by rw [cut_m23]; rfl⟩
  | succ j =>
    have hj : j < st.length := by omega
    have g : getAt (eAt x y :: st.map eStp) ((j + 1 : Nat) : Int) = some (eStp st[j]) := by
      rw [getAt_ix (by simpa using hj)]
      simp
    rw [end_take st (x, y) j hj, g]
    cases st[j] with
    | to u v => exact ⟨_, rfl, by rw [cut_m23]; rfl⟩
    | «by» a b u v => exact ⟨_, rfl, by rw [cut_m25]; rfl⟩
theorem getAt_last {α : Type} (xs : List α) (h : 0 < xs.length) : getAt xs (-1) = getAt xs ((xs.length - 1 : Nat) : Int) := by
  rw [getAt_ix (by omega)]
  unfold getAt ixAt
  have h1 : ¬ (0 : Int) ≤ -1 := by omega
  have h2 : -((xs.length : Nat) : Int) ≤ -1 := by omega
  rw [if_neg h1, if_pos h2]
  show xs[((-1 : Int) + (xs.length : Nat)).toNat]? = _
  have e : ((-1 : Int) + (xs.length : Nat)).toNat = xs.length - 1 := by omega
  rw [e, List.getElem?_eq_getElem]
theorem cut_from {α : Type} (xs : List α) (j : Nat) (h : j ≤ xs.length) : cutAt xs (some (j : Int)) none = xs.drop j := by
  unfold cutAt clipAt
  have e : (min (j : Int) ((xs.length : Nat) : Int)).toNat = j := by omega
  simp only [show ¬ (j : Int) < 0 by omega, if_false]
  rw [e]
  exact List.take_of_length_le (by simp)
theorem cut_upto {α : Type} (xs : List α) (j : Nat) (h : j ≤ xs.length) : cutAt xs none (some (j : Int)) = xs.take j := by
  unfold cutAt clipAt
  have e : (min (j : Int) ((xs.length : Nat) : Int)).toNat = j := by omega
  simp only [show ¬ (j : Int) < 0 by omega, if_false]
  rw [e]
  simp
/-- what comes of a way -/
def PartOf (w v : Way) : Prop := v = w ∨ ∃ (j : Nat) (hj : j < w.st.length) (mx my : Int), 2 * mx = (endFrom w.at (w.st.take j)).1 + (w.st[j]).fin.1 ∧ 2 * my = (endFrom w.at (w.st.take j)).2 + (w.st[j]).fin.2 ∧ v = Way.cut w j mx my
theorem parted_eq (w : Way) (hl : w.st.length ≤ 100) (k : Int) : ∃ v, PartOf w v ∧ s_law_parted [eWay w, .int k] = .ok (.dat (eWay v)) := by
  have len : (eSteps w).length = w.st.length + 1 := by simp [eSteps]
  unfold s_law_parted x_law_parted
  have k0 : ([eWay w, .int k].map Sl.dat ++ List.replicate (5 - [eWay w, .int k].length) Sl.no) = [.dat (eWay w), .dat (.int k), .no, .no, .no] := rfl
  by_cases c : w.st.length = 0
  · refine ⟨w, .inl rfl, run_rt ?_⟩
    rw [k0]
    refine go_rt ?_
    have l : dLen (eWay w) = .ok (.int 1) := by
      unfold eWay
      rw [dLen_l, len, c]
      rfl
    generalize eWay w = W at *
    simp [l]
  · have hpos : 0 < w.st.length := by omega
    have i0 := Int.emod_nonneg k (show ((w.st.length : Nat) : Int) ≠ 0 by omega)
    have i1 := Int.emod_lt_of_pos k (show (0 : Int) < ((w.st.length : Nat) : Int) by omega)
    obtain ⟨j, hj⟩ : ∃ j : Nat, k % (w.st.length : Int) = j := ⟨(k % (w.st.length : Int)).toNat, by omega⟩
    have hjl : j < w.st.length := by omega
    obtain ⟨L1, g1, c1⟩ := item_cut w.x w.y w.st j (by omega)
    obtain ⟨L2, g2, c2⟩ := item_cut w.x w.y w.st (j + 1) (by omega)
    have et := end_take w.st (w.x, w.y) j hjl
    rw [et] at c2
    have l : dLen (eWay w) = .ok (.int ((w.st.length : Int) + 1)) := by
      unfold eWay
      rw [dLen_l, len]
      rfl
    have ee : (w.st.length : Int) + 1 - 1 = (w.st.length : Int) := by omega
    have dm := dMod_i (i := k) (j := (w.st.length : Int)) (by omega)
    rw [hj] at dm
    have ej : (1 : Int) + (j : Int) - 1 = (j : Int) := by omega
    have ej2 : ((j + 1 : Nat) : Int) = 1 + (j : Int) := by omega
    rw [ej2] at g2
    have nl : ¬ (w.st.length : Int) + 1 < 2 := by omega
    have d1 : dIx (eWay w) (.int (j : Int)) = .ok (.tup L1) := by
      unfold eWay eSteps
      rw [dIx_l, g1, ofS_some]
    have d2 : dIx (eWay w) (.int (1 + (j : Int))) = .ok (.tup L2) := by
      unfold eWay eSteps
      rw [dIx_l, g2, ofS_some]
    have at' : ((w.x, w.y) : Pt) = w.at := rfl
    rw [at'] at c1
    generalize hP : endFrom w.at (w.st.take j) = P at *
    generalize hQ : (w.st[j]).fin = Q at *
    have step : ∀ ρ2 : O, (sSeq (sIf (tOr (tB (xBin dEq (xBin dMod (xBin dAdd (xBin dIx (xLook 3) (xC (.int 0))) (xBin dIx (xLook 4) (xC (.int 0)))) (xC (.int 2))) (xC (.int 1)))) (tB (xBin dEq (xBin dMod (xBin dAdd (xBin dIx (xLook 3) (xC (.int 1))) (xBin dIx (xLook 4) (xC (.int 1)))) (xC (.int 2))) (xC (.int 1)))))
    (sRet (xVar 0))
    sNil)
    (sRet (xBin dAdd (xBin dAdd (xCut (xLook 0) xNoPart (xPart (xLook 2))) (xNew (xLst (xCons (xTup (xCons (xC (.str w_746f)) (xCons (xBin dDiv (xBin dAdd (xBin dIx (xLook 3) (xC (.int 0))) (xBin dIx (xLook 4) (xC (.int 0)))) (xC (.int 2))) (xCons (xBin dDiv (xBin dAdd (xBin dIx (xLook 3) (xC (.int 1))) (xBin dIx (xLook 4) (xC (.int 1)))) (xC (.int 2))) xNil)))) xNil)))) (xCut (xLook 0) (xPart (xLook 2)) xNoPart)))) [.dat (eWay w), .dat (.int k), .dat (.int (1 + (j : Int))), .dat (ePt P), .dat (ePt Q)] = ρ2 → x_law_parted [.dat (eWay w), .dat (.int k), .no, .no, .no] = ρ2 := fun ρ2 h => by
      refine Eq.trans ?_ h
      generalize eWay w = W at *
      refine (go_nx (ρ' := [.dat W, .dat (.int k), .no, .no, .no]) (by simp [l, nl])).trans ?_
      refine (go_nx (ρ' := [.dat W, .dat (.int k), .dat (.int (1 + (j : Int))), .no, .no]) (by simp [l, ee, dm])).trans ?_
      refine (go_nx (ρ' := [.dat W, .dat (.int k), .dat (.int (1 + (j : Int))), .dat (ePt P), .no]) (by simp [ej, d1, c1, ePt])).trans ?_
      exact go_nx (by simp [d2, c2, ePt])
    obtain ⟨p1, p2⟩ := P
    obtain ⟨q1, q2⟩ := Q
    by_cases odd : (p1 + q1) % 2 = 1 ∨ (p2 + q2) % 2 = 1
    · refine ⟨w, .inl rfl, run_rt ?_⟩
      rw [k0]
      refine step _ (go_rt ?_)
      generalize eWay w = W at *
      by_cases o1 : (p1 + q1) % 2 = 1
      · simp [ePt, o1]
      · simp [ePt, o1, odd.resolve_left o1]
    · have o1 : ¬ (p1 + q1) % 2 = 1 := fun z => odd (.inl z)
      have o2 : ¬ (p2 + q2) % 2 = 1 := fun z => odd (.inr z)
      refine ⟨Way.cut w j ((p1 + q1) / 2) ((p2 + q2) / 2), .inr ⟨j, hjl, (p1 + q1) / 2, (p2 + q2) / 2, by rw [hP, hQ]; show 2 * ((p1 + q1) / 2) = p1 + q1; omega, by rw [hP, hQ]; show 2 * ((p2 + q2) / 2) = p2 + q2; omega, rfl⟩, run_rt ?_⟩
      rw [k0]
      have cu := cut_upto (eSteps w) (1 + j) (by omega)
      have cf := cut_from (eSteps w) (1 + j) (by omega)
      have e3 : ((1 + j : Nat) : Int) = 1 + (j : Int) := by omega
      rw [e3] at cu cf
      have t1 : (eSteps w).take (1 + j) = eAt w.x w.y :: (w.st.take j).map eStp := by
        unfold eSteps
        rw [Nat.add_comm, List.take_succ_cons, List.map_take]
      have t2 : (eSteps w).drop (1 + j) = (w.st.drop j).map eStp := by
        unfold eSteps
        rw [Nat.add_comm, List.drop_succ_cons, List.map_drop]
      rw [t1] at cu
      rw [t2] at cf
      have fin : eWay (Way.cut w j ((p1 + q1) / 2) ((p2 + q2) / 2)) = .lst ((eAt w.x w.y :: (w.st.take j).map eStp) ++ [.tup [.str w_746f, .int ((p1 + q1) / 2), .int ((p2 + q2) / 2)]] ++ (w.st.drop j).map eStp) := by
        unfold eWay eSteps Way.cut
        simp [eStp, eAt]
      rw [fin]
      have lA : (eAt w.x w.y :: (w.st.take j).map eStp).length ≤ 101 := by simp; omega
      have lB : ((w.st.drop j).map eStp).length ≤ 100 := by simp; omega
      have hw : eWay w = .lst (eSteps w) := rfl
      refine step _ ?_
      rw [hw]
      generalize eAt w.x w.y :: (w.st.take j).map eStp = A at *
      generalize (w.st.drop j).map eStp = B at *
      generalize eSteps w = ES at *
      have a1 := dAdd_l (xs := A) (ys := [D.tup [.str w_746f, .int ((p1 + q1) / 2), .int ((p2 + q2) / 2)]]) ⟨by rw [List.length_singleton]; omega⟩
      have a2 := dAdd_l (xs := A ++ [D.tup [.str w_746f, .int ((p1 + q1) / 2), .int ((p2 + q2) / 2)]]) (ys := B) ⟨by rw [List.length_append, List.length_singleton]; omega⟩
      refine (go_nx (ρ' := [.dat (.lst ES), .dat (.int k), .dat (.int (1 + (j : Int))), .dat (ePt (p1, p2)), .dat (ePt (q1, q2))]) (by simp [ePt, o1, o2])).trans ?_
      simp only [List.append_assoc] at a2 ⊢
      simp [ePt, cu, cf, a1, a2]
/-! ### outlines that parting takes -/
structure Good (o : List Way) : Prop where
  bn : ∀ w ∈ o, w.bn 1000 ∧ w.st.length ≤ 20
  few : o.length ≤ 2
  to : ∀ w ∈ o, ∀ s ∈ w.st, ∃ x y, s = .to x y
  lines : ∀ w ∈ o, w.st.length ≤ 5
theorem Good.ok {o : List Way} (h : Good o) : OutOk o := ⟨by have := h.few; omega, fun w hw => way_ok (by decide) (h.bn w hw).1 (by have := (h.bn w hw).2; omega)⟩
theorem Good.st {o : List Way} (h : Good o) : (pcs o).any (fun p => !p.isLn) = false := straight_of o h.to
theorem Good.n {o : List Way} (h : Good o) : ¬ 20 < (linesv o).length := by
  have h2 := pcs_tot (n := 5) o h.lines
  have h3 := List.length_filter_le (fun l : Seg => decide (l.1.2 ≠ l.2.2)) ((pcs o).map Pc.seg)
  rw [List.length_map] at h3
  have := h.few
  unfold linesv
  omega
theorem strv_good (ns : List Int) (k most : Int) (h0 : 0 ≤ most) (h1 : most ≤ 12) : Good (strv ns k most) := by
  refine ⟨fun w hw => ?_, strv_len ns k most, fun w hw s hs => ?_, fun w hw => ?_⟩
  · obtain ⟨j, _, rfl⟩ := List.mem_map.mp hw
    have b := strw_bn ns k most j h0
    have l := strw_len ns k most j
    have hm : (max 5 most).toNat ≤ 1000 := by omega
    exact ⟨⟨⟨Nat.le_trans b.h.1 hm, Nat.le_trans b.h.2 hm⟩, fun s hs => bns_mono hm (b.st s hs)⟩, by omega⟩
  · obtain ⟨j, _, rfl⟩ := List.mem_map.mp hw
    obtain ⟨i, _, rfl⟩ := List.mem_map.mp hs
    exact ⟨_, _, rfl⟩
  · obtain ⟨j, _, rfl⟩ := List.mem_map.mp hw
    have l := strw_len ns k most j
    omega
theorem strv_small (ns : List Int) (k most : Int) (h0 : 0 ≤ most) (h1 : most ≤ 12) : ∀ w ∈ strv ns k most, w.bn 12 ∧ w.st.length ≤ 4 := fun w hw => by
  obtain ⟨j, _, rfl⟩ := List.mem_map.mp hw
  have b := strw_bn ns k most j h0
  have hm : (max 5 most).toNat ≤ 12 := by omega
  exact ⟨⟨⟨Nat.le_trans b.h.1 hm, Nat.le_trans b.h.2 hm⟩, fun s hs => bns_mono hm (b.st s hs)⟩, strw_len ns k most j⟩
theorem ln_to {p : Pc} (h : p.isLn = true) : ∃ x y, p.stp = .to x y := by
  cases p with
  | ln a b => exact ⟨_, _, rfl⟩
  | bd a b c => cases h
theorem turned_good {o : List Way} (h : Good o) (hl : ∀ w ∈ o, w.st.length ≤ 4) : Good (o.map Way.turned) := by
  refine ⟨fun w hw => ?_, by rw [List.length_map]; exact h.few, fun w hw s hs => ?_, fun w hw => ?_⟩
  · obtain ⟨v, hv, rfl⟩ := List.mem_map.mp hw
    have := turned_len v
    have := hl v hv
    exact ⟨bn_turned (h.bn v hv).1, by omega⟩
  · obtain ⟨v, hv, rfl⟩ := List.mem_map.mp hw
    have lns := to_ln v (h.to v hv)
    unfold Way.turned at hs
    split at hs
    · exact h.to v hv s hs
    · rename_i q r e
      obtain ⟨x, hx, rfl⟩ := List.mem_map.mp hs
      have hx' : x ∈ (v.pcs.map Pc.flip).reverse := by rw [e]; exact hx
      obtain ⟨y, hy, rfl⟩ := List.mem_map.mp (List.mem_reverse.mp hx')
      have := lns y hy
      refine ln_to ?_
      cases y with
      | ln a b => rfl
      | bd a b c => cases this
  · obtain ⟨v, hv, rfl⟩ := List.mem_map.mp hw
    have := turned_len v
    have := hl v hv
    omega
theorem part_good {w v : Way} (hb : w.bn 12) (hl : w.st.length ≤ 4) (ht : ∀ s ∈ w.st, ∃ x y, s = .to x y) (h : PartOf w v) : (v.bn 1000 ∧ v.st.length ≤ 20) ∧ (∀ s ∈ v.st, ∃ x y, s = .to x y) ∧ v.st.length ≤ 5 ∧ ∀ X Y, wF (v.pcs.map Pc.seg) X Y = wF (w.pcs.map Pc.seg) X Y := by
  have big : w.bn 1000 := ⟨⟨Nat.le_trans hb.h.1 (by decide), Nat.le_trans hb.h.2 (by decide)⟩, fun s hs => bns_mono (by decide) (hb.st s hs)⟩
  rcases h with rfl | ⟨j, hj, mx, my, h1, h2, rfl⟩
  · exact ⟨⟨big, by omega⟩, ht, by omega, fun _ _ => rfl⟩
  · have hw := ht w.st[j] (List.getElem_mem _)
    have be := (bn_lines hb.h (st := w.st.take j) fun s hs => hb.st s (List.mem_of_mem_take hs)).2
    have bf := bn_fin (hb.st w.st[j] (List.getElem_mem _))
    obtain ⟨be1, be2⟩ := be
    obtain ⟨bf1, bf2⟩ := bf
    have len : (Way.cut w j mx my).st.length = w.st.length + 1 := by
      show (w.st.take j ++ Stp.to mx my :: w.st.drop j).length = _
      simp
      omega
    refine ⟨⟨⟨big.h, fun s hs => ?_⟩, by omega⟩, fun s hs => ?_, by omega, fun X Y => wF_cut w j hj hw h1 h2 X Y⟩
    · rcases List.mem_append.mp hs with hs | hs
      · exact big.st s (List.mem_of_mem_take hs)
      · rcases List.mem_cons.mp hs with rfl | hs
        · exact ⟨by omega, by omega⟩
        · exact big.st s (List.mem_of_mem_drop hs)
    · rcases List.mem_append.mp hs with hs | hs
      · exact ht s (List.mem_of_mem_take hs)
      · rcases List.mem_cons.mp hs with rfl | hs
        · exact ⟨_, _, rfl⟩
        · exact ht s (List.mem_of_mem_drop hs)
inductive All2 (Rw : Way → Way → Prop) : List Way → List Way → Prop where
  | nil : All2 Rw [] []
  | cons {a b : Way} {as bs : List Way} : Rw a b → All2 Rw as bs → All2 Rw (a :: as) (b :: bs)
/-- each way by itself -/
theorem lc_ways {g : XG} {f : XE} {ρ : Rho} (Rw : Way → Way → Prop) : ∀ o : List Way, (∀ w ∈ o, ∃ v ρ', Rw w v ∧ g (eWay w) ρ = .ok ρ' ∧ f ρ' = .ok (eWay v)) → ∃ p : List Way, lcRun g tYes f ρ (o.map eWay) = .ok (p.map eWay) ∧ All2 Rw o p
  | [], _ => ⟨[], rfl, .nil⟩
  | w :: r, h => by
    obtain ⟨v, ρ', h1, h2, h3⟩ := h w List.mem_cons_self
    obtain ⟨p, e, hp⟩ := lc_ways Rw r fun x hx => h x (List.mem_cons_of_mem _ hx)
    refine ⟨v :: p, ?_, .cons h1 hp⟩
    rw [List.map_cons, lcRun_cons, h2, R.bind_ok, tYes_t, R.bind_ok, if_pos rfl, h3, R.bind_ok, e]
    rfl
theorem parts_good {o p : List Way} (h : All2 PartOf o p) (hs : ∀ w ∈ o, w.bn 12 ∧ w.st.length ≤ 4) (ht : ∀ w ∈ o, ∀ s ∈ w.st, ∃ x y, s = .to x y) :
    p.length = o.length ∧ (∀ v ∈ p, (v.bn 1000 ∧ v.st.length ≤ 20) ∧ (∀ s ∈ v.st, ∃ x y, s = .to x y) ∧ v.st.length ≤ 5) ∧ ∀ X Y, wF (segs p) X Y = wF (segs o) X Y := by
  induction h with
  | nil => exact ⟨rfl, fun v hv => (by cases hv), fun _ _ => rfl⟩
  | cons h1 h2 ih =>
    rename_i w v o p
    have hw := hs w List.mem_cons_self
    obtain ⟨g1, g2, g3, g4⟩ := part_good hw.1 hw.2 (ht w List.mem_cons_self) h1
    obtain ⟨i1, i2, i3⟩ := ih (fun x hx => hs x (List.mem_cons_of_mem _ hx)) (fun x hx => ht x (List.mem_cons_of_mem _ hx))
    refine ⟨by rw [List.length_cons, List.length_cons, i1], fun x hx => ?_, fun X Y => ?_⟩
    · rcases List.mem_cons.mp hx with rfl | hx
      · exact ⟨g1, g2, g3⟩
      · exact i2 x hx
    · rw [segs_cons, segs_cons, wF_app, wF_app, g4, i3]
/-! ### a corner moved -/
def mvS (d : Int) : Stp → Stp
  | .to x y => .to (x + d) y
  | .by x y u v => .by x y u v
def lastSt (d : Int) : List Stp → List Stp
  | [] => []
  | [s] => [mvS d s]
  | s :: t :: r => s :: lastSt d (t :: r)
def cornerW (d : Int) (w : Way) : Way := if w.st = [] then ⟨w.x + d, w.y, []⟩ else ⟨w.x, w.y, lastSt d w.st⟩
theorem last_len (d : Int) : ∀ st : List Stp, (lastSt d st).length = st.length
  | [] => rfl
  | [s] => rfl
  | s :: t :: r => by
    show (s :: lastSt d (t :: r)).length = _
    rw [List.length_cons, last_len d (t :: r)]
    rfl
theorem last_bn {d : Int} (hd : d.natAbs ≤ 1) : ∀ st : List Stp, (∀ s ∈ st, s.bn 12) → ∀ s ∈ lastSt d st, s.bn 1000
  | [], _, s, hs => by cases hs
  | [a], h, s, hs => by
    have : s = mvS d a := by simpa [lastSt] using hs
    subst this
    have b := h a List.mem_cons_self
    cases a with
    | to x y =>
      have b1 : x.natAbs ≤ 12 := b.1
      have b2 : y.natAbs ≤ 12 := b.2
      exact ⟨by omega, by omega⟩
    | «by» x y u v => exact bns_mono (by decide) b
  | a :: t :: r, h, s, hs => by
    have hs : s ∈ a :: lastSt d (t :: r) := hs
    rcases List.mem_cons.mp hs with rfl | hs
    · exact bns_mono (by decide) (h _ List.mem_cons_self)
    · exact last_bn hd (t :: r) (fun x hx => h x (List.mem_cons_of_mem _ hx)) s hs
theorem last_to (d : Int) : ∀ st : List Stp, (∀ s ∈ st, ∃ x y, s = .to x y) → ∀ s ∈ lastSt d st, ∃ x y, s = .to x y
  | [], _, s, hs => by cases hs
  | [a], h, s, hs => by
    have : s = mvS d a := by simpa [lastSt] using hs
    subst this
    obtain ⟨x, y, rfl⟩ := h a List.mem_cons_self
    exact ⟨_, _, rfl⟩
  | a :: t :: r, h, s, hs => by
    have hs : s ∈ a :: lastSt d (t :: r) := hs
    rcases List.mem_cons.mp hs with rfl | hs
    · exact h _ List.mem_cons_self
    · exact last_to d (t :: r) (fun x hx => h x (List.mem_cons_of_mem _ hx)) s hs
theorem corner_good {w : Way} {r : List Way} (d : Int) (hd : d.natAbs ≤ 1) (h : Good (w :: r)) (hs : ∀ v ∈ w :: r, v.bn 12 ∧ v.st.length ≤ 4) : Good (cornerW d w :: r) := by
  have hw := hs w List.mem_cons_self
  have key : ((cornerW d w).bn 1000 ∧ (cornerW d w).st.length ≤ 20) ∧ (∀ s ∈ (cornerW d w).st, ∃ x y, s = .to x y) ∧ (cornerW d w).st.length ≤ 5 := by
    have b0 := hw.1.h
    have b1 : w.x.natAbs ≤ 12 := b0.1
    have b2 : w.y.natAbs ≤ 12 := b0.2
    unfold cornerW
    split
    · exact ⟨⟨⟨⟨by show (w.x + d).natAbs ≤ _; omega, by show w.y.natAbs ≤ _; omega⟩, fun s hs => (by cases hs)⟩, Nat.zero_le _⟩, fun s hs => (by cases hs), Nat.zero_le _⟩
    · have ll := last_len d w.st
      refine ⟨⟨⟨⟨by show w.x.natAbs ≤ _; omega, by show w.y.natAbs ≤ _; omega⟩, fun s hs => last_bn hd w.st hw.1.st s hs⟩, ?_⟩, fun s hs => last_to d w.st (h.to w List.mem_cons_self) s hs, ?_⟩
      · show (lastSt d w.st).length ≤ 20
        omega
      · show (lastSt d w.st).length ≤ 5
        omega
  refine ⟨fun v hv => ?_, h.few, fun v hv => ?_, fun v hv => ?_⟩
  · rcases List.mem_cons.mp hv with rfl | hv
    · exact key.1
    · exact h.bn v (List.mem_cons_of_mem _ hv)
  · rcases List.mem_cons.mp hv with rfl | hv
    · exact key.2.1
    · exact h.to v (List.mem_cons_of_mem _ hv)
  · rcases List.mem_cons.mp hv with rfl | hv
    · exact key.2.2
    · exact h.lines v (List.mem_cons_of_mem _ hv)
/-- the last step of a way, and the row with its last step moved -/
theorem corner_row (d : Int) (w : Way) (ht : ∀ s ∈ w.st, ∃ x y, s = .to x y) : ∃ (c : Str) (x y : Int), getAt (eSteps w) (-1) = some (.tup [.str c, .int x, .int y]) ∧ ixAt (eSteps w).length (-1) = some w.st.length ∧ (eSteps w).set w.st.length (.tup [.str c, .int (x + d), .int y]) = eSteps (cornerW d w) := by
  have len : (eSteps w).length = w.st.length + 1 := by simp [eSteps]
  have ix : ixAt (eSteps w).length (-1) = some w.st.length := by
    rw [len]
    unfold ixAt
    rw [if_neg (by omega), if_pos (by omega)]
    congr 1
    omega
  have gl : getAt (eSteps w) (-1) = (eSteps w)[w.st.length]? := by
    unfold getAt
    rw [ix]
    rfl
  by_cases c : w.st = []
  · refine ⟨w_6174, w.x, w.y, ?_, ix, ?_⟩
    · rw [gl, c]
      simp [eSteps, eAt]
    · unfold cornerW
      rw [if_pos c, c]
      simp [eSteps, eAt, c]
  · obtain ⟨s, hs⟩ : ∃ s, w.st.getLast? = some s := by
      cases h : w.st.getLast? with
      | none => exact absurd (List.getLast?_eq_none_iff.mp h) c
      | some s => exact ⟨s, rfl⟩
    obtain ⟨x, y, rfl⟩ := ht s (List.mem_of_getLast? hs)
    refine ⟨w_746f, x, y, ?_, ix, ?_⟩
    · rw [gl]
      have : w.st.length = (w.st.length - 1) + 1 := by have := List.length_pos_iff.mpr c; omega
      rw [this]
      show (w.st.map eStp)[w.st.length - 1]? = _
      rw [List.getElem?_map, ← List.getLast?_eq_getElem?, hs]
      rfl
    · unfold cornerW
      rw [if_neg c]
      have key : ∀ st : List Stp, st.getLast? = some (.to x y) → (st.map eStp).set (st.length - 1) (.tup [.str w_746f, .int (x + d), .int y]) = (lastSt d st).map eStp := fun st => by
        induction st with
        | nil => intro h; cases h
        | cons a r ih =>
          intro h
          cases r with
          | nil =>
            have : a = .to x y := by simpa using h
            subst this
            rfl
          | cons b r =>
            have h' : (b :: r).getLast? = some (.to x y) := by simpa using h
            have := ih h'
            show eStp a :: ((b :: r).map eStp).set r.length _ = eStp a :: (lastSt d (b :: r)).map eStp
            rw [← this]
            rfl
      have hp : w.st.length = (w.st.length - 1) + 1 := by have := List.length_pos_iff.mpr c; omega
      show (eAt w.x w.y :: w.st.map eStp).set w.st.length _ = eAt w.x w.y :: (lastSt d w.st).map eStp
      rw [hp, List.set_cons_succ, key w.st hs]
/-! ### the law -/
theorem if_y {c : XT} {s t : XS} {ρ : Rho} (h : c ρ = .ok true) : sIf c s t ρ = s ρ := by
  show (c ρ).thn ρ _ = _
  rw [h]
  rfl
theorem if_n {c : XT} {s t : XS} {ρ : Rho} (h : c ρ = .ok false) : sIf c s t ρ = t ρ := by
  show (c ρ).thn ρ _ = _
  rw [h]
  rfl
theorem pick_rule (m : Int) : ∃ r : Rule, getAt [D.str w_616e79, .str w_6f6464] (m % 2) = some (eRule r) := by
  have q : m % 2 = 0 ∨ m % 2 = 1 := by omega
  rcases q with q | q <;> rw [q]
  · exact ⟨.any, rfl⟩
  · exact ⟨.odd, rfl⟩
theorem pick_most (m : Int) : ∃ most : Int, getAt [D.int 4, .int 12] (m % 2) = some (.int most) ∧ 0 < most ∧ most ≤ 12 := by
  have q : m % 2 = 0 ∨ m % 2 = 1 := by omega
  rcases q with q | q <;> rw [q]
  · exact ⟨4, rfl, by decide, by decide⟩
  · exact ⟨12, rfl, by decide, by decide⟩
theorem list_lc (o : List Way) (ρ : Rho) (hρ : ρ.length = 17) : lcRun (gNm 15) tYes (xNew (xFunN bList (xCons (xLook 15) xNil))) ρ (o.map eWay) = .ok (o.map eWay) := by
  rw [lc_map eWay eWay]
  intro w hw
  exact ⟨_, rfl, by simp [hρ, blist_way]; rfl⟩
theorem row_lc2 : ∀ (o : List Way) (ρ : Rho), ρ.length = 17 → lcRun2 (gNm 15) tYes (xFunN bList (xCons (xLook 15) xNil)) ρ (o.map eWay) = .ok (o.map eSteps)
  | [], _, _ => rfl
  | w :: r, ρ, h => by
    have e : (xFunN bList (xCons (xLook 15) xNil)) (ρ.set 15 (.dat (eWay w))) = .ok (eSteps w) := by simp [h, blist_way]
    show ((gNm 15 (eWay w) ρ).bind fun ρ' => (tYes ρ').bind fun k => if k = true then ((xFunN bList (xCons (xLook 15) xNil)) ρ').bind fun y => (lcRun2 (gNm 15) tYes (xFunN bList (xCons (xLook 15) xNil)) ρ (r.map eWay)).bind fun r => .ok (y :: r) else lcRun2 (gNm 15) tYes (xFunN bList (xCons (xLook 15) xNil)) ρ (r.map eWay)) = _
    rw [row_lc2 r ρ h]
    show ((xFunN bList (xCons (xLook 15) xNil)) (ρ.set 15 (.dat (eWay w)))).bind _ = _
    rw [e]
    rfl
/-- the second outline: what is drawn of it -/
structure Second (o p : List Way) (way : Int) (r : Rule) : Prop where
  good : Good p
  same : way = 1 ∨ way = 2 → ∀ X Y, r.fills (wF (segs o) X Y) = r.fills (wF (segs p) X Y)
theorem second_in (ns : List Int) (most : Int) (hm : 0 < most ∧ most ≤ 12) (o : List Way) (go : Good o) (so : ∀ w ∈ o, w.bn 12 ∧ w.st.length ≤ 4) (way : Int) (hw : 0 ≤ way ∧ way < 5) (r : Rule) (q : List Way) (gq : Good q) (a : XS) :
    ∃ (p : List Way) (s4 c5 : Sl), Second o p way r ∧ (s4 = .dat (eOut p) ∨ s4 = .own2 (p.map eSteps)) ∧
      sSeq t_law_5 (sSeq t_law_6 (sSeq t_law_7 a)) [.dat (.scr ns), .dat (.int most), .dat (eOut o), .dat (.int way), .dat (eOut q), .no, .no, .no, .no, .no, .no, .no, .no, .no, .no, .no, .no] = a [.dat (.scr ns), .dat (.int most), .dat (eOut o), .dat (.int way), s4, c5, .no, .no, .no, .no, .no, .no, .no, .no, .no, .no, .no] := by
  have five : way = 0 ∨ way = 1 ∨ way = 2 ∨ way = 3 ∨ way = 4 := by omega
  have m92 := mix_eq ns 92 (by decide)
  have m93 := mix_eq ns 93 (by decide)
  rcases five with rfl | rfl | rfl | rfl | rfl
  · refine ⟨q, .dat (eOut q), .no, ⟨gq, fun h => by rcases h with h | h <;> cases h⟩, .inl rfl, ?_⟩
    generalize eOut o = O
    generalize eOut q = Q
    rw [go_nx (ρ' := [.dat (.scr ns), .dat (.int most), .dat O, .dat (.int 0), .dat Q, .no, .no, .no, .no, .no, .no, .no, .no, .no, .no, .no, .no]) (by simp [t_law_5]), go_nx (ρ' := [.dat (.scr ns), .dat (.int most), .dat O, .dat (.int 0), .dat Q, .no, .no, .no, .no, .no, .no, .no, .no, .no, .no, .no, .no]) (by simp [t_law_6]), go_nx (ρ' := [.dat (.scr ns), .dat (.int most), .dat O, .dat (.int 0), .dat Q, .no, .no, .no, .no, .no, .no, .no, .no, .no, .no, .no, .no]) (by simp [t_law_7])]
  · have te := turned_eq o go.ok (fun w hw => by have := (so w hw).2; omega)
    refine ⟨o.map Way.turned, .dat (eOut (o.map Way.turned)), .no, ⟨turned_good go (fun w hw => (so w hw).2), fun _ X Y => by rw [wF_turned, fills_neg]⟩, .inl rfl, ?_⟩
    generalize eOut o = O at *
    generalize eOut q = Q at *
    generalize eOut (o.map Way.turned) = T at *
    rw [go_nx (ρ' := [.dat (.scr ns), .dat (.int most), .dat O, .dat (.int 1), .dat T, .no, .no, .no, .no, .no, .no, .no, .no, .no, .no, .no, .no]) (by simp [t_law_5, te]), go_nx (ρ' := [.dat (.scr ns), .dat (.int most), .dat O, .dat (.int 1), .dat T, .no, .no, .no, .no, .no, .no, .no, .no, .no, .no, .no, .no]) (by simp [t_law_6]), go_nx (ρ' := [.dat (.scr ns), .dat (.int most), .dat O, .dat (.int 1), .dat T, .no, .no, .no, .no, .no, .no, .no, .no, .no, .no, .no, .no]) (by simp [t_law_7])]
  · have lc := lc_ways (g := gNm 15) (f := xCall (atN 2 s_law_parted) (xCons (xVar 15) (xCons (xCall (atN 2 s_law_mix) (xCons (xVar 0) (xCons (xC (.int 92)) xNil))) xNil))) (ρ := [.dat (.scr ns), .dat (.int most), .dat (eOut o), .dat (.int 2), .dat (eOut q), .no, .no, .no, .no, .no, .no, .no, .no, .no, .no, .no, .no]) PartOf o (fun w hw => by
      obtain ⟨v, hv, e⟩ := parted_eq w (by have := (so w hw).2; omega) (mixv ns 92)
      refine ⟨v, _, hv, rfl, ?_⟩
      generalize eOut o = O at *
      generalize eOut q = Q at *
      simp [m92, e])
    obtain ⟨p, e, h2⟩ := lc
    obtain ⟨p1, p2, p3⟩ := parts_good h2 so go.to
    have ln : Ln o.length := ⟨by have := go.few; omega⟩
    refine ⟨p, .dat (eOut p), .no, ⟨⟨fun w hw => (p2 w hw).1, by rw [p1]; exact go.few, fun w hw => (p2 w hw).2.1, fun w hw => (p2 w hw).2.2⟩, fun _ X Y => by rw [p3]⟩, .inl rfl, ?_⟩
    rw [go_nx (ρ' := [.dat (.scr ns), .dat (.int most), .dat (eOut o), .dat (.int 2), .dat (eOut q), .no, .no, .no, .no, .no, .no, .no, .no, .no, .no, .no, .no]) (by
      generalize eOut o = O at *
      generalize eOut q = Q at *
      simp [t_law_5]), go_nx (ρ' := [.dat (.scr ns), .dat (.int most), .dat (eOut o), .dat (.int 2), .dat (eOut p), .no, .no, .no, .no, .no, .no, .no, .no, .no, .no, .no, .no]) (by
      unfold eOut at e ⊢
      rw [t_law_6, if_y (by simp)]
      show ((((if Ln (o.map eWay).length then noErr (lcRun _ _ _ [.dat (.scr ns), .dat (.int most), .dat (.lst (o.map eWay)), .dat (.int 2), .dat (.lst (q.map eWay)), .no, .no, .no, .no, .no, .no, .no, .no, .no, .no, .no, .no] (o.map eWay)) else R.bad) : R (List D)).map D.lst).thn _ _) = _
      rw [if_pos (by rw [List.length_map]; exact ln), e]
      rfl), go_nx (ρ' := [.dat (.scr ns), .dat (.int most), .dat (eOut o), .dat (.int 2), .dat (eOut p), .no, .no, .no, .no, .no, .no, .no, .no, .no, .no, .no, .no]) (by
      generalize eOut o = O at *
      generalize eOut p = Q at *
      simp [t_law_7])]
  · cases o with
    | nil =>
      refine ⟨q, .dat (eOut q), .no, ⟨gq, fun h => by rcases h with h | h <;> cases h⟩, .inl rfl, ?_⟩
      generalize eOut q = Q
      rw [go_nx (ρ' := [.dat (.scr ns), .dat (.int most), .dat (eOut []), .dat (.int 3), .dat Q, .no, .no, .no, .no, .no, .no, .no, .no, .no, .no, .no, .no]) (by simp [t_law_5]), go_nx (ρ' := [.dat (.scr ns), .dat (.int most), .dat (eOut []), .dat (.int 3), .dat Q, .no, .no, .no, .no, .no, .no, .no, .no, .no, .no, .no, .no]) (by simp [t_law_6]), go_nx (ρ' := [.dat (.scr ns), .dat (.int most), .dat (eOut []), .dat (.int 3), .dat Q, .no, .no, .no, .no, .no, .no, .no, .no, .no, .no, .no, .no]) (by simp [t_law_7, eOut])]
    | cons w l =>
      have rb := Int.emod_nonneg (mixv ns 93) (show (3 : Int) ≠ 0 by decide)
      have rt := Int.emod_lt_of_pos (mixv ns 93) (show (0 : Int) < 3 by decide)
      obtain ⟨c, x, y, g1, g2, g3⟩ := corner_row (mixv ns 93 % 3 - 1) w (go.to w List.mem_cons_self)
      have cg := corner_good (mixv ns 93 % 3 - 1) (by omega) go so
      refine ⟨cornerW (mixv ns 93 % 3 - 1) w :: l, .own2 ((cornerW (mixv ns 93 % 3 - 1) w :: l).map eSteps), .dat (.tup [.str c, .int x, .int y]), ⟨cg, fun h => by rcases h with h | h <;> cases h⟩, .inr rfl, ?_⟩
      have gx : x + mixv ns 93 % 3 - 1 = x + (mixv ns 93 % 3 - 1) := by omega
      have ln : Ln (w :: l).length := ⟨by have := go.few; omega⟩
      have rl := row_lc2 (w :: l) [.dat (.scr ns), .dat (.int most), .dat (eOut (w :: l)), .dat (.int 3), .dat (eOut q), .no, .no, .no, .no, .no, .no, .no, .no, .no, .no, .no, .no] rfl
      rw [go_nx (ρ' := [.dat (.scr ns), .dat (.int most), .dat (eOut (w :: l)), .dat (.int 3), .dat (eOut q), .no, .no, .no, .no, .no, .no, .no, .no, .no, .no, .no, .no]) (by
        generalize eOut (w :: l) = O at *
        generalize eOut q = Q at *
        simp [t_law_5]), go_nx (ρ' := [.dat (.scr ns), .dat (.int most), .dat (eOut (w :: l)), .dat (.int 3), .dat (eOut q), .no, .no, .no, .no, .no, .no, .no, .no, .no, .no, .no, .no]) (by
        generalize eOut (w :: l) = O at *
        generalize eOut q = Q at *
        simp [t_law_6]), go_nx (ρ' := [.dat (.scr ns), .dat (.int most), .dat (eOut (w :: l)), .dat (.int 3), .own2 ((cornerW (mixv ns 93 % 3 - 1) w :: l).map eSteps), .dat (.tup [.str c, .int x, .int y]), .no, .no, .no, .no, .no, .no, .no, .no, .no, .no, .no]) ?_]
      rw [t_law_7, if_y (by simp [eOut])]
      refine (go_nx (ρ' := [.dat (.scr ns), .dat (.int most), .dat (eOut (w :: l)), .dat (.int 3), .own2 ((w :: l).map eSteps), .no, .no, .no, .no, .no, .no, .no, .no, .no, .no, .no, .no]) ?_).trans ?_
      · have xl : (x2Lc (iSeq (xVar 2)) (gNm 15) tYes (xFunN bList (xCons (xLook 15) xNil)) [15]) [.dat (.scr ns), .dat (.int most), .dat (eOut (w :: l)), .dat (.int 3), .dat (eOut q), .no, .no, .no, .no, .no, .no, .no, .no, .no, .no, .no, .no] = .ok ((w :: l).map eSteps) := by
          unfold eOut at rl ⊢
          show (if Ln ((w :: l).map eWay).length then noErr (lcRun2 _ _ _ [.dat (.scr ns), .dat (.int most), .dat (.lst ((w :: l).map eWay)), .dat (.int 3), .dat (.lst (q.map eWay)), .no, .no, .no, .no, .no, .no, .no, .no, .no, .no, .no, .no] ((w :: l).map eWay)) else R.bad) = _
          rw [if_pos (by rw [List.length_map]; exact ln), rl]
          rfl
        show (x2Lc _ _ _ _ _ _).thn _ _ = _
        rw [xl]
        rfl
      · have em : (w :: l).map eSteps = eSteps w :: l.map eSteps := rfl
        have em2 : (cornerW (mixv ns 93 % 3 - 1) w :: l).map eSteps = eSteps (cornerW (mixv ns 93 % 3 - 1) w) :: l.map eSteps := rfl
        rw [em, em2, ← g3]
        have i0 : ixAt (l.map eSteps).length.succ 0 = some 0 := by
          unfold ixAt
          rw [if_pos (by decide), if_pos (by omega)]
          rfl
        generalize eOut (w :: l) = O at *
        generalize eOut q = Q at *
        generalize eSteps w = ES at *
        generalize l.map eSteps = LS at *
        refine (go_nx (ρ' := [.dat (.scr ns), .dat (.int most), .dat O, .dat (.int 3), .own2 (ES :: LS), .dat (.tup [.str c, .int x, .int y]), .no, .no, .no, .no, .no, .no, .no, .no, .no, .no, .no]) (by simp [g1])).trans ?_
        have i0' : ixAt (ES :: LS).length 0 = some 0 := i0
        have i0'' : ixAt (LS.length + 1) 0 = some 0 := i0
        simp [m93, g2, i0'', gx]
  · refine ⟨q, .dat (eOut q), .no, ⟨gq, fun h => by rcases h with h | h <;> cases h⟩, .inl rfl, ?_⟩
    generalize eOut o = O
    generalize eOut q = Q
    rw [go_nx (ρ' := [.dat (.scr ns), .dat (.int most), .dat O, .dat (.int 4), .dat Q, .no, .no, .no, .no, .no, .no, .no, .no, .no, .no, .no, .no]) (by simp [t_law_5]), go_nx (ρ' := [.dat (.scr ns), .dat (.int most), .dat O, .dat (.int 4), .dat Q, .no, .no, .no, .no, .no, .no, .no, .no, .no, .no, .no, .no]) (by simp [t_law_6]), go_nx (ρ' := [.dat (.scr ns), .dat (.int most), .dat O, .dat (.int 4), .dat Q, .no, .no, .no, .no, .no, .no, .no, .no, .no, .no, .no, .no]) (by simp [t_law_7])]
theorem do_for {it : XA} {g : XG} {s : XS} {ρ : Rho} {ds : List D} (h : it ρ = .ok ds) : sFor it g s ρ = forRun g s ds ρ := by
  show (it ρ).thn ρ _ = _
  rw [h]
  rfl
theorem rng1_eq {e : XE} {ρ : Rho} {n : Nat} (h : e ρ = .ok (.int (n : Int))) (hn : n ≤ 1000000) : iRng1 e ρ = .ok (rng 0 n) := by
  show (e ρ).bind _ = _
  rw [h]
  show (if RgN (n : Int) then _ else _) = _
  rw [if_pos ⟨by omega, by omega⟩]
  rfl
theorem rl_good (r : Rule) : dFit (eRule r) := by cases r <;> exact ⟨by show strGood _ = true; decide +kernel, Nat.zero_le _⟩
/-- a point to try -/
def tryP (ns : List Int) (most : Int) (k : Nat) : Pt × Pt := ((mixv ns (100 + (k : Int)) / 8 % (16 * most) - 8 * most, 7), (mixv ns (100 + (k : Int)) / 4096 % (16 * most) - 8 * most, 7))
def eTry (q : Pt × Pt) : D := .tup [ePt q.1, ePt q.2]
theorem law_pure (ns : List Int) (hl : ns.length ≤ 63) : runF 17 x_law [.scr ns] = .ok (.dat (.bl true)) := by
  have m90 := mix_eq ns 90 (by decide)
  have m91 := mix_eq ns 91 (by decide)
  have m94 := mix_eq ns 94 (by decide)
  obtain ⟨most, gms, hm1, hm2⟩ := pick_most (mixv ns 90)
  obtain ⟨r, grl⟩ := pick_rule (mixv ns 94)
  have w0 := Int.emod_nonneg (mixv ns 91) (show (5 : Int) ≠ 0 by decide)
  have w1 := Int.emod_lt_of_pos (mixv ns 91) (show (0 : Int) < 5 by decide)
  generalize hway : mixv ns 91 % 5 = way at *
  have s0 := str_eq ns 0 most (by decide) (by omega) (by omega)
  have s40 := str_eq ns 40 most (by decide) (by omega) (by omega)
  have go := strv_good ns 0 most (by omega) hm2
  have gq := strv_good ns 40 most (by omega) hm2
  have so := strv_small ns 0 most (by omega) hm2
  generalize strv ns 0 most = o at *
  generalize strv ns 40 most = q at *
  refine run_rt ?_
  have k0 : ([D.scr ns].map Sl.dat ++ List.replicate (17 - [D.scr ns].length) Sl.no) = [.dat (.scr ns), .no, .no, .no, .no, .no, .no, .no, .no, .no, .no, .no, .no, .no, .no, .no, .no] := rfl
  rw [k0]
  refine (go_nx (ρ' := [.dat (.scr ns), .dat (.int most), .no, .no, .no, .no, .no, .no, .no, .no, .no, .no, .no, .no, .no, .no, .no]) (by simp [t_law_1, m90, gms])).trans ?_
  refine (go_nx (ρ' := [.dat (.scr ns), .dat (.int most), .dat (eOut o), .no, .no, .no, .no, .no, .no, .no, .no, .no, .no, .no, .no, .no, .no]) (by simp [t_law_2, s0]; rfl)).trans ?_
  refine (go_nx (ρ' := [.dat (.scr ns), .dat (.int most), .dat (eOut o), .dat (.int way), .no, .no, .no, .no, .no, .no, .no, .no, .no, .no, .no, .no, .no]) (by
    generalize eOut o = O at *
    simp [t_law_3, m91, hway])).trans ?_
  refine (go_nx (ρ' := [.dat (.scr ns), .dat (.int most), .dat (eOut o), .dat (.int way), .dat (eOut q), .no, .no, .no, .no, .no, .no, .no, .no, .no, .no, .no, .no]) (by
    generalize eOut o = O at *
    simp [t_law_4, s40]
    rfl)).trans ?_
  obtain ⟨p, s4, c5, ⟨gp, same⟩, h4, e⟩ := second_in ns most ⟨hm1, hm2⟩ o go so way ⟨w0, w1⟩ r q gq
    (sSeq t_law_8 (sSeq (sFrz 4) (sSeq t_law_9 (sSeq t_law_10 (sSeq t_law_11 (sSeq t_law_12 (sSeq t_law_13 (sSeq (sFrz 4) (sSeq (sFrz 12) t_law_14)))))))))
  refine e.trans ?_
  clear e
  refine (go_nx (ρ' := [.dat (.scr ns), .dat (.int most), .dat (eOut o), .dat (.int way), s4, c5, .dat (eRule r), .no, .no, .no, .no, .no, .no, .no, .no, .no, .no]) (by
    generalize eOut o = O at *
    simp [t_law_8, m94, grl])).trans ?_
  refine (go_nx (ρ' := [.dat (.scr ns), .dat (.int most), .dat (eOut o), .dat (.int way), .dat (eOut p), c5, .dat (eRule r), .no, .no, .no, .no, .no, .no, .no, .no, .no, .no]) (by
    rcases h4 with rfl | rfl
    · rfl
    · show O.nx _ = _
      have : D.lst ((p.map eSteps).map D.lst) = eOut p := by
        unfold eOut
        rw [List.map_map]
        rfl
      rw [this]
      rfl)).trans ?_
  have pe := parting_eq o p go.ok gp.ok go.st gp.st go.n gp.n r
  obtain ⟨F, hF⟩ : ∃ F : D, F = (partv o p r).elim .non fun q => .tup [ePt q.1, ePt q.2] := ⟨_, rfl⟩
  rw [← hF] at pe
  refine (go_nx (ρ' := [.dat (.scr ns), .dat (.int most), .dat (eOut o), .dat (.int way), .dat (eOut p), c5, .dat (eRule r), .dat F, .no, .no, .no, .no, .no, .no, .no, .no, .no]) (by
    have a1 : (xNew (xLc (iSeq (xVar 2)) (gNm 15) tYes (xNew (xFunN bList (xCons (xLook 15) xNil))) [15])) [.dat (.scr ns), .dat (.int most), .dat (eOut o), .dat (.int way), .dat (eOut p), c5, .dat (eRule r), .no, .no, .no, .no, .no, .no, .no, .no, .no, .no] = .ok (eOut o) := by
      have l := list_lc o [.dat (.scr ns), .dat (.int most), .dat (eOut o), .dat (.int way), .dat (eOut p), c5, .dat (eRule r), .no, .no, .no, .no, .no, .no, .no, .no, .no, .no] rfl
      unfold eOut at l ⊢
      show ((if Ln (o.map eWay).length then noErr (lcRun _ _ _ [.dat (.scr ns), .dat (.int most), .dat (.lst (o.map eWay)), .dat (.int way), .dat (.lst (p.map eWay)), c5, .dat (eRule r), .no, .no, .no, .no, .no, .no, .no, .no, .no, .no] (o.map eWay)) else R.bad).map D.lst) = _
      rw [if_pos ⟨by rw [List.length_map]; have := go.few; omega⟩, l]
      rfl
    have a2 : (xNew (xLc (iSeq (xVar 4)) (gNm 15) tYes (xNew (xFunN bList (xCons (xLook 15) xNil))) [15])) [.dat (.scr ns), .dat (.int most), .dat (eOut o), .dat (.int way), .dat (eOut p), c5, .dat (eRule r), .no, .no, .no, .no, .no, .no, .no, .no, .no, .no] = .ok (eOut p) := by
      have l := list_lc p [.dat (.scr ns), .dat (.int most), .dat (eOut o), .dat (.int way), .dat (eOut p), c5, .dat (eRule r), .no, .no, .no, .no, .no, .no, .no, .no, .no, .no] rfl
      unfold eOut at l ⊢
      show ((if Ln (p.map eWay).length then noErr (lcRun _ _ _ [.dat (.scr ns), .dat (.int most), .dat (.lst (o.map eWay)), .dat (.int way), .dat (.lst (p.map eWay)), c5, .dat (eRule r), .no, .no, .no, .no, .no, .no, .no, .no, .no, .no] (p.map eWay)) else R.bad).map D.lst) = _
      rw [if_pos ⟨by rw [List.length_map]; have := gp.few; omega⟩, l]
      rfl
    have ar : (xCons (xNew (xLc (iSeq (xVar 2)) (gNm 15) tYes (xNew (xFunN bList (xCons (xLook 15) xNil))) [15])) (xCons (xNew (xLc (iSeq (xVar 4)) (gNm 15) tYes (xNew (xFunN bList (xCons (xLook 15) xNil))) [15])) (xCons (xVar 6) xNil))) [.dat (.scr ns), .dat (.int most), .dat (eOut o), .dat (.int way), .dat (eOut p), c5, .dat (eRule r), .no, .no, .no, .no, .no, .no, .no, .no, .no, .no] = .ok [eOut o, eOut p, eRule r] := by
      show ((xNew _ _).bind _) = _
      rw [a1, R.bind_ok]
      show (((xNew _ _).bind _).bind _) = _
      rw [a2]
      rfl
    show ((asD ((xCons _ _ _).bind _)).thn _ _) = _
    rw [ar, R.bind_ok]
    show ((asD (if [eOut o, eOut p, eRule r].length = 3 then _ else _)).thn _ _) = _
    rw [if_pos (show [eOut o, eOut p, eRule r].length = 3 from rfl), pe]
    rfl)).trans ?_
  have gb : ∀ {w : List Way}, Good w → (∀ v ∈ w, v.bn 1000 ∧ v.st.length ≤ 100) ∧ w.length ≤ 10 := fun g => ⟨fun v hv => ⟨(g.bn v hv).1, by have := (g.bn v hv).2; omega⟩, by have := g.few; omega⟩
  obtain ⟨b, hdi, hbw⟩ : ∃ b : Bool, dIn (.int way) (.tup [.int 1, .int 2]) = .ok (.bl b) ∧ (b = true → way = 1 ∨ way = 2) := by
    refine ⟨_, dIn_t rfl rfl, fun h => ?_⟩
    simp at h
    omega
  cases hp : partv o p r with
  | none =>
    rw [hp] at hF
    have hF : F = .non := hF
    subst hF
    refine (go_nx (ρ' := [.dat (.scr ns), .dat (.int most), .dat (eOut o), .dat (.int way), .dat (eOut p), c5, .dat (eRule r), .dat .non, .no, .no, .no, .no, .no, .no, .no, .no, .no]) (by
      generalize eOut o = O at *
      generalize eOut p = Q at *
      simp [t_law_10, hdi])).trans ?_
    refine (go_nx (ρ' := [.dat (.scr ns), .dat (.int most), .dat (eOut o), .dat (.int way), .dat (eOut p), c5, .dat (eRule r), .dat .non, .no, .no, .no, .no, .no, .no, .no, .no, .no]) (by
      generalize eOut o = O at *
      generalize eOut p = Q at *
      simp [t_law_11])).trans ?_
    refine (go_nx (ρ' := [.dat (.scr ns), .dat (.int most), .dat (eOut o), .dat (.int way), .dat (eOut p), c5, .dat (eRule r), .dat .non, .no, .no, .no, .no, .own [], .no, .no, .no, .no]) (by
      generalize eOut o = O at *
      generalize eOut p = Q at *
      simp [t_law_12])).trans ?_
    obtain ⟨ρ', e1, u13, u14, rfl⟩ := for_app (g := gNm 13) (s := b_law_1) (fun (k : Nat) => D.int (k : Int)) (fun k => eTry (tryP ns most k)) (fun z ρ => ∃ u13 u14, ρ = [.dat (.scr ns), .dat (.int most), .dat (eOut o), .dat (.int way), .dat (eOut p), c5, .dat (eRule r), .dat .non, .no, .no, .no, .no, .own z, u13, u14, .no, .no]) (List.range 30) [] [.dat (.scr ns), .dat (.int most), .dat (eOut o), .dat (.int way), .dat (eOut p), c5, .dat (eRule r), .dat .non, .no, .no, .no, .no, .own [], .no, .no, .no, .no] ⟨_, _, rfl⟩ (by simp) (by
      rintro z ρ k hk hz ⟨u13, u14, rfl⟩
      have hk : k < 30 := by simpa using hk
      have mk := mix_eq ns (100 + (k : Int)) (by omega)
      have sm : Sm most := sm_small (by omega)
      have d1 := dMod_i (i := mixv ns (100 + (k : Int)) / 8) (j := 16 * most) (by omega)
      have d2 := dMod_i (i := mixv ns (100 + (k : Int)) / 4096) (j := 16 * most) (by omega)
      have et : eTry (tryP ns most k) = .tup [.tup [.int (mixv ns (100 + (k : Int)) / 8 % (16 * most) - 8 * most), .int 7], .tup [.int (mixv ns (100 + (k : Int)) / 4096 % (16 * most) - 8 * most), .int 7]] := rfl
      rw [et]
      generalize eOut o = O at *
      generalize eOut p = Q at *
      refine ⟨_, [.dat (.scr ns), .dat (.int most), .dat O, .dat (.int way), .dat Q, c5, .dat (eRule r), .dat .non, .no, .no, .no, .no, .own (z ++ [.tup [.tup [.int (mixv ns (100 + (k : Int)) / 8 % (16 * most) - 8 * most), .int 7], .tup [.int (mixv ns (100 + (k : Int)) / 4096 % (16 * most) - 8 * most), .int 7]]]), .dat (.int k), .dat (.int (mixv ns (100 + (k : Int)))), .no, .no], rfl, ?_, _, _, rfl⟩
      simp [b_law_1, mk, sm, d1, d2, hz])
    refine (go_nx ((do_for (rng1_eq (n := 30) rfl (by decide))).trans (by rw [rng_n]; exact e1))).trans ?_
    refine (go_nx (ρ' := [.dat (.scr ns), .dat (.int most), .dat (eOut o), .dat (.int way), .dat (eOut p), c5, .dat (eRule r), .dat .non, .no, .no, .no, .no, .own ((List.range 30).map fun k => eTry (tryP ns most k)), u13, u14, .no, .no]) rfl).trans ?_
    refine (go_nx (ρ' := [.dat (.scr ns), .dat (.int most), .dat (eOut o), .dat (.int way), .dat (eOut p), c5, .dat (eRule r), .dat .non, .no, .no, .no, .no, .dat (.lst ((List.range 30).map fun k => eTry (tryP ns most k))), u13, u14, .no, .no]) rfl).trans ?_
    have lc : lcRun (gNm 16) tYes (xBin dEq (xBin dIx (xCall (atN 3 s_law_filled) (xCons (xVar 2) (xCons (xVar 16) (xCons (xVar 6) xNil)))) (xC (.int 0))) (xBin dIx (xCall (atN 3 s_law_filled) (xCons (xVar 4) (xCons (xVar 16) (xCons (xVar 6) xNil)))) (xC (.int 0)))) [.dat (.scr ns), .dat (.int most), .dat (eOut o), .dat (.int way), .dat (eOut p), c5, .dat (eRule r), .dat .non, .no, .no, .no, .no, .dat (.lst ((List.range 30).map fun k => eTry (tryP ns most k))), u13, u14, .no, .no] ((List.range 30).map fun k => eTry (tryP ns most k)) = .ok ((List.range 30).map fun _ => D.bl true) := by
      refine lc_map (fun k => eTry (tryP ns most k)) _ _ fun k hk => ⟨_, rfl, ?_⟩
      have x0 := Int.emod_nonneg (mixv ns (100 + (k : Int)) / 8) (show 16 * most ≠ 0 by omega)
      have x1 := Int.emod_lt_of_pos (mixv ns (100 + (k : Int)) / 8) (show 0 < 16 * most by omega)
      have y0 := Int.emod_nonneg (mixv ns (100 + (k : Int)) / 4096) (show 16 * most ≠ 0 by omega)
      have y1 := Int.emod_lt_of_pos (mixv ns (100 + (k : Int)) / 4096) (show 0 < 16 * most by omega)
      have big : (1000 : Nat) ≤ 10 ^ 100 := by decide +kernel
      have bX : (tryP ns most k).1.1.natAbs ≤ 10 ^ 100 ∧ (tryP ns most k).1.2.natAbs ≤ 10 ^ 100 := ⟨Nat.le_trans (by show (mixv ns (100 + (k : Int)) / 8 % (16 * most) - 8 * most).natAbs ≤ 1000; omega) big, Nat.le_trans (by show (7 : Int).natAbs ≤ 1000; decide) big⟩
      have bY : (tryP ns most k).2.1.natAbs ≤ 10 ^ 100 ∧ (tryP ns most k).2.2.natAbs ≤ 10 ^ 100 := ⟨Nat.le_trans (by show (mixv ns (100 + (k : Int)) / 4096 % (16 * most) - 8 * most).natAbs ≤ 1000; omega) big, Nat.le_trans (by show (7 : Int).natAbs ≤ 1000; decide) big⟩
      have p7 : 0 < (tryP ns most k).1.2 := by show (0 : Int) < 7; decide
      have q7 : 0 < (tryP ns most k).2.2 := by show (0 : Int) < 7; decide
      have f1 := filled_eq (gb go).1 (gb go).2 go.st p7 q7 bX bY r
      have f2 := filled_eq (gb gp).1 (gb gp).2 gp.st p7 q7 bX bY r
      have pn := part_none go.ok gp.ok hp (val (tryP ns most k).1) (val (tryP ns most k).2)
      rw [← pn] at f2
      have et : (D.tup [ePt (tryP ns most k).1, ePt (tryP ns most k).2]) = eTry (tryP ns most k) := rfl
      rw [et] at f1 f2
      generalize eTry (tryP ns most k) = T at *
      generalize r.fills (wF (segs o) (val (tryP ns most k).1) (val (tryP ns most k).2)) = A at *
      generalize ((segs o).any fun l => onB l (tryP ns most k).1 (tryP ns most k).2) = B1 at *
      generalize ((segs p).any fun l => onB l (tryP ns most k).1 (tryP ns most k).2) = B2 at *
      generalize eOut o = O at *
      generalize eOut p = Q at *
      generalize eRule r = RR at *
      simp [f1, f2]
    have ab : bAll (.lst ((List.range 30).map fun _ => D.bl true)) = .ok (.bl true) := rfl
    have xl : (xNew (xLc (iSeq (xVar 12)) (gNm 16) tYes (xBin dEq (xBin dIx (xCall (atN 3 s_law_filled) (xCons (xVar 2) (xCons (xVar 16) (xCons (xVar 6) xNil)))) (xC (.int 0))) (xBin dIx (xCall (atN 3 s_law_filled) (xCons (xVar 4) (xCons (xVar 16) (xCons (xVar 6) xNil)))) (xC (.int 0)))) [16])) [.dat (.scr ns), .dat (.int most), .dat (eOut o), .dat (.int way), .dat (eOut p), c5, .dat (eRule r), .dat .non, .no, .no, .no, .no, .dat (.lst ((List.range 30).map fun k => eTry (tryP ns most k))), u13, u14, .no, .no] = .ok (.lst ((List.range 30).map fun _ => D.bl true)) := by
      show ((if Ln ((List.range 30).map fun k => eTry (tryP ns most k)).length then noErr (lcRun _ _ _ [.dat (.scr ns), .dat (.int most), .dat (eOut o), .dat (.int way), .dat (eOut p), c5, .dat (eRule r), .dat .non, .no, .no, .no, .no, .dat (.lst ((List.range 30).map fun k => eTry (tryP ns most k))), u13, u14, .no, .no] ((List.range 30).map fun k => eTry (tryP ns most k))) else R.bad).map D.lst) = _
      rw [if_pos ⟨by rw [List.length_map, List.length_range]; decide⟩, lc]
      rfl
    show ((((xNew _ _).bind _).bind _).thn _ _) = _
    rw [xl, R.bind_ok]
    show (bAll (.lst ((List.range 30).map fun _ => D.bl true))).thn _ _ = _
    rw [ab]
    rfl
  | some qh =>
    obtain ⟨q1, h1⟩ := qh
    rw [hp] at hF
    have hF : F = .tup [ePt q1, ePt h1] := hF
    subst hF
    obtain ⟨z1, z2, z3, z4, z5, z6, z7⟩ := part_some go.ok gp.ok hp
    obtain ⟨fb1, fb2⟩ := part_fb go.ok gp.ok hp
    have nw : ¬ (way = 1 ∨ way = 2) := fun h => z5 (same h _ _)
    have c1 : ¬ 1 = way := fun z => nw (.inl z.symm)
    have c2 : ¬ 2 = way := fun z => nw (.inr z.symm)
    have f1 := filled_eq (gb go).1 (gb go).2 go.st z1 z2 ⟨fb1.n, fb1.e⟩ ⟨fb2.n, fb2.e⟩ r
    have f2 := filled_eq (gb gp).1 (gb gp).2 gp.st z1 z2 ⟨fb1.n, fb1.e⟩ ⟨fb2.n, fb2.e⟩ r
    have off : ∀ l ∈ segs o ++ segs p, onB l q1 h1 = false := fun l hl => by
      unfold onB
      refine @decide_eq_false _ (Classical.propDecidable _) fun z => ?_
      rcases z with ⟨n, a, e⟩ | ⟨n, e, _⟩
      · exact z7 l hl n a e
      · exact z6 l hl n e
    have o1 : ((segs o).any fun l => onB l q1 h1) = false := List.any_eq_false.mpr fun l hl => by rw [off l (List.mem_append_left _ hl)]; decide
    have o2 : ((segs p).any fun l => onB l q1 h1) = false := List.any_eq_false.mpr fun l hl => by rw [off l (List.mem_append_right _ hl)]; decide
    rw [o1] at f1
    rw [o2] at f2
    have fr1 := fr_eq z1 z3
    have fr2 := fr_eq z2 z4
    refine (go_nx (ρ' := [.dat (.scr ns), .dat (.int most), .dat (eOut o), .dat (.int way), .dat (eOut p), c5, .dat (eRule r), .dat (.tup [ePt q1, ePt h1]), .no, .no, .no, .no, .no, .no, .no, .no, .no]) (by
      generalize eOut o = O at *
      generalize eOut p = Q at *
      generalize ePt q1 = Q1 at *
      generalize ePt h1 = H1 at *
      have hb : b = false := by
        cases b with
        | true => exact absurd (hbw rfl) nw
        | false => rfl
      subst hb
      simp [t_law_10, hdi])).trans ?_
    refine go_rt ?_
    generalize eOut o = O at *
    generalize eOut p = Q at *
    generalize ePt q1 = Q1 at *
    generalize ePt h1 = H1 at *
    generalize r.fills (wF (segs o) (val q1) (val h1)) = A at *
    generalize r.fills (wF (segs p) (val q1) (val h1)) = B at *
    generalize eRule r = RR at *
    refine (if_y (by simp)).trans ?_
    cases A <;> cases B <;> first | exact absurd rfl z5 | simp [fr1, fr2, f1, f2]
end Gy.k60

end

section
set_option Elab.async false
set_option linter.all false
set_option maxRecDepth 100000
set_option maxHeartbeats 4000000
namespace Gy.k60
open PySem PySem.Spec PyProof.Rows L2 Gy
theorem ok_law {P : Program} {w : World} {K : Frag} {mg : Str → Option Value} {base : Heap} {cv : Nat → Addr} {f : Addr} {fd : FuncData} (T : Tx K w mg cv) (F : Fun K "law" "law" st_law f fd) (G_law_filled : Fn P w K mg base cv 2 "_law_filled" 3 s_law_filled) (G_law_fraction : Fn P w K mg base cv 2 "_law_fraction" 1 s_law_fraction) (G_law_mix : Fn P w K mg base cv 2 "_law_mix" 2 s_law_mix) (G_law_parted : Fn P w K mg base cv 1 "_law_parted" 2 s_law_parted) (G_law_straight : Fn P w K mg base cv 4 "_law_straight" 3 s_law_straight) (G_parting : Fn P w K mg base cv 5 "parting" 3 s_parting) (G_turned_about : Fn P w K mg base cv 3 "turned_about" 1 s_turned_about) : FnOk P w K mg base CX0 6 f fd ["_law_script"] (spLaw K) := by
  refine law_ok (cv := cv) F sc_law (fun cdv A outer s H E hr => ?_) law_pure
  have nd := sc_law.nd
  have hu := hr.units
  have tk : Takes (cxOf CX0 P w K mg base ["_law_script", "_law_most", "_law_outline", "_law_way", "_law_other", "_law_corner", "_law_rule", "_law_found", "_law_first", "_law_on", "_law_second", "_law_by", "_law_points", "_law_k", "_law_number_here", "_law_one", "_law_point"] "law" (defScope st_law) f cdv A outer s H E).nox WF := tk0
  have po : PassesOwn (model P w) (cxOf CX0 P w K mg base ["_law_script", "_law_most", "_law_outline", "_law_way", "_law_other", "_law_corner", "_law_rule", "_law_found", "_law_first", "_law_on", "_law_second", "_law_by", "_law_points", "_law_k", "_law_number_here", "_law_one", "_law_point"] "law" (defScope st_law) f cdv A outer s H E).nox.A (cxOf CX0 P w K mg base ["_law_script", "_law_most", "_law_outline", "_law_way", "_law_other", "_law_corner", "_law_rule", "_law_found", "_law_first", "_law_on", "_law_second", "_law_by", "_law_points", "_law_k", "_law_number_here", "_law_one", "_law_point"] "law" (defScope st_law) f cdv A outer s H E).nox.env (cxOf CX0 P w K mg base ["_law_script", "_law_most", "_law_outline", "_law_way", "_law_other", "_law_corner", "_law_rule", "_law_found", "_law_first", "_law_on", "_law_second", "_law_by", "_law_points", "_law_k", "_law_number_here", "_law_one", "_law_point"] "law" (defScope st_law) f cdv A outer s H E).nox.xe := PassesOwn.never
  exact (rss_cons (rs_asg (re_ix (RP.rl (RP.re (rn_lst (ra_cons re_int (ra_cons re_int ra_nil))))) (RP.rl (re_op od_mod (RP.rl (re_call G_law_mix (hr.mono (by decide)) tk (ra_cons (re_var 0 (pv 0)) (ra_cons re_int ra_nil)))) (RP.rl re_int)))) (rg_nm 1 (pg_name (i := 1) nd rfl (by first | exact Or.inl rfl | exact Or.inr rfl))))
    (rss_cons (rs_asg (re_call G_law_straight (hr.mono (by decide)) tk (ra_cons (re_var 0 (pv 0)) (ra_cons re_int (ra_cons (re_var 1 (pv 1)) ra_nil)))) (rg_nm 2 (pg_name (i := 2) nd rfl (by first | exact Or.inl rfl | exact Or.inr rfl))))
    (rss_cons (rs_asg (re_op od_mod (RP.rl (re_call G_law_mix (hr.mono (by decide)) tk (ra_cons (re_var 0 (pv 0)) (ra_cons re_int ra_nil)))) (RP.rl re_int)) (rg_nm 3 (pg_name (i := 3) nd rfl (by first | exact Or.inl rfl | exact Or.inr rfl))))
    (rss_cons (rs_asg (re_call G_law_straight (hr.mono (by decide)) tk (ra_cons (re_var 0 (pv 0)) (ra_cons re_int (ra_cons (re_var 1 (pv 1)) ra_nil)))) (rg_nm 4 (pg_name (i := 4) nd rfl (by first | exact Or.inl rfl | exact Or.inr rfl))))
    (rss_cons (rs_if (rt_cp (od_eq hu) (nomark _) (rl_look 3 (pv 3)) (RP.rl re_int))
    (rss_one (rs_asg (re_call G_turned_about (hr.mono (by decide)) tk (ra_cons (re_var 2 (pv 2)) ra_nil)) (rg_nm 4 (pg_name (i := 4) nd rfl (by first | exact Or.inl rfl | exact Or.inr rfl)))))
    rss_nil)
    (rss_cons (rs_if (rt_cp (od_eq hu) (nomark _) (rl_look 3 (pv 3)) (RP.rl re_int))
    (rss_one (rs_asg (RP.re (rn_lc (own := [("_law_one", 15)]) rfl nd (ri_seq (re_var 2 (pv 2))) (blkOk_by (by kernel_rfl)) (fun _ _ _ _ _ => (rg_nm 15 (pg_name (i := 15) nd rfl (by first | exact Or.inl rfl | exact Or.inr rfl)))) (fun _ _ _ _ _ => rts_nil) (fun _ _ _ _ _ => (re_call G_law_parted (hr.mono (by decide)) tk0 (ra_cons (re_var 15 (pv 15)) (ra_cons (re_call G_law_mix (hr.mono (by decide)) tk0 (ra_cons (re_var 0 (pv 0)) (ra_cons re_int ra_nil))) ra_nil)))))) (rg_nm 4 (pg_name (i := 4) nd rfl (by first | exact Or.inl rfl | exact Or.inr rfl)))))
    rss_nil)
    (rss_cons (rs_if (rt_w (rw_and (rt_cp (od_eq hu) (nomark _) (rl_look 3 (pv 3)) (RP.rl re_int)) (rw_and1 (rt_tru (rl_look 2 (pv 2))))))
    (rss_cons (rs_own2 4 (rn2_lc (own := [("_law_one", 15)]) rfl nd (ri_seq (re_var 2 (pv 2))) (blkOk_by (by kernel_rfl)) (fun _ _ _ _ _ => (rg_nm 15 (pg_name (i := 15) nd rfl (by first | exact Or.inl rfl | exact Or.inr rfl)))) (fun _ _ _ _ _ => rts_nil) (fun _ _ _ _ _ => (rp_ty an_N cd_list T.n_list b_list (ral_cons (rl_look 15 (pv 15)) ral_nil)))) (fun h => ps_set (i := 4) nd rfl (by first | exact Or.inl rfl | exact Or.inr rfl) h))
    (rss_cons (rs_asg (re_ix (rl_row 4 (pv 4) (RP.rl re_int)) (RP.rl (re_neg (RP.rl re_int)))) (rg_nm 5 (pg_name (i := 5) nd rfl (by first | exact Or.inl rfl | exact Or.inr rfl))))
    (rss_one (rs_putR 4 (pv 4) (RP.rl re_int) (RP.rl (re_neg (RP.rl re_int))) (re_tup (ra_cons (re_ix (rl_look 5 (pv 5)) (RP.rl re_int)) (ra_cons (re_op od_sub (RP.rl (re_op od_add (RP.rl (re_ix (rl_look 5 (pv 5)) (RP.rl re_int))) (RP.rl (re_op od_mod (RP.rl (re_call G_law_mix (hr.mono (by decide)) tk (ra_cons (re_var 0 (pv 0)) (ra_cons re_int ra_nil)))) (RP.rl re_int))))) (RP.rl re_int)) (ra_cons (re_ix (rl_look 5 (pv 5)) (RP.rl re_int)) ra_nil))))))))
    rss_nil)
    (rss_cons (rs_asg (re_ix (RP.rl (RP.re (rn_lst (ra_cons (re_str e_616e79) (ra_cons (re_str e_6f6464) ra_nil))))) (RP.rl (re_op od_mod (RP.rl (re_call G_law_mix (hr.mono (by decide)) tk (ra_cons (re_var 0 (pv 0)) (ra_cons re_int ra_nil)))) (RP.rl re_int)))) (rg_nm 6 (pg_name (i := 6) nd rfl (by first | exact Or.inl rfl | exact Or.inr rfl))))
    (rss_frz 4 (rss_cons (rs_asg (re_call G_parting (hr.mono (by decide)) tk (ra_cons (RP.re (rn_lc (own := [("_law_one", 15)]) rfl nd (ri_seq (re_var 2 (pv 2))) (blkOk_by (by kernel_rfl)) (fun _ _ _ _ _ => (rg_nm 15 (pg_name (i := 15) nd rfl (by first | exact Or.inl rfl | exact Or.inr rfl)))) (fun _ _ _ _ _ => rts_nil) (fun _ _ _ _ _ => (RP.re (rp_ty an_N cd_list T.n_list b_list (ral_cons (rl_look 15 (pv 15)) ral_nil)))))) (ra_cons (RP.re (rn_lc (own := [("_law_one", 15)]) rfl nd (ri_seq (re_var 4 (pv 4))) (blkOk_by (by kernel_rfl)) (fun _ _ _ _ _ => (rg_nm 15 (pg_name (i := 15) nd rfl (by first | exact Or.inl rfl | exact Or.inr rfl)))) (fun _ _ _ _ _ => rts_nil) (fun _ _ _ _ _ => (RP.re (rp_ty an_N cd_list T.n_list b_list (ral_cons (rl_look 15 (pv 15)) ral_nil)))))) (ra_cons (re_var 6 (pv 6)) ra_nil)))) (rg_nm 7 (pg_name (i := 7) nd rfl (by first | exact Or.inl rfl | exact Or.inr rfl))))
    (rss_cons (rs_if (rt_w (rw_and (rt_cp od_in (by rfl) (rl_look 3 (pv 3)) (RP.rl (re_tup (ra_cons re_int (ra_cons re_int ra_nil))))) (rw_and1 (rt_cp od_notN (nomark _) (rl_look 7 (pv 7)) (RP.rl re_non)))))
    (rss_one (rs_ret re_bl))
    rss_nil)
    (rss_cons (rs_if (rt_cp od_notN (nomark _) (rl_look 7 (pv 7)) (RP.rl re_non))
    (rss_cons (rs_if (rt_w (rw_or (rt_not (rt_val (re_isi .tuple T.n_isinstance b_isinstance T.n_tuple b_tuple (rl_look 7 (pv 7))))) (rw_or (rt_cp (od_ne hu) (nomark _) (RP.rl (rp_fun an_D cd_len T.n_len b_len (ral_cons (rl_look 7 (pv 7)) ral_nil))) (RP.rl re_int)) (rw_or1 (rt_not (rt_val (rp_fun an_D (cd_all rfl) T.n_all b_all (ral_cons (RP.rl (RP.re (rn_lc (own := [("_law_one", 15)]) rfl nd (ri_seq (re_var 7 (pv 7))) (blkOk_by (by kernel_rfl)) (fun _ _ _ _ _ => (rg_nm 15 (pg_name (i := 15) nd rfl (by first | exact Or.inl rfl | exact Or.inr rfl)))) (fun _ _ _ _ _ => rts_nil) (fun _ _ _ _ _ => (re_call G_law_fraction (hr.mono (by decide)) tk0 (ra_cons (re_var 15 (pv 15)) ra_nil)))))) ral_nil))))))))
    (rss_one (rs_ret re_bl))
    rss_nil)
    (rss_cons (rs_asg (re_call G_law_filled (hr.mono (by decide)) tk (ra_cons (re_var 2 (pv 2)) (ra_cons (re_var 7 (pv 7)) (ra_cons (re_var 6 (pv 6)) ra_nil)))) (rg_tup rfl (rgs_cons (rg_nm 8 (pg_name (i := 8) nd rfl (by first | exact Or.inl rfl | exact Or.inr rfl))) (rgs_cons (rg_nm 9 (pg_name (i := 9) nd rfl (by first | exact Or.inl rfl | exact Or.inr rfl))) rgs_nil)) 2 (hl := (len_cons (len_cons (fun _ _ _ h => len_nil h))))))
    (rss_frz 4 (rss_cons (rs_asg (re_call G_law_filled (hr.mono (by decide)) tk (ra_cons (re_var 4 (pv 4)) (ra_cons (re_var 7 (pv 7)) (ra_cons (re_var 6 (pv 6)) ra_nil)))) (rg_tup rfl (rgs_cons (rg_nm 10 (pg_name (i := 10) nd rfl (by first | exact Or.inl rfl | exact Or.inr rfl))) (rgs_cons (rg_nm 11 (pg_name (i := 11) nd rfl (by first | exact Or.inl rfl | exact Or.inr rfl))) rgs_nil)) 2 (hl := (len_cons (len_cons (fun _ _ _ h => len_nil h))))))
    (rss_one (rs_ret (re_and (re_cp (od_ne hu) (nomark _) (rl_look 8 (pv 8)) (rl_look 10 (pv 10))) (re_and (re_notT (rl_look 9 (pv 9))) (re_one (re_notT (rl_look 11 (pv 11))))))))))))
    rss_nil)
    (rss_cons (rs_own 12 (rn_lst ra_nil) (fun h => ps_set (i := 12) nd rfl (by first | exact Or.inl rfl | exact Or.inr rfl) h))
    (rss_cons (rs_for po rfl (ri_rng1 T.n_range (ral_cons (RP.rl re_int) ral_nil)) (rg_nm 13 (pg_name (i := 13) nd rfl (by first | exact Or.inl rfl | exact Or.inr rfl)))
    (rss_cons (rs_asg (re_call G_law_mix (hr.mono (by decide)) tk (ra_cons (re_var 0 (pv 0)) (ra_cons (re_op od_add (RP.rl re_int) (rl_look 13 (pv 13))) ra_nil))) (rg_nm 14 (pg_name (i := 14) nd rfl (by first | exact Or.inl rfl | exact Or.inr rfl))))
    (rss_one (rs_app 12 (pv 12) (re_tup (ra_cons (re_tup (ra_cons (re_op od_sub (RP.rl (re_op od_mod (RP.rl (re_op od_div (rl_look 14 (pv 14)) (RP.rl re_int))) (RP.rl (re_op od_mul (RP.rl re_int) (rl_look 1 (pv 1)))))) (RP.rl (re_op od_mul (RP.rl re_int) (rl_look 1 (pv 1))))) (ra_cons re_int ra_nil))) (ra_cons (re_tup (ra_cons (re_op od_sub (RP.rl (re_op od_mod (RP.rl (re_op od_div (rl_look 14 (pv 14)) (RP.rl re_int))) (RP.rl (re_op od_mul (RP.rl re_int) (rl_look 1 (pv 1)))))) (RP.rl (re_op od_mul (RP.rl re_int) (rl_look 1 (pv 1))))) (ra_cons re_int ra_nil))) ra_nil)))))))
    (rss_frz 4 (rss_frz 12 (rss_one (rs_ret (rp_fun an_D (cd_all rfl) T.n_all b_all (ral_cons (RP.rl (RP.re (rn_lc (own := [("_law_point", 16)]) rfl nd (ri_seq (re_var 12 (pv 12))) (blkOk_by (by kernel_rfl)) (fun _ _ _ _ _ => (rg_nm 16 (pg_name (i := 16) nd rfl (by first | exact Or.inl rfl | exact Or.inr rfl)))) (fun _ _ _ _ _ => rts_nil) (fun _ _ _ _ _ => (re_cp (od_eq hu) (nomark _) (RP.rl (re_ix (RP.rl (re_call G_law_filled (hr.mono (by decide)) tk0 (ra_cons (re_var 2 (pv 2)) (ra_cons (re_var 16 (pv 16)) (ra_cons (re_var 6 (pv 6)) ra_nil))))) (RP.rl re_int))) (RP.rl (re_ix (RP.rl (re_call G_law_filled (hr.mono (by decide)) tk0 (ra_cons (re_var 4 (pv 4)) (ra_cons (re_var 16 (pv 16)) (ra_cons (re_var 6 (pv 6)) ra_nil))))) (RP.rl re_int)))))))) ral_nil))))))))))))))))))))
theorem all_mk {l : PySem.W.OpenLaw} {w : World} {K : Frag} {h : Heap} {mg : Str → Option Value} {fa : Addr} (X : K.In h) (G : h.Ns mainGlobals mg) (hfa : mg "law" = some (.ref fa))
    {C0 : Addr}
    {tk_MOST : Tok}
    {tk_MOST_LINES : Tok}
    {tk_MOST_STEPS : Tok}
    {tk_MOST_WAYS : Tok}
    {p_COUNTS : Addr} {es_COUNTS : Array DictEntry} {n_COUNTS : Nat}
    {tv_COUNTS0 : Tok}
    {tv_COUNTS1 : Tok}
    {tv_COUNTS2 : Tok}
    {f0 : Addr} {od0 an0 : Option Addr} {sl0 : Array (Option Value)} {oc0 kV0 dc0 pm0 cd0 ct0 : Value}
    {f1 : Addr} {od1 an1 : Option Addr} {sl1 : Array (Option Value)} {oc1 kV1 dc1 pm1 cd1 ct1 : Value}
    {f2 : Addr} {od2 an2 : Option Addr} {sl2 : Array (Option Value)} {oc2 kV2 dc2 pm2 cd2 ct2 : Value}
    {f3 : Addr} {od3 an3 : Option Addr} {sl3 : Array (Option Value)} {oc3 kV3 dc3 pm3 cd3 ct3 : Value}
    {f4 : Addr} {od4 an4 : Option Addr} {sl4 : Array (Option Value)} {oc4 kV4 dc4 pm4 cd4 ct4 : Value}
    {f5 : Addr} {od5 an5 : Option Addr} {sl5 : Array (Option Value)} {oc5 kV5 dc5 pm5 cd5 ct5 : Value}
    {f6 : Addr} {od6 an6 : Option Addr} {sl6 : Array (Option Value)} {oc6 kV6 dc6 pm6 cd6 ct6 : Value}
    {f7 : Addr} {od7 an7 : Option Addr} {sl7 : Array (Option Value)} {oc7 kV7 dc7 pm7 cd7 ct7 : Value}
    {f8 : Addr} {od8 an8 : Option Addr} {sl8 : Array (Option Value)} {oc8 kV8 dc8 pm8 cd8 ct8 : Value}
    {f9 : Addr} {od9 an9 : Option Addr} {sl9 : Array (Option Value)} {oc9 kV9 dc9 pm9 cd9 ct9 : Value}
    {f10 : Addr} {od10 an10 : Option Addr} {sl10 : Array (Option Value)} {oc10 kV10 dc10 pm10 cd10 ct10 : Value}
    {f11 : Addr} {od11 an11 : Option Addr} {sl11 : Array (Option Value)} {oc11 kV11 dc11 pm11 cd11 ct11 : Value}
    {f12 : Addr} {od12 an12 : Option Addr} {sl12 : Array (Option Value)} {oc12 kV12 dc12 pm12 cd12 ct12 : Value}
    {f13 : Addr} {od13 an13 : Option Addr} {sl13 : Array (Option Value)} {oc13 kV13 dc13 pm13 cd13 ct13 : Value}
    {f14 : Addr} {od14 an14 : Option Addr} {sl14 : Array (Option Value)} {oc14 kV14 dc14 pm14 cd14 ct14 : Value}
    {f15 : Addr} {od15 an15 : Option Addr} {sl15 : Array (Option Value)} {oc15 kV15 dc15 pm15 cd15 ct15 : Value}
    {f16 : Addr} {od16 an16 : Option Addr} {sl16 : Array (Option Value)} {oc16 kV16 dc16 pm16 cd16 ct16 : Value}
    {f17 : Addr} {od17 an17 : Option Addr} {sl17 : Array (Option Value)} {oc17 kV17 dc17 pm17 cd17 ct17 : Value}
    {f18 : Addr} {od18 an18 : Option Addr} {sl18 : Array (Option Value)} {oc18 kV18 dc18 pm18 cd18 ct18 : Value}
    {f19 : Addr} {od19 an19 : Option Addr} {sl19 : Array (Option Value)} {oc19 kV19 dc19 pm19 cd19 ct19 : Value}
    {f20 : Addr} {od20 an20 : Option Addr} {sl20 : Array (Option Value)} {oc20 kV20 dc20 pm20 cd20 ct20 : Value}
    {f21 : Addr} {od21 an21 : Option Addr} {sl21 : Array (Option Value)} {oc21 kV21 dc21 pm21 cd21 ct21 : Value}
    {f22 : Addr} {od22 an22 : Option Addr} {sl22 : Array (Option Value)} {oc22 kV22 dc22 pm22 cd22 ct22 : Value}
    {f23 : Addr} {od23 an23 : Option Addr} {sl23 : Array (Option Value)} {oc23 kV23 dc23 pm23 cd23 ct23 : Value}
    {f24 : Addr} {od24 an24 : Option Addr} {sl24 : Array (Option Value)} {oc24 kV24 dc24 pm24 cd24 ct24 : Value}
    {f25 : Addr} {od25 an25 : Option Addr} {sl25 : Array (Option Value)} {oc25 kV25 dc25 pm25 cd25 ct25 : Value}
    {f26 : Addr} {od26 an26 : Option Addr} {sl26 : Array (Option Value)} {oc26 kV26 dc26 pm26 cd26 ct26 : Value}
    (ea0 : PySem.W.nsIn K mainGlobals "BadOutline" = some (some (.ref C0)))
    (eq0 : PySem.W.excIn K C0 [.type "ValueError", .type "Exception", .type "BaseException", .type "object"] "ValueError.__new__" = true)
    (ek0 : PySem.W.keepIn K (.ref C0) = true)
    (eb0 : PySem.W.subIn K (.ref C0) (.type "BaseException") = some true)
    (et0 : PySem.W.typeIn K (.ref C0) = some (.type "type"))
    (i_MOST : PySem.W.nsIn K mainGlobals "MOST" = some (some (.int 100000 tk_MOST)))
    (i_MOST_LINES : PySem.W.nsIn K mainGlobals "MOST_LINES" = some (some (.int 20 tk_MOST_LINES)))
    (i_MOST_STEPS : PySem.W.nsIn K mainGlobals "MOST_STEPS" = some (some (.int 200 tk_MOST_STEPS)))
    (i_MOST_WAYS : PySem.W.nsIn K mainGlobals "MOST_WAYS" = some (some (.int 40 tk_MOST_WAYS)))
    (ta_COUNTS : PySem.W.nsIn K mainGlobals "COUNTS" = some (some (.ref p_COUNTS)))
    (tl_COUNTS : K.lookup p_COUNTS = some ⟨.type "dict", none, .dict es_COUNTS n_COUNTS, #[]⟩)
    (tk_COUNTS : PySem.W.KeysLit w.params es_COUNTS.toList)
    (tm_COUNTS : (p_COUNTS == sysModules) = false)
    (tx_COUNTS0 : PySem.W.nsIn K p_COUNTS w_6174 = some (some (.int 3 tv_COUNTS0)))
    (tx_COUNTS1 : PySem.W.nsIn K p_COUNTS w_746f = some (some (.int 3 tv_COUNTS1)))
    (tx_COUNTS2 : PySem.W.nsIn K p_COUNTS w_6279 = some (some (.int 5 tv_COUNTS2)))
    (ty_COUNTS0 : PySem.W.nsIn K p_COUNTS w_746f6f = some none)
    (ty_COUNTS1 : PySem.W.nsIn K p_COUNTS w_nil = some none)
    (n_abs : PySem.W.nsIn K mainGlobals "abs" = some none)
    (n_all : PySem.W.nsIn K mainGlobals "all" = some none)
    (n_any : PySem.W.nsIn K mainGlobals "any" = some none)
    (n_bool : PySem.W.nsIn K mainGlobals "bool" = some none)
    (n_int : PySem.W.nsIn K mainGlobals "int" = some none)
    (n_isinstance : PySem.W.nsIn K mainGlobals "isinstance" = some none)
    (n_len : PySem.W.nsIn K mainGlobals "len" = some none)
    (n_list : PySem.W.nsIn K mainGlobals "list" = some none)
    (n_max : PySem.W.nsIn K mainGlobals "max" = some none)
    (n_min : PySem.W.nsIn K mainGlobals "min" = some none)
    (n_range : PySem.W.nsIn K mainGlobals "range" = some none)
    (n_reversed : PySem.W.nsIn K mainGlobals "reversed" = some none)
    (n_sum : PySem.W.nsIn K mainGlobals "sum" = some none)
    (n_tuple : PySem.W.nsIn K mainGlobals "tuple" = some none)
    (a0 : PySem.W.nsIn K mainGlobals "look_way" = some (some (.ref f0)))
    (l0 : K.lookup f0 = some ⟨oc0, od0, .func (PySem.W.fnOf "look_way" "look_way" (defArgs st_look_way) (defBody st_look_way) (defScope st_look_way) .none kV0 dc0 pm0 an0 cd0 ct0), sl0⟩)
    (c0 : PySem.W.codeIn K cd0 "look_way" = true)
    (k0 : PySem.W.keepIn K (.ref f0) = true)
    (a1 : PySem.W.nsIn K mainGlobals "look_outline" = some (some (.ref f1)))
    (l1 : K.lookup f1 = some ⟨oc1, od1, .func (PySem.W.fnOf "look_outline" "look_outline" (defArgs st_look_outline) (defBody st_look_outline) (defScope st_look_outline) .none kV1 dc1 pm1 an1 cd1 ct1), sl1⟩)
    (c1 : PySem.W.codeIn K cd1 "look_outline" = true)
    (k1 : PySem.W.keepIn K (.ref f1) = true)
    (a2 : PySem.W.nsIn K mainGlobals "pieces_of" = some (some (.ref f2)))
    (l2 : K.lookup f2 = some ⟨oc2, od2, .func (PySem.W.fnOf "pieces_of" "pieces_of" (defArgs st_pieces_of) (defBody st_pieces_of) (defScope st_pieces_of) .none kV2 dc2 pm2 an2 cd2 ct2), sl2⟩)
    (c2 : PySem.W.codeIn K cd2 "pieces_of" = true)
    (k2 : PySem.W.keepIn K (.ref f2) = true)
    (a3 : PySem.W.nsIn K mainGlobals "all_pieces" = some (some (.ref f3)))
    (l3 : K.lookup f3 = some ⟨oc3, od3, .func (PySem.W.fnOf "all_pieces" "all_pieces" (defArgs st_all_pieces) (defBody st_all_pieces) (defScope st_all_pieces) .none kV3 dc3 pm3 an3 cd3 ct3), sl3⟩)
    (c3 : PySem.W.codeIn K cd3 "all_pieces" = true)
    (k3 : PySem.W.keepIn K (.ref f3) = true)
    (a4 : PySem.W.nsIn K mainGlobals "pieces" = some (some (.ref f4)))
    (l4 : K.lookup f4 = some ⟨oc4, od4, .func (PySem.W.fnOf "pieces" "pieces" (defArgs st_pieces) (defBody st_pieces) (defScope st_pieces) .none kV4 dc4 pm4 an4 cd4 ct4), sl4⟩)
    (c4 : PySem.W.codeIn K cd4 "pieces" = true)
    (k4 : PySem.W.keepIn K (.ref f4) = true)
    (a5 : PySem.W.nsIn K mainGlobals "way_of" = some (some (.ref f5)))
    (l5 : K.lookup f5 = some ⟨oc5, od5, .func (PySem.W.fnOf "way_of" "way_of" (defArgs st_way_of) (defBody st_way_of) (defScope st_way_of) .none kV5 dc5 pm5 an5 cd5 ct5), sl5⟩)
    (c5 : PySem.W.codeIn K cd5 "way_of" = true)
    (k5 : PySem.W.keepIn K (.ref f5) = true)
    (a6 : PySem.W.nsIn K mainGlobals "turned_about" = some (some (.ref f6)))
    (l6 : K.lookup f6 = some ⟨oc6, od6, .func (PySem.W.fnOf "turned_about" "turned_about" (defArgs st_turned_about) (defBody st_turned_about) (defScope st_turned_about) .none kV6 dc6 pm6 an6 cd6 ct6), sl6⟩)
    (c6 : PySem.W.codeIn K cd6 "turned_about" = true)
    (k6 : PySem.W.keepIn K (.ref f6) = true)
    (a7 : PySem.W.nsIn K mainGlobals "fraction" = some (some (.ref f7)))
    (l7 : K.lookup f7 = some ⟨oc7, od7, .func (PySem.W.fnOf "fraction" "fraction" (defArgs st_fraction) (defBody st_fraction) (defScope st_fraction) .none kV7 dc7 pm7 an7 cd7 ct7), sl7⟩)
    (c7 : PySem.W.codeIn K cd7 "fraction" = true)
    (k7 : PySem.W.keepIn K (.ref f7) = true)
    (a8 : PySem.W.nsIn K mainGlobals "less" = some (some (.ref f8)))
    (l8 : K.lookup f8 = some ⟨oc8, od8, .func (PySem.W.fnOf "less" "less" (defArgs st_less) (defBody st_less) (defScope st_less) .none kV8 dc8 pm8 an8 cd8 ct8), sl8⟩)
    (c8 : PySem.W.codeIn K cd8 "less" = true)
    (k8 : PySem.W.keepIn K (.ref f8) = true)
    (a9 : PySem.W.nsIn K mainGlobals "between" = some (some (.ref f9)))
    (l9 : K.lookup f9 = some ⟨oc9, od9, .func (PySem.W.fnOf "between" "between" (defArgs st_between) (defBody st_between) (defScope st_between) .none kV9 dc9 pm9 an9 cd9 ct9), sl9⟩)
    (c9 : PySem.W.codeIn K cd9 "between" = true)
    (k9 : PySem.W.keepIn K (.ref f9) = true)
    (a10 : PySem.W.nsIn K mainGlobals "in_order" = some (some (.ref f10)))
    (l10 : K.lookup f10 = some ⟨oc10, od10, .func (PySem.W.fnOf "in_order" "in_order" (defArgs st_in_order) (defBody st_in_order) (defScope st_in_order) .none kV10 dc10 pm10 an10 cd10 ct10), sl10⟩)
    (c10 : PySem.W.codeIn K cd10 "in_order" = true)
    (k10 : PySem.W.keepIn K (.ref f10) = true)
    (a11 : PySem.W.nsIn K mainGlobals "lines_of" = some (some (.ref f11)))
    (l11 : K.lookup f11 = some ⟨oc11, od11, .func (PySem.W.fnOf "lines_of" "lines_of" (defArgs st_lines_of) (defBody st_lines_of) (defScope st_lines_of) .none kV11 dc11 pm11 an11 cd11 ct11), sl11⟩)
    (c11 : PySem.W.codeIn K cd11 "lines_of" = true)
    (k11 : PySem.W.keepIn K (.ref f11) = true)
    (a12 : PySem.W.nsIn K mainGlobals "cross_height" = some (some (.ref f12)))
    (l12 : K.lookup f12 = some ⟨oc12, od12, .func (PySem.W.fnOf "cross_height" "cross_height" (defArgs st_cross_height) (defBody st_cross_height) (defScope st_cross_height) .none kV12 dc12 pm12 an12 cd12 ct12), sl12⟩)
    (c12 : PySem.W.codeIn K cd12 "cross_height" = true)
    (k12 : PySem.W.keepIn K (.ref f12) = true)
    (a13 : PySem.W.nsIn K mainGlobals "heights" = some (some (.ref f13)))
    (l13 : K.lookup f13 = some ⟨oc13, od13, .func (PySem.W.fnOf "heights" "heights" (defArgs st_heights) (defBody st_heights) (defScope st_heights) .none kV13 dc13 pm13 an13 cd13 ct13), sl13⟩)
    (c13 : PySem.W.codeIn K cd13 "heights" = true)
    (k13 : PySem.W.keepIn K (.ref f13) = true)
    (a14 : PySem.W.nsIn K mainGlobals "crossings" = some (some (.ref f14)))
    (l14 : K.lookup f14 = some ⟨oc14, od14, .func (PySem.W.fnOf "crossings" "crossings" (defArgs st_crossings) (defBody st_crossings) (defScope st_crossings) .none kV14 dc14 pm14 an14 cd14 ct14), sl14⟩)
    (c14 : PySem.W.codeIn K cd14 "crossings" = true)
    (k14 : PySem.W.keepIn K (.ref f14) = true)
    (a15 : PySem.W.nsIn K mainGlobals "is_filled" = some (some (.ref f15)))
    (l15 : K.lookup f15 = some ⟨oc15, od15, .func (PySem.W.fnOf "is_filled" "is_filled" (defArgs st_is_filled3) (defBody st_is_filled3) (defScope st_is_filled3) .none kV15 dc15 pm15 an15 cd15 ct15), sl15⟩)
    (c15 : PySem.W.codeIn K cd15 "is_filled" = true)
    (k15 : PySem.W.keepIn K (.ref f15) = true)
    (a16 : PySem.W.nsIn K mainGlobals "parting" = some (some (.ref f16)))
    (l16 : K.lookup f16 = some ⟨oc16, od16, .func (PySem.W.fnOf "parting" "parting" (defArgs st_parting) (defBody st_parting) (defScope st_parting) .none kV16 dc16 pm16 an16 cd16 ct16), sl16⟩)
    (c16 : PySem.W.codeIn K cd16 "parting" = true)
    (k16 : PySem.W.keepIn K (.ref f16) = true)
    (a17 : PySem.W.nsIn K mainGlobals "_law_cell" = some (some (.ref f17)))
    (l17 : K.lookup f17 = some ⟨oc17, od17, .func (PySem.W.fnOf "_law_cell" "_law_cell" (defArgs st_law_cell) (defBody st_law_cell) (defScope st_law_cell) .none kV17 dc17 pm17 an17 cd17 ct17), sl17⟩)
    (c17 : PySem.W.codeIn K cd17 "_law_cell" = true)
    (k17 : PySem.W.keepIn K (.ref f17) = true)
    (a18 : PySem.W.nsIn K mainGlobals "_law_mix" = some (some (.ref f18)))
    (l18 : K.lookup f18 = some ⟨oc18, od18, .func (PySem.W.fnOf "_law_mix" "_law_mix" (defArgs st_law_mix) (defBody st_law_mix) (defScope st_law_mix) .none kV18 dc18 pm18 an18 cd18 ct18), sl18⟩)
    (c18 : PySem.W.codeIn K cd18 "_law_mix" = true)
    (k18 : PySem.W.keepIn K (.ref f18) = true)
    (a19 : PySem.W.nsIn K mainGlobals "_law_whole" = some (some (.ref f19)))
    (l19 : K.lookup f19 = some ⟨oc19, od19, .func (PySem.W.fnOf "_law_whole" "_law_whole" (defArgs st_law_whole) (defBody st_law_whole) (defScope st_law_whole) .none kV19 dc19 pm19 an19 cd19 ct19), sl19⟩)
    (c19 : PySem.W.codeIn K cd19 "_law_whole" = true)
    (k19 : PySem.W.keepIn K (.ref f19) = true)
    (a20 : PySem.W.nsIn K mainGlobals "_law_number" = some (some (.ref f20)))
    (l20 : K.lookup f20 = some ⟨oc20, od20, .func (PySem.W.fnOf "_law_number" "_law_number" (defArgs st_law_number) (defBody st_law_number) (defScope st_law_number) .none kV20 dc20 pm20 an20 cd20 ct20), sl20⟩)
    (c20 : PySem.W.codeIn K cd20 "_law_number" = true)
    (k20 : PySem.W.keepIn K (.ref f20) = true)
    (a21 : PySem.W.nsIn K mainGlobals "_law_pieces" = some (some (.ref f21)))
    (l21 : K.lookup f21 = some ⟨oc21, od21, .func (PySem.W.fnOf "_law_pieces" "_law_pieces" (defArgs st_law_pieces) (defBody st_law_pieces) (defScope st_law_pieces) .none kV21 dc21 pm21 an21 cd21 ct21), sl21⟩)
    (c21 : PySem.W.codeIn K cd21 "_law_pieces" = true)
    (k21 : PySem.W.keepIn K (.ref f21) = true)
    (a22 : PySem.W.nsIn K mainGlobals "_law_straight" = some (some (.ref f22)))
    (l22 : K.lookup f22 = some ⟨oc22, od22, .func (PySem.W.fnOf "_law_straight" "_law_straight" (defArgs st_law_straight) (defBody st_law_straight) (defScope st_law_straight) .none kV22 dc22 pm22 an22 cd22 ct22), sl22⟩)
    (c22 : PySem.W.codeIn K cd22 "_law_straight" = true)
    (k22 : PySem.W.keepIn K (.ref f22) = true)
    (a23 : PySem.W.nsIn K mainGlobals "_law_filled" = some (some (.ref f23)))
    (l23 : K.lookup f23 = some ⟨oc23, od23, .func (PySem.W.fnOf "_law_filled" "_law_filled" (defArgs st_law_filled) (defBody st_law_filled) (defScope st_law_filled) .none kV23 dc23 pm23 an23 cd23 ct23), sl23⟩)
    (c23 : PySem.W.codeIn K cd23 "_law_filled" = true)
    (k23 : PySem.W.keepIn K (.ref f23) = true)
    (a24 : PySem.W.nsIn K mainGlobals "_law_parted" = some (some (.ref f24)))
    (l24 : K.lookup f24 = some ⟨oc24, od24, .func (PySem.W.fnOf "_law_parted" "_law_parted" (defArgs st_law_parted) (defBody st_law_parted) (defScope st_law_parted) .none kV24 dc24 pm24 an24 cd24 ct24), sl24⟩)
    (c24 : PySem.W.codeIn K cd24 "_law_parted" = true)
    (k24 : PySem.W.keepIn K (.ref f24) = true)
    (a25 : PySem.W.nsIn K mainGlobals "_law_fraction" = some (some (.ref f25)))
    (l25 : K.lookup f25 = some ⟨oc25, od25, .func (PySem.W.fnOf "_law_fraction" "_law_fraction" (defArgs st_law_fraction) (defBody st_law_fraction) (defScope st_law_fraction) .none kV25 dc25 pm25 an25 cd25 ct25), sl25⟩)
    (c25 : PySem.W.codeIn K cd25 "_law_fraction" = true)
    (k25 : PySem.W.keepIn K (.ref f25) = true)
    (a26 : PySem.W.nsIn K mainGlobals "law" = some (some (.ref f26)))
    (l26 : K.lookup f26 = some ⟨oc26, od26, .func (PySem.W.fnOf "law" "law" (defArgs st_law) (defBody st_law) (defScope st_law) .none kV26 dc26 pm26 an26 cd26 ct26), sl26⟩)
    (c26 : PySem.W.codeIn K cd26 "law" = true)
    (k26 : PySem.W.keepIn K (.ref f26) = true)
    : ∃ fd : FuncData, (∀ (s : Shared) (v : Value), BindsTo s fd ⟨[v], []⟩ [("_law_script", v)]) ∧ ∀ base : Heap, K.In base → base.Ns mainGlobals mg → FnOk l.prog w K mg base CX0 6 fa fd ["_law_script"] (spLaw K) := by
  have e := hfa.symm.trans (PySem.W.mg_of X G a26)
  cases e
  let cv : Nat → Addr := fun k => match k with | 0 => C0 | _ => 0
  have T : Tx K w mg cv := {
    n_abs := PySem.W.mg_none_of X G n_abs
    n_all := PySem.W.mg_none_of X G n_all
    n_any := PySem.W.mg_none_of X G n_any
    n_bool := PySem.W.mg_none_of X G n_bool
    n_int := PySem.W.mg_none_of X G n_int
    n_isinstance := PySem.W.mg_none_of X G n_isinstance
    n_len := PySem.W.mg_none_of X G n_len
    n_list := PySem.W.mg_none_of X G n_list
    n_max := PySem.W.mg_none_of X G n_max
    n_min := PySem.W.mg_none_of X G n_min
    n_range := PySem.W.mg_none_of X G n_range
    n_reversed := PySem.W.mg_none_of X G n_reversed
    n_sum := PySem.W.mg_none_of X G n_sum
    n_tuple := PySem.W.mg_none_of X G n_tuple
    i_MOST := ⟨_, PySem.W.mg_of X G i_MOST⟩
    i_MOST_LINES := ⟨_, PySem.W.mg_of X G i_MOST_LINES⟩
    i_MOST_STEPS := ⟨_, PySem.W.mg_of X G i_MOST_STEPS⟩
    i_MOST_WAYS := ⟨_, PySem.W.mg_of X G i_MOST_WAYS⟩
    e_BadOutline := ⟨eq0, PySem.W.mg_of X G ea0, ek0, eb0, et0⟩
    t_COUNTS := by
      have rel0 := (relI : RelO _ (some (.int 3 tv_COUNTS0)))
      refine ⟨_, PySem.W.mg_of X G ta_COUNTS, ⟨_, _, es_COUNTS, n_COUNTS, tl_COUNTS, tk_COUNTS, tm_COUNTS, _, tx_COUNTS0, rel0⟩, ?_⟩
      refine tab_of tl_COUNTS tk_COUNTS tm_COUNTS ?_
      exact ⟨⟨_, tx_COUNTS0, relI⟩, (fun _ e => by cases e; rfl), ⟨⟨_, tx_COUNTS1, relI⟩, (fun _ e => by cases e; rfl), ⟨⟨_, tx_COUNTS2, relI⟩, (fun _ e => by cases e; rfl), ⟨⟨_, ty_COUNTS0, relN⟩, (fun _ e => nomatch e), ⟨⟨_, ty_COUNTS1, relN⟩, (fun _ e => nomatch e), trivial⟩⟩⟩⟩⟩
  }
  have F0 := fun_mk (st := st_look_way) l0 c0 k0
  have F1 := fun_mk (st := st_look_outline) l1 c1 k1
  have F2 := fun_mk (st := st_pieces_of) l2 c2 k2
  have F3 := fun_mk (st := st_all_pieces) l3 c3 k3
  have F4 := fun_mk (st := st_pieces) l4 c4 k4
  have F5 := fun_mk (st := st_way_of) l5 c5 k5
  have F6 := fun_mk (st := st_turned_about) l6 c6 k6
  have F7 := fun_mk (st := st_fraction) l7 c7 k7
  have F8 := fun_mk (st := st_less) l8 c8 k8
  have F9 := fun_mk (st := st_between) l9 c9 k9
  have F10 := fun_mk (st := st_in_order) l10 c10 k10
  have F11 := fun_mk (st := st_lines_of) l11 c11 k11
  have F12 := fun_mk (st := st_cross_height) l12 c12 k12
  have F13 := fun_mk (st := st_heights) l13 c13 k13
  have F14 := fun_mk (st := st_crossings) l14 c14 k14
  have F15 := fun_mk (st := st_is_filled3) l15 c15 k15
  have F16 := fun_mk (st := st_parting) l16 c16 k16
  have F17 := fun_mk (st := st_law_cell) l17 c17 k17
  have F18 := fun_mk (st := st_law_mix) l18 c18 k18
  have F19 := fun_mk (st := st_law_whole) l19 c19 k19
  have F20 := fun_mk (st := st_law_number) l20 c20 k20
  have F21 := fun_mk (st := st_law_pieces) l21 c21 k21
  have F22 := fun_mk (st := st_law_straight) l22 c22 k22
  have F23 := fun_mk (st := st_law_filled) l23 c23 k23
  have F24 := fun_mk (st := st_law_parted) l24 c24 k24
  have F25 := fun_mk (st := st_law_fraction) l25 c25 k25
  have F26 := fun_mk (st := st_law) l26 c26 k26
  refine ⟨PySem.W.fnOf "law" "law" (defArgs st_law) (defBody st_law) (defScope st_law) .none kV26 dc26 pm26 an26 cd26 ct26, fun s v => .of_eq rfl, fun base _ _ => ?_⟩
  have G_look_way := ok_look_way (P := l.prog) (w := w) (base := base) (cv := cv) T F0 (PySem.W.mg_of X G a0) 
  have G_look_outline := ok_look_outline (P := l.prog) (w := w) (base := base) (cv := cv) T F1 (PySem.W.mg_of X G a1) G_look_way
  have G_pieces_of := ok_pieces_of (P := l.prog) (w := w) (base := base) (cv := cv) T F2 (PySem.W.mg_of X G a2) 
  have G_all_pieces := ok_all_pieces (P := l.prog) (w := w) (base := base) (cv := cv) T F3 (PySem.W.mg_of X G a3) G_pieces_of
  have G_pieces := ok_pieces (P := l.prog) (w := w) (base := base) (cv := cv) T F4 (PySem.W.mg_of X G a4) G_all_pieces G_look_outline
  have G_way_of := ok_way_of (P := l.prog) (w := w) (base := base) (cv := cv) T F5 (PySem.W.mg_of X G a5) 
  have G_turned_about := ok_turned_about (P := l.prog) (w := w) (base := base) (cv := cv) T F6 (PySem.W.mg_of X G a6) G_look_outline G_pieces_of G_way_of
  have G_fraction := ok_fraction (P := l.prog) (w := w) (base := base) (cv := cv) T F7 (PySem.W.mg_of X G a7) 
  have G_less := ok_less (P := l.prog) (w := w) (base := base) (cv := cv) T F8 (PySem.W.mg_of X G a8) 
  have G_between := ok_between (P := l.prog) (w := w) (base := base) (cv := cv) T F9 (PySem.W.mg_of X G a9) G_fraction
  have G_in_order := ok_in_order (P := l.prog) (w := w) (base := base) (cv := cv) T F10 (PySem.W.mg_of X G a10) G_less
  have G_lines_of := ok_lines_of (P := l.prog) (w := w) (base := base) (cv := cv) T F11 (PySem.W.mg_of X G a11) G_pieces
  have G_cross_height := ok_cross_height (P := l.prog) (w := w) (base := base) (cv := cv) T F12 (PySem.W.mg_of X G a12) G_fraction
  have G_heights := ok_heights (P := l.prog) (w := w) (base := base) (cv := cv) T F13 (PySem.W.mg_of X G a13) G_cross_height G_in_order
  have G_crossings := ok_crossings (P := l.prog) (w := w) (base := base) (cv := cv) T F14 (PySem.W.mg_of X G a14) G_fraction G_less
  have G_is_filled3 := ok_is_filled3 (P := l.prog) (w := w) (base := base) (cv := cv) T F15 (PySem.W.mg_of X G a15) G_less
  have G_parting := ok_parting (P := l.prog) (w := w) (base := base) (cv := cv) T F16 (PySem.W.mg_of X G a16) G_between G_crossings G_heights G_in_order G_is_filled3 G_lines_of G_pieces
  have G_law_cell := ok_law_cell (P := l.prog) (w := w) (base := base) (cv := cv) T F17 (PySem.W.mg_of X G a17) 
  have G_law_mix := ok_law_mix (P := l.prog) (w := w) (base := base) (cv := cv) T F18 (PySem.W.mg_of X G a18) G_law_cell
  have G_law_whole := ok_law_whole (P := l.prog) (w := w) (base := base) (cv := cv) T F19 (PySem.W.mg_of X G a19) 
  have G_law_number := ok_law_number (P := l.prog) (w := w) (base := base) (cv := cv) T F20 (PySem.W.mg_of X G a20) G_law_mix
  have G_law_pieces := ok_law_pieces (P := l.prog) (w := w) (base := base) (cv := cv) T F21 (PySem.W.mg_of X G a21) 
  have G_law_straight := ok_law_straight (P := l.prog) (w := w) (base := base) (cv := cv) T F22 (PySem.W.mg_of X G a22) G_law_mix G_law_number
  have G_law_filled := ok_law_filled (P := l.prog) (w := w) (base := base) (cv := cv) T F23 (PySem.W.mg_of X G a23) G_law_pieces
  have G_law_parted := ok_law_parted (P := l.prog) (w := w) (base := base) (cv := cv) T F24 (PySem.W.mg_of X G a24) 
  have G_law_fraction := ok_law_fraction (P := l.prog) (w := w) (base := base) (cv := cv) T F25 (PySem.W.mg_of X G a25) G_law_whole
  exact ok_law T F26 G_law_filled G_law_fraction G_law_mix G_law_parted G_law_straight G_parting G_turned_about
end Gy.k60
open PySem PySem.W PyProof.Rows
set_option maxHeartbeats 0 in
theorem PySem.Challenge.cw_glyphyard_k60_whole_parting_holds : PySem.Challenge.rw_glyphyard_k60_whole_parting.Holds := by
  w_on; o_law; k_head; (case hw => w_witness2)
  k_fill
  refine L2.walk_of (l := PySem.Challenge.rw_glyphyard_k60_whole_parting) (n := 63) (k := 6) (x := "_law_script") (CX := fun _ => L2.CX0) (sp := fun w => Gy.spLaw _) rfl (by decide) rfl ⟨rfl, by decide, by decide⟩ (fun w h Y => PySem.W.kIn_of Y) ?F (fun _ _ a ns hl _ hS => ⟨a, ns, rfl, hS, hl, fun _ => rfl⟩) (fun _ _ _ _ _ h => h)
  case F =>
    intro w mg fa h KX G hmg
    refine' Gy.k60.all_mk KX G hmg ?ea0 ?eq0 ?ek0 ?eb0 ?et0 ?i_MOST ?i_MOST_LINES ?i_MOST_STEPS ?i_MOST_WAYS ?ta_COUNTS ?tl_COUNTS ?tk_COUNTS ?tm_COUNTS ?tx_COUNTS0 ?tx_COUNTS1 ?tx_COUNTS2 ?ty_COUNTS0 ?ty_COUNTS1 ?n_abs ?n_all ?n_any ?n_bool ?n_int ?n_isinstance ?n_len ?n_list ?n_max ?n_min ?n_range ?n_reversed ?n_sum ?n_tuple ?a0 ?l0 ?c0 ?k0 ?a1 ?l1 ?c1 ?k1 ?a2 ?l2 ?c2 ?k2 ?a3 ?l3 ?c3 ?k3 ?a4 ?l4 ?c4 ?k4 ?a5 ?l5 ?c5 ?k5 ?a6 ?l6 ?c6 ?k6 ?a7 ?l7 ?c7 ?k7 ?a8 ?l8 ?c8 ?k8 ?a9 ?l9 ?c9 ?k9 ?a10 ?l10 ?c10 ?k10 ?a11 ?l11 ?c11 ?k11 ?a12 ?l12 ?c12 ?k12 ?a13 ?l13 ?c13 ?k13 ?a14 ?l14 ?c14 ?k14 ?a15 ?l15 ?c15 ?k15 ?a16 ?l16 ?c16 ?k16 ?a17 ?l17 ?c17 ?k17 ?a18 ?l18 ?c18 ?k18 ?a19 ?l19 ?c19 ?k19 ?a20 ?l20 ?c20 ?k20 ?a21 ?l21 ?c21 ?k21 ?a22 ?l22 ?c22 ?k22 ?a23 ?l23 ?c23 ?k23 ?a24 ?l24 ?c24 ?k24 ?a25 ?l25 ?c25 ?k25 ?a26 ?l26 ?c26 ?k26
    (case ea0 => k_is)
    (case eq0 => k_exc)
    (case ek0 => k_is)
    (case eb0 => k_is)
    (case et0 => k_is)
    (case i_MOST => k_is)
    (case i_MOST_LINES => k_is)
    (case i_MOST_STEPS => k_is)
    (case i_MOST_WAYS => k_is)
    (case ta_COUNTS => k_is)
    (case tl_COUNTS => k_is)
    (case tk_COUNTS => repeat (first | exact trivial | refine ⟨⟨_, _, rfl, rfl⟩, ?_⟩))
    (case tm_COUNTS => first | rfl | decide +kernel)
    (case tx_COUNTS0 => k_is)
    (case tx_COUNTS1 => k_is)
    (case tx_COUNTS2 => k_is)
    (case ty_COUNTS0 => k_is)
    (case ty_COUNTS1 => k_is)
    (case n_abs => k_is)
    (case n_all => k_is)
    (case n_any => k_is)
    (case n_bool => k_is)
    (case n_int => k_is)
    (case n_isinstance => k_is)
    (case n_len => k_is)
    (case n_list => k_is)
    (case n_max => k_is)
    (case n_min => k_is)
    (case n_range => k_is)
    (case n_reversed => k_is)
    (case n_sum => k_is)
    (case n_tuple => k_is)
    (case a0 => k_is)
    (case l0 => k_is)
    (case c0 => k_is)
    (case k0 => k_is)
    (case a1 => k_is)
    (case l1 => k_is)
    (case c1 => k_is)
    (case k1 => k_is)
    (case a2 => k_is)
    (case l2 => k_is)
    (case c2 => k_is)
    (case k2 => k_is)
    (case a3 => k_is)
    (case l3 => k_is)
    (case c3 => k_is)
    (case k3 => k_is)
    (case a4 => k_is)
    (case l4 => k_is)
    (case c4 => k_is)
    (case k4 => k_is)
    (case a5 => k_is)
    (case l5 => k_is)
    (case c5 => k_is)
    (case k5 => k_is)
    (case a6 => k_is)
    (case l6 => k_is)
    (case c6 => k_is)
    (case k6 => k_is)
    (case a7 => k_is)
    (case l7 => k_is)
    (case c7 => k_is)
    (case k7 => k_is)
    (case a8 => k_is)
    (case l8 => k_is)
    (case c8 => k_is)
    (case k8 => k_is)
    (case a9 => k_is)
    (case l9 => k_is)
    (case c9 => k_is)
    (case k9 => k_is)
    (case a10 => k_is)
    (case l10 => k_is)
    (case c10 => k_is)
    (case k10 => k_is)
    (case a11 => k_is)
    (case l11 => k_is)
    (case c11 => k_is)
    (case k11 => k_is)
    (case a12 => k_is)
    (case l12 => k_is)
    (case c12 => k_is)
    (case k12 => k_is)
    (case a13 => k_is)
    (case l13 => k_is)
    (case c13 => k_is)
    (case k13 => k_is)
    (case a14 => k_is)
    (case l14 => k_is)
    (case c14 => k_is)
    (case k14 => k_is)
    (case a15 => k_is)
    (case l15 => k_is)
    (case c15 => k_is)
    (case k15 => k_is)
    (case a16 => k_is)
    (case l16 => k_is)
    (case c16 => k_is)
    (case k16 => k_is)
    (case a17 => k_is)
    (case l17 => k_is)
    (case c17 => k_is)
    (case k17 => k_is)
    (case a18 => k_is)
    (case l18 => k_is)
    (case c18 => k_is)
    (case k18 => k_is)
    (case a19 => k_is)
    (case l19 => k_is)
    (case c19 => k_is)
    (case k19 => k_is)
    (case a20 => k_is)
    (case l20 => k_is)
    (case c20 => k_is)
    (case k20 => k_is)
    (case a21 => k_is)
    (case l21 => k_is)
    (case c21 => k_is)
    (case k21 => k_is)
    (case a22 => k_is)
    (case l22 => k_is)
    (case c22 => k_is)
    (case k22 => k_is)
    (case a23 => k_is)
    (case l23 => k_is)
    (case c23 => k_is)
    (case k23 => k_is)
    (case a24 => k_is)
    (case l24 => k_is)
    (case c24 => k_is)
    (case k24 => k_is)
    (case a25 => k_is)
    (case l25 => k_is)
    (case c25 => k_is)
    (case k25 => k_is)
    (case a26 => k_is)
    (case l26 => k_is)
    (case c26 => k_is)
    (case k26 => k_is)

end
