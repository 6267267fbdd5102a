import PyProof.Rows.All
import PySem.Str
import Wide.All
import OpenK.AllK
import Wide.FinOn
import HandS.ForExc
import HandS.TryMany
import HandS.Gcd
import HandS.Wide
import HandS.CallSlots
import KE.KOpsOwn
import PyProof.ListMulRight
import PyProof.InstNe
import HandS.Style
import HandS.IsInst
import KE.KIsAll
import HandS.Text
import HandS.Property
import HandS.SlotsOwn
import HandS.SortInts
import HandS.TupAny
import HandS.Small
import HandS.FStr
import HandS.More
import HandS.Defaults
import KE.KExcIs
import HandS.ExcIs
import HandS.ExcField
import KE.KStateDown
import HandS.Head0
import HandS.Head1
import HandS.Head2
import HandS.Head3
import HandS.HeadEnd
import HandS.HeadHook1
import HandS.HeadHook2
import HandS.Codes
import HandS.EndBits
import PyProof.FitsInt
import PySem.Challenge.RW_beatswatched_k00_ratios_told
section
set_option linter.all false
/-! VLcore: plain data, readings of the value layer (no heap, no model). -/
namespace VL
open PySem

/-- data -/
inductive D where
  | non | bl (b : Bool) | int (i : Int) | str (x : Str)
  | lst (xs : List D) | tup (xs : List D)
  | obj (c : Nat) (xs : List D)
  | cls (c : Nat)
  /-- the law's argument -/
  | scr (ns : List Int)
/-- what an expression gives: frozen data, or a list of one's own -/
inductive R where
  | fz (d : D) | own (xs : List D)
def R.d : R → D
  | .fz d => d
  | .own xs => .lst xs
@[simp] theorem R.d_fz (d : D) : (R.fz d).d = d := rfl
@[simp] theorem R.d_own (xs : List D) : (R.own xs).d = .lst xs := rfl
/-- what a slot holds -/
inductive Sl where
  | fz (d : D) | own (xs : List D) | lent (xs : List D) | ob (c : Nat) (xs : List D) | exc (c : Nat) (xs : List D)
/-- one's own: no other slot has it -/
def Sl.mine : Sl → Bool
  | .own _ => true
  | .ob _ _ => true
  | _ => false
def R.s : R → Sl
  | .fz d => .fz d
  | .own xs => .own xs
/-- a slot, only read -/
def Sl.b : Sl → Option D
  | .fz d => some d
  | .own xs => some (.lst xs)
  | .lent xs => some (.lst xs)
  | .ob c xs => some (.obj c xs)
  | .exc _ _ => none
abbrev Fr := List (Option Sl)
/-- an exception: its class, its fields -/
structure Xd where
  c : Nat
  xs : List D
abbrev QR := R → Prop
abbrev QX := Xd → Prop
abbrev EW := Fr → QR → QX → Prop
abbrev BW := Fr → (D → Prop) → QX → Prop
abbrev TW := Fr → (Bool → Prop) → QX → Prop
abbrev AW := Fr → (List D → Prop) → QX → Prop
structure Ko where
  nx : Fr → Prop
  rt : R → Prop
  xq : Xd → Fr → Prop
  bk : Fr → Prop := fun _ => False
  ct : Fr → Prop := fun _ => False
abbrev SW := Ko → Fr → Prop
/-- a def's spec -/
abbrev FS := List D → QR → QX → Prop

/-! ### expressions -/
def seqOf : D → Option (List D)
  | .lst ds => some ds
  | .tup ds => some ds
  | _ => none
def wVar (i : Nat) : EW := fun δ Q _ => match δ[i]? with
  | some (some (.fz d)) => Q (.fz d)
  | _ => False
def wLit (d : D) : EW := fun _ Q _ => Q (.fz d)
/-- a name, only read -/
def bVar (i : Nat) : BW := fun δ Q _ => match δ[i]? with
  | some (some s) => (match s.b with
    | some d => Q d
    | none => False)
  | _ => False
/-- the same, but for an instance that is being made -/
def lVar (i : Nat) : BW := fun δ Q _ => match δ[i]? with
  | some (some s) => (match s with
    | .fz d => Q d
    | .own xs => Q (.lst xs)
    | .lent xs => Q (.lst xs)
    | _ => False)
  | _ => False
def bOf (t : EW) : BW := fun δ Q X => t δ (fun r => Q r.d) X
/-- a two-place operation on data -/
abbrev Op2 := D → D → QR → QX → Prop
abbrev Op1 := D → QR → QX → Prop
def wBin (op : Op2) (ta tb : EW) : EW := fun δ Q X => ta δ (fun r => tb δ (fun s => op r.d s.d Q X) X) X
def wUn (op : Op1) (ta : EW) : EW := fun δ Q X => ta δ (fun r => op r.d Q X) X
/-- both operands only read -/
def wBinB (op : Op2) (ta tb : BW) : EW := fun δ Q X => ta δ (fun d => tb δ (fun e => op d e Q X) X) X
def wUnB (op : Op1) (ta : BW) : EW := fun δ Q X => ta δ (fun d => op d Q X) X
/-- arguments -/
def aNil : AW := fun _ Q _ => Q []
def aCons (ta : EW) (tr : AW) : AW := fun δ Q X => ta δ (fun r => tr δ (fun ds => Q (r.d :: ds)) X) X
def aConsB (ta : BW) (tr : AW) : AW := fun δ Q X => ta δ (fun d => (seqOf d).isSome = true ∧ tr δ (fun ds => Q (d :: ds)) X) X
/-- attributes: by the class, where the field stands; a constant of the class; a property; a method -/
def wFld (tb : List (Nat × Nat)) (u : BW) : EW := fun δ Q X => u δ (fun d => match d with
  | .obj c xs => (match tb.lookup c with
    | some i => (match xs[i]? with
      | some v => Q (.fz v)
      | none => False)
    | none => False)
  | _ => False) X
def wCon (tb : List (Nat × D)) (u : BW) : EW := fun δ Q X => u δ (fun d => match d with
  | .obj c _ => (match tb.lookup c with
    | some v => Q (.fz v)
    | none => False)
  | _ => False) X
def wProp (c0 : Nat) (sp : FS) (t : EW) : EW := fun δ Q X => t δ (fun r => match r.d with
  | .obj c xs => c = c0 ∧ sp [.obj c xs] Q (fun _ => False)
  | _ => False) X
def wMeth (c0 : Nat) (sp : FS) (dv : List D) (t : EW) (ta : AW) : EW := fun δ Q X => t δ (fun r => match r.d with
  | .obj c xs => c = c0 ∧ ta δ (fun ds => sp (.obj c xs :: (ds ++ dv)) Q X) X
  | _ => False) X
/-- a call: the written arguments, then the defaults -/
def wCall (sp : FS) (dv : List D) (ta : AW) : EW := fun δ Q X => ta δ (fun ds => sp (ds ++ dv) Q X) X
/-- a display -/
def wTup (ta : AW) : EW := fun δ Q X => ta δ (fun ds => Q (.fz (.tup ds))) X
def wLst (ta : AW) : EW := fun δ Q X => ta δ (fun ds => Q (.own ds)) X
/-! ### tests -/
def tru : D → Option Bool
  | .non => some false
  | .bl b => some b
  | .int i => some (i != 0)
  | .str x => some ((x.length : Int) != 0)
  | .lst ds => some (!ds.isEmpty)
  | .tup ds => some (!ds.isEmpty)
  | _ => none
def D.short : D → Prop
  | .str x => x.length ≤ 16777216
  | _ => True
def cOfB (t : BW) : TW := fun δ Q X => t δ (fun d => match tru d with
  | some b => d.short ∧ Q b
  | none => False) X
def cOf (t : EW) : TW := cOfB (bOf t)
/-- a comparison's answer -/
def cBl (t : EW) : TW := fun δ Q X => t δ (fun r => match r.d with
  | .bl b => Q b
  | _ => False) X
def cAnd (t u : TW) : TW := fun δ Q X => t δ (fun b => if b = true then u δ Q X else Q false) X
def cOr (t u : TW) : TW := fun δ Q X => t δ (fun b => if b = true then Q true else u δ Q X) X
def cNot (t : TW) : TW := fun δ Q X => t δ (fun b => Q (!b)) X
/-- and, or, not as values (of truth values) -/
def wAnd (t u : EW) : EW := fun δ Q X => t δ (fun r => match r.d with
  | .bl b => if b = true then u δ Q X else Q (.fz (.bl false))
  | _ => False) X
def wOr (t u : EW) : EW := fun δ Q X => t δ (fun r => match r.d with
  | .bl b => if b = true then Q (.fz (.bl true)) else u δ Q X
  | _ => False) X
def wNot (t : EW) : EW := fun δ Q X => t δ (fun r => match r.d with
  | .bl b => Q (.fz (.bl (!b)))
  | _ => False) X
/-- a op b op' c -/
def wChain (op op' : Op2) (ta tb tc : EW) : EW := fun δ Q X => ta δ (fun r => tb δ (fun s => op r.d s.d (fun z => match z.d with
  | .bl b => if b = true then tc δ (fun u => op' s.d u.d Q X) X else Q (.fz (.bl false))
  | _ => False) X) X) X
def wIte (c : TW) (t u : EW) : EW := fun δ Q X => c δ (fun b => if b = true then t δ Q X else u δ Q X) X
/-! ### statements -/
def sNext : SW := fun k δ => k.nx δ
def sBrk : SW := fun k δ => k.bk δ
def sCont : SW := fun k δ => k.ct δ
def sSeq (t u : SW) : SW := fun k δ => t { k with nx := fun δ' => u k δ' } δ
/-- x = e, the value frozen -/
def sSet (i : Nat) (t : EW) : SW := fun k δ => t δ (fun r => k.nx (δ.set i (some (.fz r.d)))) (fun x => k.xq x δ)
/-- x = e, a new list kept as one's own -/
def sOwn (i : Nat) (t : EW) : SW := fun k δ => t δ (fun r => k.nx (δ.set i (some r.s))) (fun x => k.xq x δ)
/-- a list of one's own is frozen (no step of the program) -/
def Fr.frz (δ : Fr) (i : Nat) : Fr := match δ[i]? with
  | some (some (.own xs)) => δ.set i (some (.fz (.lst xs)))
  | _ => δ
def sFreeze (i : Nat) (t : SW) : SW := fun k δ => t k (δ.frz i)
/-- code that is never come to -/
def sNever : SW := fun _ _ => False
def sDrop (t : EW) : SW := fun k δ => t δ (fun _ => k.nx δ) (fun x => k.xq x δ)
def sRet (t : EW) : SW := fun k δ => t δ k.rt (fun x => k.xq x δ)
def sRetN : SW := fun k _ => k.rt (.fz .non)
/-- return x, x a list of one's own that is handed over -/
def sRetO (i : Nat) : SW := fun k δ => match δ[i]? with
  | some (some (.own xs)) => k.rt (.own xs)
  | some (some (.fz d)) => k.rt (.fz d)
  | _ => False
def sIf (c : TW) (t u : SW) : SW := fun k δ => c δ (fun b => if b = true then t k δ else u k δ) (fun x => k.xq x δ)
/-- behind an if the two ways are joined: M holds behind both -/
def sCut (t u : SW) : SW := fun k δ => ∃ M : Fr → Prop, t { k with nx := M } δ ∧ ∀ δ', M δ' → u k δ'
/-- x op= e -/
def sAug (i : Nat) (op : Op2) (t : EW) : SW := fun k δ => match δ[i]? with
  | some (some (.fz d)) => t δ (fun r => op d r.d (fun z => k.nx (δ.set i (some (.fz z.d)))) (fun x => k.xq x δ)) (fun x => k.xq x δ)
  | _ => False
/-- self.f = e, the next field -/
def sFldI (i c0 n : Nat) (t : EW) : SW := fun k δ => match δ[i]? with
  | some (some (.ob c xs)) => (c = c0 ∧ xs.length = n) ∧ t δ (fun r => k.nx (δ.set i (some (.ob c (xs ++ [r.d]))))) (fun x => k.xq x δ)
  | _ => False
/-- a, b = e1, e2 -/
def sPar (i j : Nat) (ta tb : EW) : SW := fun k δ => ta δ (fun r => tb δ (fun s => k.nx ((δ.set i (some (.fz r.d))).set j (some (.fz s.d)))) (fun x => k.xq x δ)) (fun x => k.xq x δ)
/-- targets of an unpacking, of a loop -/
inductive Tg where
  | nm (i : Nat)
  | tp (ts : List Tg)
mutual
def Tg.put : Tg → D → Fr → Option Fr
  | .nm i, d, δ => some (δ.set i (some (.fz d)))
  | .tp ts, .tup ds, δ => Tg.puts ts ds δ
  | .tp _, _, _ => none
def Tg.puts : List Tg → List D → Fr → Option Fr
  | [], [], δ => some δ
  | t :: ts, d :: ds, δ => (match Tg.put t d δ with
    | some δ' => Tg.puts ts ds δ'
    | none => none)
  | _, _, _ => none
end
def Tg.go (g : Tg) (d : D) (δ : Fr) (Q : Fr → Prop) : Prop := match g.put d δ with
  | some δ' => Q δ'
  | none => False
def sUnp (g : Tg) (t : EW) : SW := fun k δ => t δ (fun r => g.go r.d δ k.nx) (fun x => k.xq x δ)
/-- a loop over items -/
def loopI (g : Tg) (tb : SW) (items : List D) (k : Ko) (δ : Fr) : Prop :=
  ∃ W : Nat → Fr → Prop, W 0 δ ∧ (∀ i d δ', items[i]? = some d → W i δ' → g.go d δ' (fun δ2 => tb { k with nx := W (i + 1), ct := W (i + 1), bk := k.nx } δ2)) ∧ ∀ δ', W items.length δ' → k.nx δ'
def intsFrom (lo : Int) (n : Nat) : List D := (List.range n).map fun (i : Nat) => D.int (lo + (i : Int))
def small62 (i : Int) : Prop := -(2 ^ 62) ≤ i ∧ i < 2 ^ 62
/-- what is walked: its items -/
abbrev IW := Fr → (List D → Prop) → QX → Prop
def iSeq (t : EW) : IW := fun δ Q X => t δ (fun r => match seqOf r.d with
  | some ds => Q ds
  | none => False) X
def iRng1 (t : EW) : IW := fun δ Q X => t δ (fun r => match r.d with
  | .int n => small62 n ∧ Q (intsFrom 0 n.toNat)
  | _ => False) X
def iRng2 (t u : EW) : IW := fun δ Q X => t δ (fun r => u δ (fun s => match r.d, s.d with
  | .int lo, .int hi => (small62 lo ∧ small62 hi) ∧ Q (intsFrom lo (hi - lo).toNat)
  | _, _ => False) X) X
def sFor (g : Tg) (ti : IW) (tb : SW) : SW := fun k δ => ti δ (fun items => loopI g tb items k δ) (fun x => k.xq x δ)
/-- while: W by a measure -/
def sWhile (c : TW) (tb : SW) : SW := fun k δ => ∃ W : Nat → Fr → Prop, (∃ m, W m δ) ∧ ∀ m δ', W m δ' →
  c δ' (fun b => if b = true then tb { k with nx := fun δ2 => ∃ m', m' < m ∧ W m' δ2, ct := fun δ2 => ∃ m', m' < m ∧ W m' δ2, bk := k.nx } δ' else k.nx δ') (fun x => k.xq x δ')
/-- xs.m(..), xs a list of one's own -/
abbrev MF := List D → List D → (List D → Prop) → Prop
def sMeth (i : Nat) (f : MF) (ta : AW) : SW := fun k δ => match δ[i]? with
  | some (some (.own xs)) => ta δ (fun ds => f xs ds (fun ys => k.nx (δ.set i (some (.own ys))))) (fun x => k.xq x δ)
  | _ => False
def mAppend : MF := fun xs ds Q => match ds with
  | [d] => xs.length < 16777216 ∧ Q (xs ++ [d])
  | _ => False
def mInsert : MF := fun xs ds Q => match ds with
  | [d, e] => (match d with
    | .int i => (xs.length < 16777216 ∧ 0 ≤ i ∧ i < 2 ^ 63) ∧ Q (xs.take i.toNat ++ [e] ++ xs.drop i.toNat)
    | _ => False)
  | _ => False
def mExtend : MF := fun xs ds Q => match ds with
  | [d] => (match d with
    | .lst ys => xs.length + ys.length ≤ 16777216 ∧ Q (xs ++ ys)
    | _ => False)
  | _ => False
def mReverse : MF := fun xs ds Q => match ds with
  | [] => Q xs.reverse
  | _ => False
def ixOf (n : Nat) (i : Int) : Option Nat := if 0 ≤ i then (if i < n then some i.toNat else none) else if -(n : Int) ≤ i then some (i + n).toNat else none
/-- xs[j] = e -/
def sSetIx (i : Nat) (tj te : EW) : SW := fun k δ => match δ[i]? with
  | some (some (.own xs)) => te δ (fun r => tj δ (fun s => match s.d with
    | .int n => (match ixOf xs.length n with
      | some j => k.nx (δ.set i (some (.own (xs.set j r.d))))
      | none => False)
    | _ => False) (fun x => k.xq x δ)) (fun x => k.xq x δ)
  | _ => False
/-- code that may raise; except .. as i -/
def noExc (δ : Fr) : Bool := δ.all fun o => match o with
  | some (.exc _ _) => false
  | _ => true
def sRaise (c : Nat) (ta : AW) : SW := fun k δ => ta δ (fun _ => k.xq ⟨c, []⟩ δ) (fun x => k.xq x δ)
/-- an own class with fields: sp gives the exception made -/
abbrev XS := List D → (Xd → Prop) → Prop
def sRaiseI (sp : XS) (ta : AW) : SW := fun k δ => ta δ (fun ds => sp ds (fun x => k.xq x δ)) (fun x => k.xq x δ)
def kSuite (i : Nat) (k : Ko) : Ko where
  nx := fun δ2 => noExc (δ2.set i none) = true ∧ k.nx (δ2.set i none)
  rt := k.rt
  xq := fun _ _ => False
  bk := fun δ2 => noExc (δ2.set i none) = true ∧ k.bk (δ2.set i none)
  ct := fun δ2 => noExc (δ2.set i none) = true ∧ k.ct (δ2.set i none)
def kQuiet (k : Ko) : Ko where
  nx := k.nx
  rt := k.rt
  xq := fun _ _ => False
  bk := k.bk
  ct := k.ct
def xAs (i : Nat) (ct : Nat → Option Bool) (ts : SW) (k : Ko) : Xd → Fr → Prop := fun x δ' => match ct x.c with
  | some b => if b = true then ts (kSuite i k) (δ'.set i (some (.exc x.c x.xs))) else k.xq x δ'
  | none => False
def sTryAs (i : Nat) (ct : Nat → Option Bool) (tb ts : SW) : SW := fun k δ => tb { k with xq := xAs i ct ts k } δ
/-- except X: without a name, one clause -/
def xTry (ct : Nat → Option Bool) (ts : SW) (k : Ko) : Xd → Fr → Prop := fun x δ' => match ct x.c with
  | some b => if b = true then ts (kQuiet k) δ' else k.xq x δ'
  | none => False
def sTry (ct : Nat → Option Bool) (tb ts : SW) : SW := fun k δ => tb { k with xq := xTry ct ts k } δ
/-- isinstance of the handled exception; its field -/
def wIsX (i : Nat) (sb : Nat → Option Bool) : EW := fun δ Q _ => match δ[i]? with
  | some (some (.exc c _)) => (match sb c with
    | some b => Q (.fz (.bl b))
    | none => False)
  | _ => False
def wXf (i : Nat) (tb : List (Nat × Nat)) : EW := fun δ Q _ => match δ[i]? with
  | some (some (.exc c xs)) => (match tb.lookup c with
    | some j => (match xs[j]? with
      | some d => Q (.fz d)
      | none => False)
    | none => False)
  | _ => False
/-! ### operators -/
inductive Dn where
  | add | radd | sub | rsub | mul | rmul | fdiv | mod | pow | lsh | rsh | bor | band | eq | lt | le | gt | ge | neg | inv | abs | bool | str | len | iter | contains | getitem | setitem
  deriving DecidableEq
def Dn.nm : Dn → Str
  | .add => "__add__" | .radd => "__radd__" | .sub => "__sub__" | .rsub => "__rsub__" | .mul => "__mul__" | .rmul => "__rmul__" | .fdiv => "__floordiv__" | .mod => "__mod__" | .pow => "__pow__"
  | .lsh => "__lshift__" | .rsh => "__rshift__" | .bor => "__or__" | .band => "__and__" | .eq => "__eq__" | .lt => "__lt__" | .le => "__le__" | .gt => "__gt__" | .ge => "__ge__"
  | .neg => "__neg__" | .inv => "__invert__" | .abs => "__abs__" | .bool => "__bool__" | .str => "__str__" | .len => "__len__" | .iter => "__iter__" | .contains => "__contains__"
  | .getitem => "__getitem__" | .setitem => "__setitem__"
/-- the classes' special methods -/
abbrev Dun := Nat → Dn → Option FS
/-- a special method of the left side -/
def objL (dn : Dun) (m : Dn) (c : Nat) (xs : List D) (y : D) (Q : QR) (X : QX) : Prop := match dn c m with
  | some sp => sp [.obj c xs, y] Q X
  | none => False
def mulOk (i j : Int) : Prop := i.natAbs.log2 + j.natAbs.log2 < 1000000
def divOk (j : Int) : Prop := j ≠ 0 ∧ j.natAbs.log2 < 9000
def powOk (i j : Int) : Prop := 0 ≤ j ∧ j ≤ 1000000 ∧ i.natAbs < 2 ^ 64
def repN (k : Int) (xs : List D) : List D := (List.replicate k.toNat xs).flatten
def opAdd (dn : Dun) : Op2 := fun x y Q X => match x, y with
  | .int i, .int j => Q (.fz (.int (i + j)))
  | .str a, .str b => a.length + b.length ≤ 16777216 ∧ Q (.fz (.str (a ++ b)))
  | .lst a, .lst b => a.length + b.length ≤ 16777216 ∧ Q (.own (a ++ b))
  | .obj c xs, .int j => objL dn .add c xs (.int j) Q X
  | .obj c xs, .obj c' ys => c' = c ∧ objL dn .add c xs (.obj c' ys) Q X
  | .int i, .obj c xs => (dn c .add).isSome = true ∧ objL dn .radd c xs (.int i) Q X
  | _, _ => False
def opSub (dn : Dun) : Op2 := fun x y Q X => match x, y with
  | .int i, .int j => Q (.fz (.int (i - j)))
  | .obj c xs, .int j => objL dn .sub c xs (.int j) Q X
  | .obj c xs, .obj c' ys => c' = c ∧ objL dn .sub c xs (.obj c' ys) Q X
  | .int i, .obj c xs => (dn c .sub).isSome = true ∧ objL dn .rsub c xs (.int i) Q X
  | _, _ => False
def opMul (dn : Dun) : Op2 := fun x y Q X => match x, y with
  | .int i, .int j => mulOk i j ∧ Q (.fz (.int (i * j)))
  | .lst a, .int k => (-(2 ^ 63) ≤ k ∧ k < 2 ^ 63 ∧ a.length * k.toNat ≤ 16777216) ∧ Q (.own (repN k a))
  | .obj c xs, .int j => objL dn .mul c xs (.int j) Q X
  | .obj c xs, .obj c' ys => c' = c ∧ objL dn .mul c xs (.obj c' ys) Q X
  | .int i, .obj c xs => (dn c .mul).isSome = true ∧ objL dn .rmul c xs (.int i) Q X
  | _, _ => False
def opFdiv (dn : Dun) : Op2 := fun x y Q X => match x, y with
  | .int i, .int j => divOk j ∧ Q (.fz (.int (i.fdiv j)))
  | .obj c xs, .int j => objL dn .fdiv c xs (.int j) Q X
  | .obj c xs, .obj c' ys => c' = c ∧ objL dn .fdiv c xs (.obj c' ys) Q X
  | _, _ => False
def opMod (dn : Dun) : Op2 := fun x y Q X => match x, y with
  | .int i, .int j => j ≠ 0 ∧ Q (.fz (.int (i.fmod j)))
  | .obj c xs, .int j => objL dn .mod c xs (.int j) Q X
  | .obj c xs, .obj c' ys => c' = c ∧ objL dn .mod c xs (.obj c' ys) Q X
  | _, _ => False
def opPow (dn : Dun) : Op2 := fun x y Q X => match x, y with
  | .int i, .int j => powOk i j ∧ Q (.fz (.int (i ^ j.toNat)))
  | .obj c xs, .int j => objL dn .pow c xs (.int j) Q X
  | _, _ => False
/-- the other operators are of own classes alone -/
def opObj (dn : Dun) (m : Dn) : Op2 := fun x y Q X => match x, y with
  | .obj c xs, .int j => objL dn m c xs (.int j) Q X
  | .obj c xs, .obj c' ys => c' = c ∧ objL dn m c xs (.obj c' ys) Q X
  | _, _ => False
def opNeg (dn : Dun) : Op1 := fun x Q X => match x with
  | .int i => Q (.fz (.int (-i)))
  | .obj c xs => (match dn c .neg with
    | some sp => sp [.obj c xs] Q X
    | none => False)
  | _ => False
def opInv (dn : Dun) : Op1 := fun x Q X => match x with
  | .obj c xs => (match dn c .inv with
    | some sp => sp [.obj c xs] Q X
    | none => False)
  | _ => False
/-! ### comparisons -/
def opOrd (dn : Dun) (m : Dn) (p : Int → Int → Bool) : Op2 := fun x y Q X => match x, y with
  | .int i, .int j => Q (.fz (.bl (p i j)))
  | .obj c xs, .obj c' ys => c' = c ∧ objL dn m c xs (.obj c' ys) Q X
  | _, _ => False
def opLt (dn : Dun) : Op2 := opOrd dn .lt fun i j => decide (i < j)
def opLe (dn : Dun) : Op2 := opOrd dn .le fun i j => decide (i ≤ j)
def opGt (dn : Dun) : Op2 := opOrd dn .gt fun i j => decide (j < i)
def opGe (dn : Dun) : Op2 := opOrd dn .ge fun i j => decide (j ≤ i)
-- no instance of a class within
mutual
def D.flat : D → Bool
  | .lst ds => D.flats ds
  | .tup ds => D.flats ds
  | .obj _ _ => false
  | .cls _ => false
  | .scr _ => false
  | .str x => x.cps.all fun c => decide (c < 1114112)
  | _ => true
def D.flats : List D → Bool
  | [] => true
  | d :: ds => D.flat d && D.flats ds
end
mutual
def D.dep : D → Nat
  | .lst ds => D.deps ds + 1
  | .tup ds => D.deps ds + 1
  | _ => 0
def D.deps : List D → Nat
  | [] => 0
  | d :: ds => max (D.dep d) (D.deps ds)
end
-- == of data
mutual
def D.eqv : D → D → Bool
  | .non, .non => true
  | .bl a, .bl b => a == b
  | .bl a, .int j => (if a then 1 else 0) == j
  | .int i, .bl b => i == (if b then 1 else 0)
  | .int i, .int j => i == j
  | .str x, .str y => x == y
  | .lst xs, .lst ys => D.eqvs xs ys
  | .tup xs, .tup ys => D.eqvs xs ys
  | .obj c xs, .obj d ys => c == d && D.eqvs xs ys
  | _, _ => false
def D.eqvs : List D → List D → Bool
  | [], [] => true
  | x :: xs, y :: ys => D.eqv x y && D.eqvs xs ys
  | _, _ => false
end
/-- the answer of a special method, turned -/
def QR.neg (Q : QR) : QR := fun r => match r with
  | .fz (.bl b) => Q (.fz (.bl (!b)))
  | _ => False
/-- only a truth value is wanted -/
def QR.bl (Q : QR) : QR := fun r => match r with
  | .fz (.bl b) => Q (.fz (.bl b))
  | _ => False
/-- no class, not the law's argument -/
def D.val : D → Bool
  | .cls _ => false
  | .scr _ => false
  | _ => true
def opEq (dn : Dun) : Op2 := fun x y Q X => match x, y with
  | .obj c xs, y => y.val = true ∧ objL dn .eq c xs y (QR.bl Q) X
  | .int i, .obj c xs => objL dn .eq c xs (.int i) (QR.bl Q) X
  | x, y => (x.flat = true ∧ y.flat = true ∧ x.dep ≤ 64 ∧ y.dep ≤ 64) ∧ Q (.fz (.bl (D.eqv x y)))
def opNe (dn : Dun) : Op2 := fun x y Q X => match x, y with
  | .obj c xs, y => y.val = true ∧ objL dn .eq c xs y (QR.neg Q) X
  | .int i, .obj c xs => objL dn .eq c xs (.int i) (QR.neg Q) X
  | x, y => (x.flat = true ∧ y.flat = true ∧ x.dep ≤ 64 ∧ y.dep ≤ 64) ∧ Q (.fz (.bl (!D.eqv x y)))
/-- the same for data alone -/
def opEqF : Op2 := fun x y Q _ => (x.flat = true ∧ y.flat = true ∧ x.dep ≤ 64 ∧ y.dep ≤ 64) ∧ Q (.fz (.bl (D.eqv x y)))
def opNeF : Op2 := fun x y Q _ => (x.flat = true ∧ y.flat = true ∧ x.dep ≤ 64 ∧ y.dep ≤ 64) ∧ Q (.fz (.bl (!D.eqv x y)))
/-- is of None, True, False -/
def opIs : Op2 := fun x y Q _ => match y with
  | .non => (match x with
    | .non => Q (.fz (.bl true))
    | _ => Q (.fz (.bl false)))
  | .bl b => (match x with
    | .bl a => Q (.fz (.bl (a == b)))
    | .non => Q (.fz (.bl false))
    | .int _ => Q (.fz (.bl false))
    | .str _ => Q (.fz (.bl false))
    | .lst _ => Q (.fz (.bl false))
    | .tup _ => Q (.fz (.bl false))
    | .obj _ _ => Q (.fz (.bl false))
    | _ => False)
  | _ => False
def opIsNot : Op2 := fun x y Q X => opIs x y (QR.neg Q) X
/-- in: flat things in a list or tuple of flat things; one sign in a text -/
def D.atom : D → Bool
  | .non => true
  | .bl _ => true
  | .int _ => true
  | .str _ => true
  | _ => false
def memD (x : D) (ys : List D) : Bool := ys.any fun y => D.eqv y x
def opIn (dn : Dun) : Op2 := fun x y Q X => match y with
  | .lst ys => (x.atom = true ∧ ys.all D.atom = true) ∧ Q (.fz (.bl (memD x ys)))
  | .tup ys => (x.atom = true ∧ ys.all D.atom = true) ∧ Q (.fz (.bl (memD x ys)))
  | .str z => (match x with
    | .str w => ∃ c, w = ⟨#[c]⟩ ∧ Q (.fz (.bl (decide (c ∈ z.cps.toList))))
    | _ => False)
  | .obj c xs => objL dn .contains c xs x (QR.bl Q) X
  | _ => False
/-- data alone -/
def opInF : Op2 := fun x y Q _ => match y with
  | .lst ys => (x.atom = true ∧ ys.all D.atom = true) ∧ Q (.fz (.bl (memD x ys)))
  | .tup ys => (x.atom = true ∧ ys.all D.atom = true) ∧ Q (.fz (.bl (memD x ys)))
  | _ => False
def opNotInF : Op2 := fun x y Q X => opInF x y (QR.neg Q) X
def opNotIn (dn : Dun) : Op2 := fun x y Q X => opIn dn x y (QR.neg Q) X

/-! ### builtins -/
abbrev BF := List D → QR → Prop
def aConsR (ta : BW) (tr : AW) : AW := fun δ Q X => ta δ (fun d => tr δ (fun ds => Q (d :: ds)) X) X
def wBlt (bf : BF) (ta : AW) : EW := fun δ Q X => ta δ (fun ds => bf ds Q) X
def obj1 (dn : Dun) (m : Dn) (c : Nat) (xs : List D) (Q : QR) : Prop := match dn c m with
  | some sp => sp [.obj c xs] Q (fun _ => False)
  | none => False
def bLen (dn : Dun) : BF := fun ds Q => match ds with
  | [d] => (match d with
    | .lst xs => Q (.fz (.int (xs.length : Int)))
    | .tup xs => Q (.fz (.int (xs.length : Int)))
    | .scr ns => Q (.fz (.int (ns.length : Int)))
    | .str x => x.length ≤ 16777216 ∧ Q (.fz (.int (x.length : Int)))
    | .obj c xs => obj1 dn .len c xs (fun r => match r with
      | .fz (.int n) => (0 ≤ n ∧ n < 2 ^ 63) ∧ Q (.fz (.int n))
      | _ => False)
    | _ => False)
  | _ => False
def bAbs (dn : Dun) : BF := fun ds Q => match ds with
  | [d] => (match d with
    | .int i => Q (.fz (.int (if i < 0 then -i else i)))
    | .obj c xs => obj1 dn .abs c xs Q
    | _ => False)
  | _ => False
def bInt : BF := fun ds Q => match ds with
  | [d] => (match d with
    | .int i => Q (.fz (.int i))
    | .bl b => Q (.fz (.int (if b then 1 else 0)))
    | _ => False)
  | _ => False
def bBool (dn : Dun) : BF := fun ds Q => match ds with
  | [d] => (match d with
    | .int i => Q (.fz (.bl (i != 0)))
    | .bl b => Q (.fz (.bl b))
    | .obj c xs => obj1 dn .bool c xs (QR.bl Q)
    | _ => False)
  | _ => False
def QR.st (Q : QR) : QR := fun r => match r with
  | .fz (.str x) => Q (.fz (.str x))
  | _ => False
def bStr (dn : Dun) : BF := fun ds Q => match ds with
  | [d] => (match d with
    | .int i => i.natAbs.log2 < 1920 ∧ Q (.fz (.str (toString i)))
    | .str x => Q (.fz (.str x))
    | .obj c xs => obj1 dn .str c xs (QR.st Q)
    | _ => False)
  | _ => False
def bMax2 : BF := fun ds Q => match ds with
  | [d, e] => (match d, e with
    | .int i, .int j => Q (.fz (.int (if j > i then j else i)))
    | _, _ => False)
  | _ => False
def bMin2 : BF := fun ds Q => match ds with
  | [d, e] => (match d, e with
    | .int i, .int j => Q (.fz (.int (if j < i then j else i)))
    | _, _ => False)
  | _ => False
def bGcd : BF := fun ds Q => match ds with
  | [d, e] => (match d, e with
    | .int i, .int j => Q (.fz (.int ((Nat.gcd i.natAbs j.natAbs : Nat) : Int)))
    | _, _ => False)
  | _ => False
def bList : BF := fun ds Q => match ds with
  | [d] => (match seqOf d with
    | some xs => Q (.own xs)
    | none => False)
  | _ => False
def bTuple : BF := fun ds Q => match ds with
  | [d] => (match seqOf d with
    | some xs => Q (.fz (.tup xs))
    | none => False)
  | _ => False
def intsOf : List D → Option (List Int)
  | [] => some []
  | .int i :: ds => (match intsOf ds with
    | some is => some (i :: is)
    | none => none)
  | _ => none
def bSum : BF := fun ds Q => match ds with
  | [d] => (match d with
    | .lst xs => (match intsOf xs with
      | some is => Q (.fz (.int is.sum))
      | none => False)
    | _ => False)
  | _ => False
def bMax : BF := fun ds Q => match ds with
  | [d] => (match d with
    | .lst xs => (match intsOf xs with
      | some is => 0 < is.length ∧ ∀ m, m ∈ is → (∀ y, y ∈ is → y ≤ m) → Q (.fz (.int m))
      | none => False)
    | _ => False)
  | _ => False
def bMin : BF := fun ds Q => match ds with
  | [d] => (match d with
    | .lst xs => (match intsOf xs with
      | some is => 0 < is.length ∧ ∀ m, m ∈ is → (∀ y, y ∈ is → m ≤ y) → Q (.fz (.int m))
      | none => False)
    | _ => False)
  | _ => False
def bSorted : BF := fun ds Q => match ds with
  | [d] => (match d with
    | .lst xs => (match intsOf xs with
      | some is => ∀ os : List Int, os.Perm is → os.Pairwise (· ≤ ·) → Q (.own (os.map D.int))
      | none => False)
    | _ => False)
  | _ => False
def blsOf : List D → Option (List Bool)
  | [] => some []
  | .bl i :: ds => (match blsOf ds with
    | some is => some (i :: is)
    | none => none)
  | _ => none
def bAny : BF := fun ds Q => match ds with
  | [d] => (match d with
    | .lst xs => (match blsOf xs with
      | some is => Q (.fz (.bl (is.any id)))
      | none => False)
    | _ => False)
  | _ => False
def bAll : BF := fun ds Q => match ds with
  | [d] => (match d with
    | .lst xs => (match blsOf xs with
      | some is => Q (.fz (.bl (is.all id)))
      | none => False)
    | _ => False)
  | _ => False
inductive Ty where
  | int | bool | str | list | tuple
def Ty.nm : Ty → String
  | .int => "int" | .bool => "bool" | .str => "str" | .list => "list" | .tuple => "tuple"
def isT : Ty → D → Bool
  | .int, .int _ => true
  | .int, .bl _ => true
  | .bool, .bl _ => true
  | .str, .str _ => true
  | .list, .lst _ => true
  | .list, .scr _ => true
  | .tuple, .tup _ => true
  | _, _ => false
def isC (c : Nat) : D → Bool
  | .obj c' _ => c' == c
  | _ => false
def D.nocls : D → Bool
  | .cls _ => false
  | _ => true
/-- isinstance(e, a builtin type), isinstance(e, an own class) -/
def wIsT (ty : Ty) (u : BW) : EW := fun δ Q X => u δ (fun d => d.nocls = true ∧ Q (.fz (.bl (isT ty d)))) X
def wIsC (c : Nat) (u : BW) : EW := fun δ Q X => u δ (fun d => d.nocls = true ∧ Q (.fz (.bl (isC c d)))) X
/-! ### subscripts, slices -/
def ixD (xs : List D) (i : Int) : Option D := match ixOf xs.length i with
  | some j => xs[j]?
  | none => none
def ixS (z : Str) (i : Int) : Option Nat := match ixOf z.cps.toList.length i with
  | some j => z.cps.toList[j]?
  | none => none
/-- xs[i], xs only read -/
def opIx : Op2 := fun x y Q _ => match x, y with
  | .lst xs, .int i => (match ixD xs i with
    | some v => Q (.fz v)
    | none => False)
  | .tup xs, .int i => (match ixD xs i with
    | some v => Q (.fz v)
    | none => False)
  | .scr ns, .int i => (match ixD (ns.map D.int) i with
    | some v => Q (.fz v)
    | none => False)
  | .str z, .int i => z.length ≤ 16777216 ∧ (match ixS z i with
    | some c => Q (.fz (.str ⟨#[c]⟩))
    | none => False)
  | _, _ => False
/-- the part's own bounds -/
def sIx (n d : Nat) : Option Int → Nat
  | none => d
  | some i => if i < 0 then (i + (n : Int)).toNat else min i.toNat n
def cutD {α : Type} (xs : List α) (lo hi : Option Int) : List α := (xs.drop (sIx xs.length 0 lo)).take (sIx xs.length xs.length hi - sIx xs.length 0 lo)
def cutT (z : Str) (lo hi : Option Int) : Str := ⟨((z.cps.toList.drop (sIx z.length 0 lo)).take (sIx z.length z.length hi - sIx z.length 0 lo)).toArray⟩
/-- a part of a slice -/
abbrev OW := Fr → (Option Int → Prop) → QX → Prop
def oNone : OW := fun _ Q _ => Q none
def oSome (t : EW) : OW := fun δ Q X => t δ (fun r => match r.d with
  | .int i => Q (some i)
  | _ => False) X
/-- f-strings -/
def wFmt (t : EW) : EW := fun δ Q X => t δ (fun r => match r.d with
  | .str y => y.length ≤ 16777216 ∧ Q (.fz (.str y))
  | .int i => i.natAbs.log2 < 1920 ∧ Q (.fz (.str (toString i)))
  | _ => False) X
def wJs : List EW → Str → Fr → (Str → Prop) → QX → Prop
  | [], acc, _, Q, _ => Q acc
  | t :: ts, acc, δ, Q, X => t δ (fun r => match r.d with
    | .str y => (acc ++ y).length ≤ 16777216 ∧ wJs ts (acc ++ y) δ Q X
    | _ => False) X
def wJoin (ts : List EW) : EW := fun δ Q X => wJs ts Str.empty δ (fun out => Q (.fz (.str out))) X
def wSl (u : BW) (lo hi : OW) : EW := fun δ Q X => u δ (fun d => lo δ (fun a => hi δ (fun b => match d with
  | .lst xs => Q (.own (cutD xs a b))
  | .tup xs => Q (.fz (.tup (cutD xs a b)))
  | .str z => z.length ≤ 16777216 ∧ Q (.fz (.str (cutT z a b)))
  | _ => False) X) X) X
/-- xs[::-1] -/
def wRevL (u : BW) : EW := fun δ Q X => u δ (fun d => match d with
  | .lst xs => Q (.own xs.reverse)
  | _ => False) X
/-- a body's start -/
def slotOf (m : Bool) (d : D) : Sl := match m, d with
  | true, .lst xs => .lent xs
  | _, d => .fz d
def slotsOf : List Bool → List D → Fr
  | m :: ms, d :: ds => some (slotOf m d) :: slotsOf ms ds
  | _, _ => []
def startD (n : Nat) (ms : List Bool) (ds : List D) : Fr := slotsOf ms ds ++ List.replicate (n - ds.length) none
/-- an __init__: c's fields are there in the end -/
def initEnd (c n : Nat) (Q : QR) (δ' : Fr) : Prop := match (δ'[(0 : Nat)]? : Option (Option Sl)) with
  | some (some (.ob c' xs)) => (c' = c ∧ xs.length = n) ∧ Q (.fz (.obj c xs))
  | _ => False
def runInit (t : SW) (c n : Nat) (δ : Fr) (Q : QR) (X : QX) : Prop := t { nx := initEnd c n Q, rt := fun _ => False, xq := fun x _ => X x } δ
def startI (n c : Nat) (ms : List Bool) (ds : List D) : Fr := some (.ob c []) :: (slotsOf ms ds ++ List.replicate (n - (ds.length + 1)) none)
/-- a body's end -/
def runBody (t : SW) (δ : Fr) (Q : QR) (X : QX) : Prop := t { nx := fun _ => Q (.fz .non), rt := Q, xq := fun x _ => X x } δ
end VL
end
section
set_option Elab.async false
set_option linter.all false
set_option maxRecDepth 100000
set_option maxHeartbeats 4000000
/-! VLs1: the value layer over the hand layer: what data a value stands for, steps of the heap, judgements. -/
namespace VL
open PySem PySem.Spec PyProof.Rows L2

/-- where the classes stand, their fields -/
structure Tab where
  n : Nat
  cls : Nat → Addr
  flds : Nat → List Str

section
variable (T : Tab) (K : PySem.W.Frag) (H : Hp)
mutual
def Rep : D → V → Prop
  | .non, v => v = .non
  | .bl b, v => v = .bl b
  | .int i, v => v = .int i
  | .str x, v => v = .str x
  | .lst ds, v => ∃ a xs, v = .ref a ∧ H a = some (.lst xs) ∧ RepL ds xs
  | .tup ds, v => ∃ a xs, v = .ref a ∧ H a = some (.tup xs) ∧ RepL ds xs
  | .obj c ds, v => ∃ a dx fs, v = .ref a ∧ c < T.n ∧ H a = some (.ins (T.cls c) dx fs) ∧ fs.map (·.1) = T.flds c ∧ RepL ds (fs.map (·.2))
  | .cls c, v => v = .ref (T.cls c)
  | .scr ns, v => ∃ a, v = .ref a ∧ SqL K H a (ns.map V.int)
def RepL : List D → List V → Prop
  | [], vs => vs = []
  | d :: ds, vs => ∃ v r, vs = v :: r ∧ Rep d v ∧ RepL ds r
end
end

/-- all that was tracked is tracked so -/
def Ex (H H' : Hp) : Prop := ∀ a o, H a = some o → H' a = some o
theorem Ex.refl (H : Hp) : Ex H H := fun _ _ h => h
theorem Ex.trans {H H1 H2 : Hp} (a : Ex H H1) (b : Ex H1 H2) : Ex H H2 := fun x o h => b x o (a x o h)
theorem Ex.new {H : Hp} {p : Addr} {o : HO} (h : H p = none) : Ex H (upd H p o) := fun a u e => by
  rw [upd_ne (ne_of_none e h)]
  exact e
theorem Ex.mut {H H' : Hp} {p : Addr} {o : HO} (e : Ex H H') (h : H p = none) : Ex H (upd H' p o) := fun a u ha => by
  rw [upd_ne (ne_of_none ha h)]
  exact e a u ha
theorem Ex.fresh {H H' : Hp} {p : Addr} (e : Ex H H') (h : H' p = none) : H p = none := by
  cases h1 : H p with
  | none => rfl
  | some o =>
    rw [e p o h1] at h
    cases h
section
variable {T : Tab} {K : PySem.W.Frag} {H H' : Hp} {a : Addr} {xs : List V}
theorem ex_rd {u : HO} (e : Ex H H') (h : Rd H a u) : Rd H' a u := by
  rcases h with h | ⟨o, h⟩
  · exact Or.inl (e a _ h)
  · exact Or.inr ⟨o, e a _ h⟩
theorem ex_l (e : Ex H H') (h : SqL K H a xs) : SqL K H' a xs := by
  rcases h with h | h
  · exact Or.inl (ex_rd e h)
  · exact Or.inr h
theorem ex_t (e : Ex H H') (h : SqT K H a xs) : SqT K H' a xs := by
  rcases h with h | h
  · exact Or.inl (ex_rd e h)
  · exact Or.inr h
mutual
theorem Rep.mono (e : Ex H H') : ∀ {d : D} {v : V}, Rep T K H d v → Rep T K H' d v
  | .non, _, h => h
  | .bl _, _, h => h
  | .int _, _, h => h
  | .str _, _, h => h
  | .cls _, _, h => h
  | .scr ns, v, h => by
    unfold Rep at h ⊢
    obtain ⟨a, h1, h2⟩ := h
    exact ⟨a, h1, ex_l e h2⟩
  | .lst ds, v, h => by
    unfold Rep at h ⊢
    obtain ⟨a, xs, h1, h2, h3⟩ := h
    exact ⟨a, xs, h1, e _ _ h2, RepL.mono e h3⟩
  | .tup ds, v, h => by
    unfold Rep at h ⊢
    obtain ⟨a, xs, h1, h2, h3⟩ := h
    exact ⟨a, xs, h1, e _ _ h2, RepL.mono e h3⟩
  | .obj c ds, v, h => by
    unfold Rep at h ⊢
    obtain ⟨a, dx, fs, h1, h0, h2, h3, h4⟩ := h
    exact ⟨a, dx, fs, h1, h0, e _ _ h2, h3, RepL.mono e h4⟩
theorem RepL.mono (e : Ex H H') : ∀ {ds : List D} {vs : List V}, RepL T K H ds vs → RepL T K H' ds vs
  | [], vs, h => by
    unfold RepL at h ⊢
    exact h
  | d :: ds, vs, h => by
    unfold RepL at h ⊢
    obtain ⟨v, r, h1, h2, h3⟩ := h
    exact ⟨v, r, h1, Rep.mono e h2, RepL.mono e h3⟩
end
theorem repL_nil {vs : List V} : RepL T K H [] vs ↔ vs = [] := by
  unfold RepL
  exact Iff.rfl
theorem repL_cons {d : D} {ds : List D} {vs : List V} : RepL T K H (d :: ds) vs ↔ ∃ v r, vs = v :: r ∧ Rep T K H d v ∧ RepL T K H ds r := by
  conv => lhs; unfold RepL
theorem RepL.nil : RepL T K H [] [] := repL_nil.mpr rfl
theorem RepL.cons {d : D} {ds : List D} {v : V} {vs : List V} (h : Rep T K H d v) (t : RepL T K H ds vs) : RepL T K H (d :: ds) (v :: vs) := repL_cons.mpr ⟨v, vs, rfl, h, t⟩
theorem RepL.un {d : D} {ds : List D} {v : V} {vs : List V} (h : RepL T K H (d :: ds) (v :: vs)) : Rep T K H d v ∧ RepL T K H ds vs := by
  obtain ⟨w, r, e, a, b⟩ := repL_cons.mp h
  obtain ⟨rfl, rfl⟩ := List.cons.inj e
  exact ⟨a, b⟩
theorem RepL.length : ∀ {ds : List D} {vs : List V}, RepL T K H ds vs → ds.length = vs.length
  | [], vs, h => by
    rw [repL_nil.mp h]
    rfl
  | d :: ds, vs, h => by
    obtain ⟨v, r, rfl, _, h3⟩ := repL_cons.mp h
    simp [RepL.length h3]
theorem RepL.get : ∀ {ds : List D} {vs : List V} {i : Nat} {v : V}, RepL T K H ds vs → vs[i]? = some v → ∃ d, ds[i]? = some d ∧ Rep T K H d v
  | [], vs, i, v, h, e => by
    rw [repL_nil.mp h] at e
    simp at e
  | d :: ds, vs, i, v, h, e => by
    obtain ⟨w, r, rfl, h2, h3⟩ := repL_cons.mp h
    cases i with
    | zero =>
      simp at e
      subst e
      exact ⟨d, by simp, h2⟩
    | succ i =>
      obtain ⟨d', e1, e2⟩ := RepL.get (i := i) h3 (by simpa using e)
      exact ⟨d', by simpa using e1, e2⟩
theorem RepL.getD : ∀ {ds : List D} {vs : List V} {i : Nat} {d : D}, RepL T K H ds vs → ds[i]? = some d → ∃ v, vs[i]? = some v ∧ Rep T K H d v
  | [], vs, i, v, h, e => by
    simp at e
  | d :: ds, vs, i, v, h, e => by
    obtain ⟨w, r, rfl, h2, h3⟩ := repL_cons.mp h
    cases i with
    | zero =>
      simp at e
      subst e
      exact ⟨w, by simp, h2⟩
    | succ i =>
      obtain ⟨d', e1, e2⟩ := RepL.getD (i := i) h3 (by simpa using e)
      exact ⟨d', by simpa using e1, e2⟩
theorem RepL.append : ∀ {ds es : List D} {vs ws : List V}, RepL T K H ds vs → RepL T K H es ws → RepL T K H (ds ++ es) (vs ++ ws)
  | [], es, vs, ws, h, h' => by
    rw [repL_nil.mp h]
    exact h'
  | d :: ds, es, vs, ws, h, h' => by
    obtain ⟨w, r, rfl, h2, h3⟩ := repL_cons.mp h
    exact RepL.cons h2 (RepL.append h3 h')
theorem RepL.set : ∀ {ds : List D} {vs : List V} {d : D} {v : V} (i : Nat), RepL T K H ds vs → Rep T K H d v → RepL T K H (ds.set i d) (vs.set i v)
  | [], vs, d, v, i, h, r => by
    rw [repL_nil.mp h]
    exact RepL.nil
  | e :: ds, vs, d, v, i, h, r => by
    obtain ⟨w, s, rfl, h2, h3⟩ := repL_cons.mp h
    cases i with
    | zero => exact RepL.cons r h3
    | succ i => exact RepL.cons h2 (RepL.set i h3 r)
theorem RepL.take : ∀ {ds : List D} {vs : List V} (n : Nat), RepL T K H ds vs → RepL T K H (ds.take n) (vs.take n)
  | [], vs, n, h => by
    rw [repL_nil.mp h]
    simp [repL_nil]
  | e :: ds, vs, n, h => by
    obtain ⟨w, s, rfl, h2, h3⟩ := repL_cons.mp h
    cases n with
    | zero => exact RepL.nil
    | succ n => exact RepL.cons h2 (RepL.take n h3)
theorem RepL.drop : ∀ {ds : List D} {vs : List V} (n : Nat), RepL T K H ds vs → RepL T K H (ds.drop n) (vs.drop n)
  | [], vs, n, h => by
    rw [repL_nil.mp h]
    simp [repL_nil]
  | e :: ds, vs, n, h => by
    obtain ⟨w, s, rfl, h2, h3⟩ := repL_cons.mp h
    cases n with
    | zero => exact h
    | succ n => exact RepL.drop n h3
theorem RepL.ints {ns : List Int} : ∀ {vs : List V}, RepL T K H (ns.map D.int) vs ↔ vs = ns.map V.int := by
  induction ns with
  | nil => exact fun {vs} => repL_nil
  | cons n ns ih =>
    intro vs
    constructor
    · intro h
      obtain ⟨w, r, rfl, h2, h3⟩ := repL_cons.mp h
      unfold Rep at h2
      rw [ih.mp h3, h2]
      rfl
    · intro h
      rw [h]
      exact RepL.cons (by unfold Rep; rfl) (ih.mpr rfl)
end

/-- newly frozen: what was not tracked -/
def NewF (Hf H Hf' : Hp) : Prop := ∀ a, Hf' a ≠ none → Hf a ≠ none ∨ H a = none
/-- an expression's step: nothing tracked changes, the frozen part grows by new things -/
structure Step (Hf H Hf' H' : Hp) : Prop where
  f : Ex Hf Hf'
  h : Ex H H'
  i : Ex Hf' H'
  n : NewF Hf H Hf'
theorem Step.refl {Hf H : Hp} (i : Ex Hf H) : Step Hf H Hf H := ⟨Ex.refl _, Ex.refl _, i, fun _ h => .inl h⟩
theorem Step.trans {Hf H Hf1 H1 Hf2 H2 : Hp} (a : Step Hf H Hf1 H1) (b : Step Hf1 H1 Hf2 H2) : Step Hf H Hf2 H2 :=
  ⟨a.f.trans b.f, a.h.trans b.h, b.i, fun x hx => by
    rcases b.n x hx with h | h
    · exact a.n x h
    · exact .inr (a.h.fresh h)⟩
/-- a new object, frozen at once -/
theorem Step.new {Hf H : Hp} {p : Addr} {o : HO} (i : Ex Hf H) (h : H p = none) : Step Hf H (upd Hf p o) (upd H p o) :=
  ⟨Ex.new (i.fresh h), Ex.new h, fun a u e => by
    by_cases q : a = p
    · subst q
      rw [upd_same] at e ⊢
      exact e
    · rw [upd_ne q] at e ⊢
      exact i a u e, fun a ha => by
    by_cases q : a = p
    · subst q
      exact .inr h
    · rw [upd_ne q] at ha
      exact .inl ha⟩
/-- a new object, tracked alone -/
theorem Step.newH {Hf H : Hp} {p : Addr} {o : HO} (i : Ex Hf H) (h : H p = none) : Step Hf H Hf (upd H p o) :=
  ⟨Ex.refl _, Ex.new h, Ex.mut i (i.fresh h), fun _ ha => .inl ha⟩

section
variable (T : Tab) (K : PySem.W.Frag)
/-- what an expression's value stands for: H the heap ahead -/
def Res (Hf' H' H : Hp) (v : V) : R → Prop
  | .fz d => Rep T K Hf' d v
  | .own ds => ∃ a vs, v = .ref a ∧ Hf' a = none ∧ H a = none ∧ H' a = some (.lst vs) ∧ RepL T K Hf' ds vs
/-- an exception's class and dict -/
def RepX (Hf : Hp) (cls : Value) (d : Option Addr) (x : Xd) : Prop :=
  cls = .ref (T.cls x.c) ∧ ((d = none ∧ T.flds x.c = [] ∧ x.xs = []) ∨ ∃ dx fs vs, d = some dx ∧ Hf dx = some (.xd fs) ∧ RepL T K Hf x.xs vs ∧ vs.length = (T.flds x.c).length ∧ ∀ (i : Nat) f v, (T.flds x.c)[i]? = some f → vs[i]? = some v → fs.lookup f = some v)
/-- the exception that is handled: where it stands, its class, its dict -/
structure Hd where
  ex : Option (Addr × Value × Option Addr)
  /-- the instance that is being made -/
  me : Option Addr
/-- a slot: H0 the heap at the entry -/
def SlOk (z : Hd) (H0 Hf H : Hp) : Option V → Option Sl → Prop
  | _, none => True
  | none, some _ => False
  | some v, some (.fz d) => Rep T K Hf d v
  | some v, some (.own ds) => ∃ a vs, v = .ref a ∧ Hf a = none ∧ H0 a = none ∧ H a = some (.lst vs) ∧ RepL T K Hf ds vs
  | some v, some (.lent ds) => ∃ a vs, v = .ref a ∧ H0 a ≠ none ∧ H a = some (.lst vs) ∧ RepL T K Hf ds vs
  | some v, some (.ob c ds) => ∃ a dx fs, v = .ref a ∧ Hf a = none ∧ ((z.me = some a ∧ H0 a = none) ∧ c < T.n) ∧ H a = some (.ins (T.cls c) dx fs) ∧ fs.map (·.1) = (T.flds c).take ds.length ∧ RepL T K Hf ds (fs.map (·.2))
  | some v, some (.exc c ds) => ∃ a cls d, z.ex = some (a, cls, d) ∧ v = .ref a ∧ RepX T K Hf cls d ⟨c, ds⟩
/-- the slots hold what is said; lists of one's own stand apart -/
structure StOk (z : Hd) (H0 Hf H : Hp) (σ : L2.St) (δ : Fr) : Prop where
  i : Ex Hf H
  len : δ.length = σ.length
  at_ : ∀ j : Nat, SlOk T K z H0 Hf H (σ[j]?.join) (δ[j]?.join)
  ne : ∀ (j j' : Nat) (s s' : Sl) (a : Addr), δ[j]? = some (some s) → δ[j']? = some (some s') → s.mine = true → s'.mine = true → σ[j]? = some (some (.ref a)) → σ[j']? = some (some (.ref a)) → j = j'
end
section
variable {T : Tab} {K : PySem.W.Frag} {z : Hd} {H0 Hf H Hf' H' : Hp} {σ : L2.St} {δ : Fr}
theorem RepX.mono {cls : Value} {d : Option Addr} {x : Xd} (e : Ex Hf Hf') (h : RepX T K Hf cls d x) : RepX T K Hf' cls d x := by
  obtain ⟨h1, h2⟩ := h
  refine ⟨h1, ?_⟩
  rcases h2 with h | ⟨dx, fs, vs, a, b, c, l, f⟩
  · exact .inl h
  · exact .inr ⟨dx, fs, vs, a, e _ _ b, c.mono e, l, f⟩
theorem SlOk.step {v : Option V} {s : Option Sl} (S : Step Hf H Hf' H') (h : SlOk T K z H0 Hf H v s) : SlOk T K z H0 Hf' H' v s := by
  cases s with
  | none => exact True.intro
  | some s =>
    cases v with
    | none => exact h.elim
    | some v =>
      have nf : ∀ {a o}, Hf a = none → H a = some o → Hf' a = none := fun {a o} h1 h2 => by
        cases q : Hf' a with
        | none => rfl
        | some u =>
          rcases S.n a (by rw [q]; simp) with e | e
          · exact absurd h1 e
          · rw [h2] at e; cases e
      cases s with
      | fz d => exact Rep.mono S.f h
      | own ds =>
        obtain ⟨a, vs, e1, e2, e3, e4, e5⟩ := h
        exact ⟨a, vs, e1, nf e2 e4, e3, S.h _ _ e4, e5.mono S.f⟩
      | lent ds =>
        obtain ⟨a, vs, e1, e2, e3, e4⟩ := h
        exact ⟨a, vs, e1, e2, S.h _ _ e3, e4.mono S.f⟩
      | ob c ds =>
        obtain ⟨a, dx, fs, e1, e2, e0, e3, e4, e5⟩ := h
        exact ⟨a, dx, fs, e1, nf e2 e3, e0, S.h _ _ e3, e4, e5.mono S.f⟩
      | exc c ds =>
        obtain ⟨a, cls, d, e1, e2, e3⟩ := h
        exact ⟨a, cls, d, e1, e2, e3.mono S.f⟩
theorem StOk.step (S : Step Hf H Hf' H') (h : StOk T K z H0 Hf H σ δ) : StOk T K z H0 Hf' H' σ δ :=
  ⟨S.i, h.len, fun j => (h.at_ j).step S, h.ne⟩
theorem Res.mono {v : V} {r : R} {H1 Hf1 : Hp} (S : Step Hf' H' Hf1 H1) (h : Res T K Hf' H' H v r) : Res T K Hf1 H1 H v r := by
  cases r with
  | fz d => exact Rep.mono S.f h
  | own ds =>
    obtain ⟨a, vs, e1, e2, e3, e4, e5⟩ := h
    refine ⟨a, vs, e1, ?_, e3, S.h _ _ e4, e5.mono S.f⟩
    cases q : Hf1 a with
    | none => rfl
    | some u =>
      rcases S.n a (by rw [q]; simp) with e | e
      · exact absurd e2 e
      · rw [e4] at e; cases e
/-- a result frozen -/
theorem Res.freeze {v : V} {r : R} (S : Step Hf H Hf' H') (h : Res T K Hf' H' H v r) : ∃ Hf2, Step Hf H Hf2 H' ∧ Rep T K Hf2 r.d v := by
  cases r with
  | fz d => exact ⟨Hf', S, h⟩
  | own ds =>
    obtain ⟨a, vs, e1, e2, e3, e4, e5⟩ := h
    have x1 : Ex Hf' (upd Hf' a (.lst vs)) := Ex.new e2
    refine ⟨upd Hf' a (.lst vs), ⟨S.f.trans x1, S.h, fun b u q => ?_, fun b hb => ?_⟩, ?_⟩
    · by_cases hb : b = a
      · subst hb
        rw [upd_same] at q
        rw [← q]
        exact e4
      · rw [upd_ne hb] at q
        exact S.i b u q
    · by_cases hb' : b = a
      · subst hb'
        exact .inr e3
      · rw [upd_ne hb'] at hb
        exact S.n b hb
    · unfold R.d Rep
      exact ⟨a, vs, e1, upd_same, e5.mono x1⟩
end
end VL
end
section
set_option Elab.async false
set_option linter.all false
set_option maxRecDepth 100000
set_option maxHeartbeats 4000000
/-! VLs2: the judgements; names, constants, operators, calls, displays, tests. -/
namespace VL
open PySem PySem.Spec PyProof.Rows L2

section
variable (T : Tab) (K : PySem.W.Frag)
/-- only read: frozen data, or a list whose items are frozen -/
def LRep (Hf H : Hp) (d : D) (v : V) : Prop := Rep T K Hf d v ∨ ∃ a vs ds, d = .lst ds ∧ v = .ref a ∧ H a = some (.lst vs) ∧ RepL T K Hf ds vs
/-- .. or an instance whose fields are -/
def BRep (Hf H : Hp) (d : D) (v : V) : Prop := LRep T K Hf H d v ∨ ∃ a dx fs c ds, d = .obj c ds ∧ v = .ref a ∧ c < T.n ∧ H a = some (.ins (T.cls c) dx fs) ∧ fs.map (·.1) = (T.flds c).take ds.length ∧ RepL T K Hf ds (fs.map (·.2))
def ArgsOk (Hf H : Hp) : List Bool → List D → List V → Prop
  | [], ds, vs => ds = [] ∧ vs = []
  | m :: ms, ds, vs => ∃ d dr v vr, ds = d :: dr ∧ vs = v :: vr ∧ (if m = true then LRep T K Hf H d v else Rep T K Hf d v) ∧ ArgsOk Hf H ms dr vr
end
section
variable {T : Tab} {K : PySem.W.Frag} {Hf H Hf' H' : Hp} {d : D} {v : V}
theorem LRep.step (S : Step Hf H Hf' H') (h : LRep T K Hf H d v) : LRep T K Hf' H' d v := by
  rcases h with h | ⟨a, vs, ds, e1, e2, e3, e4⟩
  · exact .inl (h.mono S.f)
  · exact .inr ⟨a, vs, ds, e1, e2, S.h _ _ e3, e4.mono S.f⟩
theorem BRep.step (S : Step Hf H Hf' H') (h : BRep T K Hf H d v) : BRep T K Hf' H' d v := by
  rcases h with h | ⟨a, dx, fs, c, ds, e1, e2, e0, e3, e4, e5⟩
  · exact .inl (h.step S)
  · exact .inr ⟨a, dx, fs, c, ds, e1, e2, e0, S.h _ _ e3, e4, e5.mono S.f⟩
theorem ArgsOk.step (S : Step Hf H Hf' H') : ∀ {ms : List Bool} {ds : List D} {vs : List V}, ArgsOk T K Hf H ms ds vs → ArgsOk T K Hf' H' ms ds vs
  | [], ds, vs, h => h
  | m :: ms, ds, vs, h => by
    obtain ⟨d, dr, v, vr, e1, e2, e3, e4⟩ := h
    refine ⟨d, dr, v, vr, e1, e2, ?_, ArgsOk.step S e4⟩
    cases m with
    | true => exact LRep.step S e3
    | false => exact Rep.mono S.f e3
theorem ArgsOk.len : ∀ {ms : List Bool} {ds : List D} {vs : List V}, ArgsOk T K Hf H ms ds vs → ds.length = ms.length ∧ vs.length = ms.length
  | [], ds, vs, h => by
    obtain ⟨rfl, rfl⟩ := h
    exact ⟨rfl, rfl⟩
  | m :: ms, ds, vs, h => by
    obtain ⟨d, dr, v, vr, rfl, rfl, _, e4⟩ := h
    have := e4.len
    simp [this]
theorem ArgsOk.append : ∀ {ms ns : List Bool} {ds es : List D} {vs ws : List V}, ArgsOk T K Hf H ms ds vs → ArgsOk T K Hf H ns es ws → ArgsOk T K Hf H (ms ++ ns) (ds ++ es) (vs ++ ws)
  | [], ns, ds, es, vs, ws, h, h' => by
    obtain ⟨rfl, rfl⟩ := h
    exact h'
  | m :: ms, ns, ds, es, vs, ws, h, h' => by
    obtain ⟨d, dr, v, vr, rfl, rfl, e3, e4⟩ := h
    exact ⟨d, dr ++ es, v, vr ++ ws, rfl, rfl, e3, e4.append h'⟩
/-- all frozen -/
theorem ArgsOk.frozen : ∀ {n : Nat} {ds : List D} {vs : List V}, ArgsOk T K Hf H (List.replicate n false) ds vs → RepL T K Hf ds vs
  | 0, ds, vs, h => by
    obtain ⟨rfl, rfl⟩ := h
    exact RepL.nil
  | n + 1, ds, vs, h => by
    obtain ⟨d, dr, v, vr, rfl, rfl, e3, e4⟩ := h
    exact RepL.cons e3 (ArgsOk.frozen e4)
end

/-- a def's promise from its spec: ms tells which arguments are only lent -/
def SpV (T : Tab) (K : PySem.W.Frag) (ms : List Bool) (sp : FS) : Sp := fun vs H Qv E => ∃ Hf ds Q X, Ex Hf H ∧ ArgsOk T K Hf H ms ds vs ∧
  (∀ v Hf' H' r, Step Hf H Hf' H' → Res T K Hf' H' H v r → Q r → Qv v H') ∧ (∀ x cls d Hf' H', Step Hf H Hf' H' → RepX T K Hf' cls d x → X x → E cls d H') ∧ sp ds Q X

section
variable (T : Tab) (K : PySem.W.Frag) (W : WX) (z : Hd)
def XOk (σ : L2.St) (Hf H : Hp) (X : QX) : Prop := ∀ x cls d Hf' H', Step Hf H Hf' H' → RepX T K Hf' cls d x → X x → W cls d σ H'
/-- the value as it is; frozen; only read -/
def rdR (t : EW) : TE := fun σ H Qv => ∃ H0 Hf δ Q X, StOk T K z H0 Hf H σ δ ∧ XOk T K W σ Hf H X ∧ (∀ v Hf' H' r, Step Hf H Hf' H' → Res T K Hf' H' H v r → Q r → Qv v H') ∧ t δ Q X
def rdD (t : BW) : TE := fun σ H Qv => ∃ H0 Hf δ Q X, StOk T K z H0 Hf H σ δ ∧ XOk T K W σ Hf H X ∧ (∀ v Hf' H' d, Step Hf H Hf' H' → Rep T K Hf' d v → Q d → Qv v H') ∧ t δ Q X
def rdB (t : BW) : TE := fun σ H Qv => ∃ H0 Hf δ Q X, StOk T K z H0 Hf H σ δ ∧ XOk T K W σ Hf H X ∧ (∀ v Hf' H' d, Step Hf H Hf' H' → BRep T K Hf' H' d v → Q d → Qv v H') ∧ t δ Q X
def rdT (t : TW) : TT := fun σ H Qb => ∃ H0 Hf δ Q X, StOk T K z H0 Hf H σ δ ∧ XOk T K W σ Hf H X ∧ (∀ b Hf' H', Step Hf H Hf' H' → Q b → Qb b H') ∧ t δ Q X
def rdA (ms : List Bool) (t : AW) : TA := fun σ H Qa => ∃ H0 Hf δ Q X, StOk T K z H0 Hf H σ δ ∧ XOk T K W σ Hf H X ∧ (∀ vs Hf' H' ds, Step Hf H Hf' H' → ArgsOk T K Hf' H' ms ds vs → Q ds → Qa vs H') ∧ t δ Q X
end
theorem XOk.step {T : Tab} {K : PySem.W.Frag} {W : WX} {σ : L2.St} {Hf H Hf' H' : Hp} {X : QX} (h : XOk T K W σ Hf H X) (S : Step Hf H Hf' H') : XOk T K W σ Hf' H' X := fun x cls d Hf2 H2 S2 => h x cls d Hf2 H2 (S.trans S2)

/-- an expression, its value's reading -/
def VE (X : Cx) (T : Tab) (W : WX) (z : Hd) (e : Expr) (t : EW) : Prop := PE X e (rdR T X.K W z t)
def VD (X : Cx) (T : Tab) (W : WX) (z : Hd) (e : Expr) (t : BW) : Prop := PE X e (rdD T X.K W z t)
def VB (X : Cx) (T : Tab) (W : WX) (z : Hd) (e : Expr) (t : BW) : Prop := PE X e (rdB T X.K W z t)
def VT (X : Cx) (T : Tab) (W : WX) (z : Hd) (e : Expr) (t : TW) : Prop := PT X e (rdT T X.K W z t)
def VW (X : Cx) (T : Tab) (W : WX) (z : Hd) (e : Expr) (t : TW) : Prop := PW X e (rdT T X.K W z t)
def VA (X : Cx) (T : Tab) (W : WX) (z : Hd) (ms : List Bool) (es : List Expr) (t : AW) : Prop := PA X es (rdA T X.K W z ms t)

section
variable {X : Cx} {T : Tab} {W : WX} {z : Hd} {e a b c : Expr} {t ta tb : EW} {u v : BW} {pos : Pos}
theorem PE.imp {t t' : TE} (h : PE X e t) (i : ∀ σ H Q, t' σ H Q → t σ H Q) : PE X e t' := ⟨fun pins s σ H Q I q => h.run pins s σ H Q I (i _ _ _ q)⟩
theorem PT.imp {t t' : TT} (h : PT X e t) (i : ∀ σ H Q, t' σ H Q → t σ H Q) : PT X e t' := ⟨fun pins s σ H Q I q => h.run pins s σ H Q I (i _ _ _ q)⟩
theorem PW.imp {t t' : TT} (h : PW X e t) (i : ∀ σ H Q, t' σ H Q → t σ H Q) : PW X e t' := ⟨fun wh pins s σ H Q I q => h.run wh pins s σ H Q I (i _ _ _ q)⟩
theorem PA.imp {es : List Expr} {t t' : TA} (h : PA X es t) (i : ∀ σ H Q, t' σ H Q → t σ H Q) : PA X es t' := ⟨fun pos pins s σ H Q I q => h.run pos pins s σ H Q I (i _ _ _ q)⟩
theorem VE.toD (h : VE X T W z e t) : VD X T W z e (bOf t) := PE.imp h fun σ H Qv ⟨H0, Hf, δ, Q, Xq, st, xo, k, q⟩ =>
  ⟨H0, Hf, δ, fun r => Q r.d, Xq, st, xo, fun v Hf' H' r S rs hq => by
    obtain ⟨Hf2, S2, rp⟩ := rs.freeze S
    exact k v Hf2 H' r.d S2 rp hq, q⟩
theorem VD.toB (h : VD X T W z e u) : VB X T W z e u := PE.imp h fun σ H Qv ⟨H0, Hf, δ, Q, Xq, st, xo, k, q⟩ =>
  ⟨H0, Hf, δ, Q, Xq, st, xo, fun v Hf' H' d S rp hq => k v Hf' H' d S (.inl (.inl rp)) hq, q⟩
theorem VE.toB (h : VE X T W z e t) : VB X T W z e (bOf t) := h.toD.toB

/-! ### names, constants -/
theorem ve_var {i : Nat} {x : Str} (hN : X.N[i]? = some x := by rfl) (hv : Vis X.env.scope x := by first | exact Or.inl rfl | exact Or.inr (Or.inl rfl) | exact Or.inr (Or.inr rfl)) (hd : (x == ("__debug__" : Str)) = false := by decide)
    (hcd : (x == ("__classdict__" : Str)) = false := by decide) : VE X T W z (.Name x pos) (wVar i) := PE.imp (pe_var hN hv hd hcd) fun σ H Qv ⟨H0, Hf, δ, Q, Xq, st, xo, k, q⟩ => by
  unfold wVar at q
  cases e1 : δ[i]? with
  | none => rw [e1] at q; exact q.elim
  | some o =>
    cases o with
    | none => rw [e1] at q; exact q.elim
    | some s =>
      cases s with
      | fz d =>
        rw [e1] at q
        have h := st.at_ i
        rw [e1] at h
        cases e2 : σ[i]? with
        | none => rw [e2] at h; exact h.elim
        | some o =>
          cases o with
          | none => rw [e2] at h; exact h.elim
          | some v =>
            rw [e2] at h
            exact ⟨v, e2, k v Hf H (.fz d) (Step.refl st.i) h q⟩
      | own _ => rw [e1] at q; exact q.elim
      | lent _ => rw [e1] at q; exact q.elim
      | ob _ _ => rw [e1] at q; exact q.elim
      | exc _ _ => rw [e1] at q; exact q.elim
theorem vb_var {i : Nat} {x : Str} (hN : X.N[i]? = some x := by rfl) (hv : Vis X.env.scope x := by first | exact Or.inl rfl | exact Or.inr (Or.inl rfl) | exact Or.inr (Or.inr rfl)) (hd : (x == ("__debug__" : Str)) = false := by decide)
    (hcd : (x == ("__classdict__" : Str)) = false := by decide) : VB X T W z (.Name x pos) (bVar i) := PE.imp (pe_var hN hv hd hcd) fun σ H Qv ⟨H0, Hf, δ, Q, Xq, st, xo, k, q⟩ => by
  unfold bVar at q
  cases e1 : δ[i]? with
  | none => rw [e1] at q; exact q.elim
  | some o =>
    cases o with
    | none => rw [e1] at q; exact q.elim
    | some s =>
      rw [e1] at q
      have h := st.at_ i
      rw [e1] at h
      cases e2 : σ[i]? with
      | none => rw [e2] at h; exact h.elim
      | some o =>
        cases o with
        | none => rw [e2] at h; exact h.elim
        | some v =>
          rw [e2] at h
          refine ⟨v, e2, ?_⟩
          cases s with
          | fz d => exact k v Hf H d (Step.refl st.i) (.inl (.inl h)) q
          | own ds =>
            obtain ⟨a, vs, e3, e4, e5, e6, e7⟩ := h
            exact k v Hf H (.lst ds) (Step.refl st.i) (.inl (.inr ⟨a, vs, ds, rfl, e3, e6, e7⟩)) q
          | lent ds =>
            obtain ⟨a, vs, e3, e4, e5, e6⟩ := h
            exact k v Hf H (.lst ds) (Step.refl st.i) (.inl (.inr ⟨a, vs, ds, rfl, e3, e5, e6⟩)) q
          | ob c ds =>
            obtain ⟨a, dx, fs, e3, e4, e0, e5, e6, e7⟩ := h
            exact k v Hf H (.obj c ds) (Step.refl st.i) (.inr ⟨a, dx, fs, c, ds, rfl, e3, e0.2, e5, e6, e7⟩) q
          | exc c ds => exact q.elim
/-- what gives the value v whatever the slots are -/
theorem ve_of {d : D} {v : V} (h : PE X e (tC v)) (r : ∀ Hf, Rep T X.K Hf d v) : VE X T W z e (wLit d) := PE.imp h fun σ H Qv ⟨H0, Hf, δ, Q, Xq, st, xo, k, q⟩ => k v Hf H (.fz d) (Step.refl st.i) (r Hf) q
theorem ve_int {i : Int} {j : Nat} : VE X T W z (.Constant (.int i) j pos) (wLit (.int i)) := ve_of pe_int fun _ => by unfold Rep; rfl
theorem ve_bl {i : Bool} {j : Nat} : VE X T W z (.Constant (.bool i) j pos) (wLit (.bl i)) := ve_of pe_bl fun _ => by unfold Rep; rfl
theorem ve_non {j : Nat} : VE X T W z (.Constant .none j pos) (wLit .non) := ve_of pe_non fun _ => by unfold Rep; rfl
theorem ve_str {i : Str} {j : Nat} : VE X T W z (.Constant (.str i) j pos) (wLit (.str i)) := ve_of pe_str fun _ => by unfold Rep; rfl
theorem ve_gint {x : Str} {i : Int} (hg : Gl X x) (hm : ∃ t, X.mg x = some (.int i t)) (hd : (x == ("__debug__" : Str)) = false := by decide) : VE X T W z (.Name x pos) (wLit (.int i)) := by
  obtain ⟨t, hm⟩ := hm
  exact ve_of (v := .int i) (pe_glob hg hm ⟨t, rfl⟩ hd) fun _ => by unfold Rep; rfl
theorem ve_gstr {x y : Str} (hg : Gl X x) (hm : ∃ t, X.mg x = some (.str y t)) (hd : (x == ("__debug__" : Str)) = false := by decide) : VE X T W z (.Name x pos) (wLit (.str y)) := by
  obtain ⟨t, hm⟩ := hm
  exact ve_of (v := .str y) (pe_glob hg hm ⟨t, rfl⟩ hd) fun _ => by unfold Rep; rfl

/-! ### operators -/
def OpV (X : Cx) (T : Tab) (W : WX) (f : Value → Value → Sem Value) (op : Op2) : Prop := ∀ (pins : List (Addr × Obj)) (s : Shared) (σ : L2.St) (H Hf : Hp) (x y : V) (u v : Value) (dx dy : D) (Q : QR) (Xq : QX) (Qv : VK),
  Inv X pins σ H s → RelV x u → RelV y v → Ex Hf H → Rep T X.K Hf dx x → Rep T X.K Hf dy y → XOk T X.K W σ Hf H Xq → (∀ v Hf' H' r, Step Hf H Hf' H' → Res T X.K Hf' H' H v r → Q r → Qv v H') → op dx dy Q Xq →
  wpAny (model X.prog X.w) X.A (f u v) (EP X pins σ Qv) X.xe s
def OpB (X : Cx) (T : Tab) (W : WX) (f : Value → Value → Sem Value) (op : Op2) : Prop := ∀ (pins : List (Addr × Obj)) (s : Shared) (σ : L2.St) (H Hf : Hp) (x y : V) (u v : Value) (dx dy : D) (Q : QR) (Xq : QX) (Qv : VK),
  Inv X pins σ H s → RelV x u → RelV y v → Ex Hf H → BRep T X.K Hf H dx x → BRep T X.K Hf H dy y → XOk T X.K W σ Hf H Xq → (∀ v Hf' H' r, Step Hf H Hf' H' → Res T X.K Hf' H' H v r → Q r → Qv v H') → op dx dy Q Xq →
  wpAny (model X.prog X.w) X.A (f u v) (EP X pins σ Qv) X.xe s
def OpU (X : Cx) (T : Tab) (W : WX) (f : Value → Sem Value) (op : Op1) : Prop := ∀ (pins : List (Addr × Obj)) (s : Shared) (σ : L2.St) (H Hf : Hp) (x : V) (u : Value) (dx : D) (Q : QR) (Xq : QX) (Qv : VK),
  Inv X pins σ H s → RelV x u → Ex Hf H → Rep T X.K Hf dx x → XOk T X.K W σ Hf H Xq → (∀ v Hf' H' r, Step Hf H Hf' H' → Res T X.K Hf' H' H v r → Q r → Qv v H') → op dx Q Xq →
  wpAny (model X.prog X.w) X.A (f u) (EP X pins σ Qv) X.xe s
theorem OpB.toV {f : Value → Value → Sem Value} {op : Op2} (h : OpB X T W f op) : OpV X T W f op := fun pins s σ H Hf x y u v dx dy Q Xq Qv I rx ry i hx hy xo k q =>
  h pins s σ H Hf x y u v dx dy Q Xq Qv I rx ry i (.inl (.inl hx)) (.inl (.inl hy)) xo k q

theorem VD.two {Q : QR} {R : V → V → Hp → Hp → D → D → Prop} {pins : List (Addr × Obj)} {s : Shared} {σ : L2.St} {H H0 Hf : Hp} {δ : Fr} {Xq : QX} {Q2 : D → D → Prop} {fin : Value → Value → Shared → Prop}
    (ha : VD X T W z a u) (hb : VD X T W z b v) (I : Inv X pins σ H s) (st : StOk T X.K z H0 Hf H σ δ) (xo : XOk T X.K W σ Hf H Xq) (q : u δ (fun d => v δ (fun e => Q2 d e) Xq) Xq)
    (hf : ∀ va ub s2 x y H2 Hf2 d e, Inv X pins σ H2 s2 → RelV x va → RelV y ub → Step Hf H Hf2 H2 → Rep T X.K Hf2 d x → Rep T X.K Hf2 e y → Q2 d e → fin va ub s2) :
    wpAny (model X.prog X.w) X.A (eval a X.env) (fun va s1 => wpAny (model X.prog X.w) X.A (eval b X.env) (fun ub s2 => fin va ub s2) X.xe s1) X.xe s := by
  refine thn (ha.run pins s σ H (fun x H1 => ∃ Hf1 d, Step Hf H Hf1 H1 ∧ Rep T X.K Hf1 d x ∧ v δ (fun e => Q2 d e) Xq) I ⟨H0, Hf, δ, _, Xq, st, xo, fun x Hf1 H1 d S rp hq => ⟨Hf1, d, S, rp, hq⟩, q⟩) fun va s1 ⟨x, H1, I1, r1, Hf1, d, S1, rp1, q1⟩ => ?_
  refine thn (hb.run pins s1 σ H1 (fun y H2 => ∃ Hf2 e, Step Hf1 H1 Hf2 H2 ∧ Rep T X.K Hf2 e y ∧ Q2 d e) I1 ⟨H0, Hf1, δ, _, Xq, st.step S1, xo.step S1, fun y Hf2 H2 e S rp hq => ⟨Hf2, e, S, rp, hq⟩, q1⟩) fun ub s2 ⟨y, H2, I2, r2, Hf2, e, S2, rp2, q2⟩ => ?_
  exact hf va ub s2 x y H2 Hf2 d e I2 r1 r2 (S1.trans S2) (rp1.mono S2.f) rp2 q2
theorem VB.two {R : V → V → Hp → Hp → D → D → Prop} {pins : List (Addr × Obj)} {s : Shared} {σ : L2.St} {H H0 Hf : Hp} {δ : Fr} {Xq : QX} {Q2 : D → D → Prop} {fin : Value → Value → Shared → Prop}
    (ha : VB X T W z a u) (hb : VB X T W z b v) (I : Inv X pins σ H s) (st : StOk T X.K z H0 Hf H σ δ) (xo : XOk T X.K W σ Hf H Xq) (q : u δ (fun d => v δ (fun e => Q2 d e) Xq) Xq)
    (hf : ∀ va ub s2 x y H2 Hf2 d e, Inv X pins σ H2 s2 → RelV x va → RelV y ub → Step Hf H Hf2 H2 → BRep T X.K Hf2 H2 d x → BRep T X.K Hf2 H2 e y → Q2 d e → fin va ub s2) :
    wpAny (model X.prog X.w) X.A (eval a X.env) (fun va s1 => wpAny (model X.prog X.w) X.A (eval b X.env) (fun ub s2 => fin va ub s2) X.xe s1) X.xe s := by
  refine thn (ha.run pins s σ H (fun x H1 => ∃ Hf1 d, Step Hf H Hf1 H1 ∧ BRep T X.K Hf1 H1 d x ∧ v δ (fun e => Q2 d e) Xq) I ⟨H0, Hf, δ, _, Xq, st, xo, fun x Hf1 H1 d S rp hq => ⟨Hf1, d, S, rp, hq⟩, q⟩) fun va s1 ⟨x, H1, I1, r1, Hf1, d, S1, rp1, q1⟩ => ?_
  refine thn (hb.run pins s1 σ H1 (fun y H2 => ∃ Hf2 e, Step Hf1 H1 Hf2 H2 ∧ BRep T X.K Hf2 H2 e y ∧ Q2 d e) I1 ⟨H0, Hf1, δ, _, Xq, st.step S1, xo.step S1, fun y Hf2 H2 e S rp hq => ⟨Hf2, e, S, rp, hq⟩, q1⟩) fun ub s2 ⟨y, H2, I2, r2, Hf2, e, S2, rp2, q2⟩ => ?_
  exact hf va ub s2 x y H2 Hf2 d e I2 r1 r2 (S1.trans S2) (rp1.step S2) rp2 q2
/-- what a rule's end hands on: the value of a step from Hf1, H1 is one from Hf, H -/
theorem kont {Hf H Hf1 H1 : Hp} {Q : QR} {Qv : VK} {T : Tab} {K : PySem.W.Frag} (k : ∀ v Hf' H' r, Step Hf H Hf' H' → Res T K Hf' H' H v r → Q r → Qv v H') (S : Step Hf H Hf1 H1) :
    ∀ v Hf' H' r, Step Hf1 H1 Hf' H' → Res T K Hf' H' H1 v r → Q r → Qv v H' := fun v Hf' H' r S' rs q => by
  refine k v Hf' H' r (S.trans S') ?_ q
  cases r with
  | fz d => exact rs
  | own ds =>
    obtain ⟨a, vs, e1, e2, e3, e4, e5⟩ := rs
    exact ⟨a, vs, e1, e2, S.h.fresh e3, e4, e5⟩
theorem ve_bin {op : Operator} {w2 : Op2} (ho : OpV X T W (binaryOp op) w2) (ha : VE X T W z a ta) (hb : VE X T W z b tb) : VE X T W z (.BinOp a op b pos) (wBin w2 ta tb) :=
  ⟨fun pins s σ H Qv I ⟨H0, Hf, δ, Q, Xq, st, xo, k, q⟩ => wpAny_BinOp (VD.two (Q := Q) (R := fun _ _ _ _ _ _ => True) (Q2 := fun d e => w2 d e Q Xq) ha.toD hb.toD I st xo q fun va ub s2 x y H2 Hf2 d e I2 rx ry S r1 r2 q2 =>
    ho pins s2 σ H2 Hf2 x y va ub d e Q Xq Qv I2 rx ry S.i r1 r2 (xo.step S) (kont k S) q2)⟩
theorem ve_binB {op : Operator} {w2 : Op2} (ho : OpB X T W (binaryOp op) w2) (ha : VB X T W z a u) (hb : VB X T W z b v) : VE X T W z (.BinOp a op b pos) (wBinB w2 u v) :=
  ⟨fun pins s σ H Qv I ⟨H0, Hf, δ, Q, Xq, st, xo, k, q⟩ => wpAny_BinOp (VB.two (R := fun _ _ _ _ _ _ => True) (Q2 := fun d e => w2 d e Q Xq) ha hb I st xo q fun va ub s2 x y H2 Hf2 d e I2 rx ry S r1 r2 q2 =>
    ho pins s2 σ H2 Hf2 x y va ub d e Q Xq Qv I2 rx ry S.i r1 r2 (xo.step S) (kont k S) q2)⟩
theorem ve_un {op : UnaryOp} {w1 : Op1} (ho : OpU X T W (unaryOp op) w1) (ha : VE X T W z a ta) : VE X T W z (.UnaryOp op a pos) (wUn w1 ta) := by
  refine ⟨fun pins s σ H Qv I ⟨H0, Hf, δ, Q, Xq, st, xo, k, q⟩ => ?_⟩
  refine UnaryOp_ (thn (VE.toD ha |>.run pins s σ H (fun x H1 => ∃ Hf1 d, Step Hf H Hf1 H1 ∧ Rep T X.K Hf1 d x ∧ w1 d Q Xq) I ⟨H0, Hf, δ, _, Xq, st, xo, fun x Hf1 H1 d S rp hq => ⟨Hf1, d, S, rp, hq⟩, q⟩) fun va s1 ⟨x, H1, I1, r1, Hf1, d, S1, rp1, q1⟩ => ?_)
  exact ho pins s1 σ H1 Hf1 x va d Q Xq Qv I1 r1 S1.i rp1 (xo.step S1) (kont k S1) q1
/-- a comparison -/
theorem ve_cmp {op : CmpOp} {w2 : Op2} (ho : OpV X T W (compareOp op) w2) (ha : VE X T W z a ta) (hb : VE X T W z b tb) (hm : behindInMarks op b = false) : VE X T W z (.Compare a [op] [b] pos) (wBin w2 ta tb) :=
  ⟨fun pins s σ H Qv I ⟨H0, Hf, δ, Q, Xq, st, xo, k, q⟩ => wpAny_Compare1 (VD.two (Q := Q) (R := fun _ _ _ _ _ _ => True) (Q2 := fun d e => w2 d e Q Xq) ha.toD hb.toD I st xo q fun va ub s2 x y H2 Hf2 d e I2 rx ry S r1 r2 q2 =>
    ho pins s2 σ H2 Hf2 x y va ub d e Q Xq Qv I2 rx ry S.i r1 r2 (xo.step S) (kont k S) q2) hm⟩
theorem ve_cmpB {op : CmpOp} {w2 : Op2} (ho : OpB X T W (compareOp op) w2) (ha : VB X T W z a u) (hb : VB X T W z b v) (hm : behindInMarks op b = false) : VE X T W z (.Compare a [op] [b] pos) (wBinB w2 u v) :=
  ⟨fun pins s σ H Qv I ⟨H0, Hf, δ, Q, Xq, st, xo, k, q⟩ => wpAny_Compare1 (VB.two (R := fun _ _ _ _ _ _ => True) (Q2 := fun d e => w2 d e Q Xq) ha hb I st xo q fun va ub s2 x y H2 Hf2 d e I2 rx ry S r1 r2 q2 =>
    ho pins s2 σ H2 Hf2 x y va ub d e Q Xq Qv I2 rx ry S.i r1 r2 (xo.step S) (kont k S) q2) hm⟩
/-- a rule of the hand layer for numbers -/
theorem opB_I {f : Value → Value → Sem Value} {C : Int → Int → Prop} {g : Int → Int → V} {g2 : Int → Int → D} (h : OpR X f (rI C g)) (hg : ∀ i j Hf, Rep T X.K Hf (g2 i j) (g i j)) :
    OpB X T W f (fun x y Q _ => match x, y with | .int i, .int j => C i j ∧ Q (.fz (g2 i j)) | _, _ => False) := by
  intro pins s σ H Hf x y u v dx dy Q Xq Qv I rx ry i hx hy xo k q
  cases dx <;> cases dy <;> try exact q.elim
  rename_i i1 j1
  have e1 : x = .int i1 := by
    rcases hx with (hx | ⟨_, _, _, e, _⟩) | ⟨_, _, _, _, _, e, _⟩
    · unfold Rep at hx; exact hx
    · cases e
    · cases e
  have e2 : y = .int j1 := by
    rcases hy with (hy | ⟨_, _, _, e, _⟩) | ⟨_, _, _, _, _, e, _⟩
    · unfold Rep at hy; exact hy
    · cases e
    · cases e
  subst e1 e2
  exact h pins s σ H _ _ u v Qv I rx ry ⟨i1, j1, rfl, rfl, q.1, k _ Hf H (.fz (g2 i1 j1)) (Step.refl i) (hg _ _ _) q.2⟩
end
end VL
end
section
set_option Elab.async false
set_option linter.all false
set_option maxRecDepth 100000
set_option maxHeartbeats 4000000
/-! VLop: operators of own classes, at the machine's level. -/
namespace PySem.W
open PySem PySem.Calls PyProof.Rows Builtin

section
variable {prog : Program} {w : World} {A : Around} {E : Value → Shared → Prop} {s : Shared} {K : Frag} {x C f : Addr} {ox : Obj} {od : Option Obj} {nm T : String} {b : Value}

theorem vl_first (hc : selfFirst K C = true) : ∃ cd rest, clsIn K C = some cd ∧ cd.mro = .ref C :: rest := by
  obtain ⟨cd, hcd, hm⟩ := any_some hc
  cases q : cd.mro with
  | nil => rw [q] at hm; cases hm
  | cons a r => rw [q, List.head?_cons] at hm; cases (beq_iff_eq.mp hm); exact ⟨cd, r, hcd, q⟩
theorem vl_try {Q : Value → Shared → Prop} {name : Str} (X : K.In s.heap) (I : InstAt s.heap x ox C od) (hs : findIn K (.ref C) name = some (some (.ref f))) (hf : isFn K (.ref f) = true)
    (h : wpAny (model prog w) A (call (.ref f) [.ref x, b]) (CmpBack Q) E s) : wpAny (model prog w) A (tryMethod (.ref x) name b) (fun r s' => ∃ v, r = some v ∧ Q v s') E s := by
  unfold tryMethod
  refine wpAny_bind (special_fn X I hs (beq_iff_eq.mp hf) (wpAny_mono h (fun v s' hv => ?_) fun _ _ e => e))
  cases v <;> first | exact hv.elim | exact wpAny_pure ⟨_, rfl, hv⟩
/-- both of one own class -/
theorem vl_bin1_same {Q : Value → Shared → Prop} (X : K.In s.heap) (I : InstAt s.heap x ox C od) (hb : Looks (model prog w) s.heap (typeOf b) (.ref C)) (hc : selfFirst K C = true)
    (hs : findIn K (.ref C) (PySem.dunder nm) = some (some (.ref f))) (hf : isFn K (.ref f) = true)
    (h : wpAny (model prog w) A (call (.ref f) [.ref x, b]) (CmpBack Q) E s) : wpAny (model prog w) A (binaryOp1 nm (.ref x) b) (fun r s' => ∃ v, r = some v ∧ Q v s') E s := by
  obtain ⟨cd, rest, hcd, hm⟩ := vl_first hc
  unfold binaryOp1
  refine wpAny_bind (I.type.here (wpAny_bind (hb.here (wpAny_bind ((fills_K X hcd hm hs).here ?_)))))
  simp only [beq_self_eq_true, if_true]
  refine wpAny_bind (wpAny_pure ?_)
  simp only [Bool.and_false, Bool.false_eq_true, if_false, Bool.false_and]
  refine wpAny_bind (wpAny_pure ?_)
  simp only [Bool.false_eq_true, if_false]
  refine wpAny_bind (wpAny_mono (vl_try X I hs hf h) (fun r s' hr => ?_) fun _ _ e => e)
  obtain ⟨v, rfl, hq⟩ := hr
  exact wpAny_pure ⟨v, rfl, hq⟩
/-- an own instance, then a value of a built-in class -/
theorem vl_bin1_T {fo ro rc : Option Value} {Q : Value → Shared → Prop} (X : K.In s.heap) (I : InstAt s.heap x ox C od) (hb : typeOf b = pure (.type T)) (hc : selfFirst K C = true)
    (hs : findIn K (.ref C) (PySem.dunder nm) = some (some (.ref f))) (hf : isFn K (.ref f) = true) (hr : findIn K (.ref C) (dunderR nm) = some rc) (hp : rc = none ∨ ∃ g : Addr, rc = some (.ref g))
    (h1 : findIn K (.type T) (PySem.dunder nm) = some fo) (h2 : findIn K (.type T) (dunderR nm) = some ro) (hsub : subIn K (.type T) (.ref C) = some false)
    (h : wpAny (model prog w) A (call (.ref f) [.ref x, b]) (CmpBack Q) E s) : wpAny (model prog w) A (binaryOp1 nm (.ref x) b) (fun r s' => ∃ v, r = some v ∧ Q v s') E s := by
  obtain ⟨cd, rest, hcd, hm⟩ := vl_first hc
  have one := vl_try X I hs hf h
  obtain ⟨hh, g, d, tt, os⟩ := s
  have L1 : Looks (model prog w) hh (typeOf (.ref x)) (.ref C) := I.type
  have L2 : Looks (model prog w) hh (typeOf b) (.type T) := Looks.of_pure hb
  have L3 : Looks (model prog w) hh (fillsNumberSlot (.ref C) nm) true := fills_K X hcd hm hs
  have L4 : Looks (model prog w) hh (fillsNumberSlot (.type T) nm) ((fo.isSome && !isSeqSlot fo) || (ro.isSome && !isSeqSlot ro)) := ksp_fillsT X h1 h2
  have L5 : Looks (model prog w) hh (isSubtype (.type T) (.ref C)) false := looks_subIn X hsub
  have L6 : Looks (model prog w) hh (numberSlotInPython (.ref C) nm) true := ksp_inPy X hs hr hp
  have L7 : Looks (model prog w) hh (numberSlotInPython (.type T) nm) false := Looks.of_pure rfl
  have L8 : Looks (model prog w) hh (typeLookup (.type T) (dunderR nm)) ro := looks_findIn X h2
  generalize ((fo.isSome && !isSeqSlot fo) || (ro.isSome && !isSeqSlot ro)) = right at L4
  have hne : (Value.ref C == Value.type T) = false := Bool.eq_false_iff.mpr fun q => by cases beq_iff_eq.mp q
  unfold binaryOp1
  refine wpAny_bind (L1.at (wpAny_bind (L2.at (wpAny_bind (L3.at ?_)))))
  simp only [hne, Bool.false_eq_true, if_false]
  cases right with
  | false =>
    ksp_lk
    refine wpAny_mono one (fun r s' hr' => ?_) fun _ _ e => e
    obtain ⟨v, rfl, hq⟩ := hr'
    ksp_lk
    exact ⟨_, rfl, hq⟩
  | true =>
    ksp_lk
    refine wpAny_mono one (fun r s' hr' => ?_) fun _ _ e => e
    obtain ⟨v, rfl, hq⟩ := hr'
    ksp_lk
    exact ⟨_, rfl, hq⟩
/-- a value of a built-in class whose own slot declines, then an own instance's reflected method -/
theorem vl_bin1_R {id : String} {Q : Value → Shared → Prop} {a : Value} (X : K.In s.heap) (I : InstAt s.heap x ox C od) (ha : ∀ s' : Shared, s'.TypeIs a T) (hty : typeOf a = pure (.type T)) (hc : selfFirst K C = true)
    (hfl : Looks (model prog w) s.heap (fillsNumberSlot (.ref C) nm) true)
    (hs : findIn K (.ref C) (dunderR nm) = some (some (.ref f))) (hf : isFn K (.ref f) = true)
    (hfT : fillsNumberSlot (.type T) nm = pure true) (hsl : Slot T (PySem.dunder nm) id) (hsub : subIn K (.ref C) (.type T) = some false)
    (hcall : wpAny (model prog w) A (call (.builtin id) [a, .ref x]) (fun v s' => v = .notImplemented ∧ s' = s) E s)
    (h : wpAny (model prog w) A (call (.ref f) [.ref x, a]) (CmpBack Q) E s) : wpAny (model prog w) A (binaryOp1 nm a (.ref x)) (fun r s' => ∃ v, r = some v ∧ Q v s') E s := by
  have one := vl_try X I hs hf h
  have hne : (Value.type T == Value.ref C) = false := Bool.eq_false_iff.mpr fun q => by cases beq_iff_eq.mp q
  unfold binaryOp1
  refine wpAny_bind (wpAny_of_eq hty (wpAny_bind (I.type.here (wpAny_bind (wpAny_of_eq hfT ?_)))))
  simp only [hne, Bool.false_eq_true, if_false]
  refine wpAny_bind (hfl.here ?_)
  simp only [Bool.and_self, if_true]
  refine wpAny_bind ((looks_subIn X hsub).here ?_)
  simp only [Bool.false_eq_true, if_false, pure_bind, Bool.not_false, Bool.and_self, if_true, Bool.and_true]
  have hpy : numberSlotInPython (.type T) nm = pure false := rfl
  simp only [hpy, pure_bind, Bool.false_eq_true, if_false]
  refine wpAny_bind (wpAny_tryMethod_declines (ha s) hsl (wpAny_mono hcall (fun v s' h' => ⟨h'.1, ?_⟩) fun _ _ e => e))
  obtain ⟨_, rfl⟩ := h'
  refine wpAny_bind (wpAny_mono one (fun r s' hr => ?_) fun _ _ e => e)
  obtain ⟨v, rfl, hq⟩ := hr
  exact wpAny_bind (wpAny_rule (wpAny_pure ⟨v, rfl, hq⟩))
/-- the operator from its first part -/
theorem vl_bin {op : Operator} {a : Value} {Q : Value → Shared → Prop} (h : wpAny (model prog w) A (binaryOp1 op.info.2 a b) (fun r s' => ∃ v, r = some v ∧ Q v s') E s) : wpAny (model prog w) A (binaryOp op a b) Q E s := by
  unfold binaryOp
  refine wpAny_holding ?_
  refine wpAny_bind (wpAny_mono h (fun r s' hr => ?_) fun _ _ e => e)
  obtain ⟨v, rfl, hq⟩ := hr
  exact wpAny_pure hq
/-- no in-place method: op= as op -/
theorem vl_inp {op : Operator} {a ta : Value} {Q : Value → Shared → Prop} (ht : Looks (model prog w) s.heap (typeOf a) ta) (hn : Looks (model prog w) s.heap (fillsInplaceSlot ta op.info.2 (op == .Add)) false)
    (h : wpAny (model prog w) A (binaryOp1 op.info.2 a b) (fun r s' => ∃ v, r = some v ∧ Q v s') E s) : wpAny (model prog w) A (inplaceOp op a b) Q E s := by
  unfold inplaceOp
  refine wpAny_holding ?_
  refine wpAny_bind (ht.here (wpAny_bind (hn.here ?_)))
  simp only [Bool.false_eq_true, if_false]
  refine wpAny_bind (wpAny_mono h (fun r s' hr => ?_) fun _ _ e => e)
  obtain ⟨v, rfl, hq⟩ := hr
  exact wpAny_pure hq
theorem vl_anyM_none {M : Model} {h : Heap} {g : Value → Sem Bool} : ∀ {l : List Value}, (∀ c ∈ l, Looks M h (g c) false) → Looks M h (l.anyM g) false
  | [], _ => .now
  | c :: r, e => by
    rw [List.anyM_cons]
    exact (e c List.mem_cons_self).andThen (vl_anyM_none fun d hd => e d (List.mem_cons_of_mem _ hd))
theorem vl_fillsI {M : Model} {h : Heap} {cd : ClassData} {i : String} {add : Bool} (X : K.In h) (hc : clsIn K C = some cd) (hn : ∀ c ∈ cd.mro, findIn K c (dunderI i) = some none) : Looks M h (fillsInplaceSlot (.ref C) i add) false := by
  have Lm : Looks M h (mroOf (.ref C)) cd.mro := (looks_clsIn X hc).andThen (f := fun cd => pure cd.mro) .now
  unfold fillsInplaceSlot
  refine Lm.andThen (vl_anyM_none fun c hcm => ?_)
  have L := looks_findIn (M := M) X (hn c hcm)
  exact L.andThen .now
end
end PySem.W
end
section
set_option Elab.async false
set_option linter.all false
set_option maxRecDepth 100000
set_option maxHeartbeats 4000000
/-! VLop2: comparisons of own classes, what a whole number's own slots decline. -/
namespace PySem
open Builtin
section
/-- what int's slots say of an instance of an own class -/
theorem vl_decl {B : Builtin} {a : Int} {t : Tok} {l C dx : Addr} (h : Meets (B ⟨[.int a t, .ref l], []⟩) (fun _ R s => s.heap.get? l = some (W.instObj C dx) ∧ R (.ok (.ret Value.notImplemented)) s)) :
    Meets (B ⟨[.int a t, .ref l], []⟩) (fun _ R s => s.heap.get? l = some (W.instObj C dx) ∧ R (.ok (.ret Value.notImplemented)) s) := h
variable (a : Int) (t : Tok) (l C dx : Addr)
theorem vl_int_add : Meets (Builtin.«int.__add__» ⟨[.int a t, .ref l], []⟩) (fun _ R s => s.heap.get? l = some (W.instObj C dx) ∧ R (.ok (.ret Value.notImplemented)) s) :=
  .of_wp fun prog w A R s h => by obtain ⟨hp, g, d, tk, os⟩ := s; obtain ⟨hl, h⟩ := h; unfold W.instObj at hl; wp_walk; exact ⟨_, rfl, h⟩
theorem vl_int_sub : Meets (Builtin.«int.__sub__» ⟨[.int a t, .ref l], []⟩) (fun _ R s => s.heap.get? l = some (W.instObj C dx) ∧ R (.ok (.ret Value.notImplemented)) s) :=
  .of_wp fun prog w A R s h => by obtain ⟨hp, g, d, tk, os⟩ := s; obtain ⟨hl, h⟩ := h; unfold W.instObj at hl; wp_walk; exact ⟨_, rfl, h⟩
theorem vl_int_mul : Meets (Builtin.«int.__mul__» ⟨[.int a t, .ref l], []⟩) (fun _ R s => s.heap.get? l = some (W.instObj C dx) ∧ R (.ok (.ret Value.notImplemented)) s) :=
  .of_wp fun prog w A R s h => by obtain ⟨hp, g, d, tk, os⟩ := s; obtain ⟨hl, h⟩ := h; unfold W.instObj at hl; wp_walk; exact ⟨_, rfl, h⟩
theorem vl_int_eq : Meets (Builtin.«int.__eq__» ⟨[.int a t, .ref l], []⟩) (fun _ R s => s.heap.get? l = some (W.instObj C dx) ∧ R (.ok (.ret Value.notImplemented)) s) :=
  .of_wp fun prog w A R s h => by obtain ⟨hp, g, d, tk, os⟩ := s; obtain ⟨hl, h⟩ := h; unfold W.instObj at hl; wp_walk; exact ⟨_, rfl, h⟩
theorem vl_int_ne : Meets (Builtin.«int.__ne__» ⟨[.int a t, .ref l], []⟩) (fun _ R s => s.heap.get? l = some (W.instObj C dx) ∧ R (.ok (.ret Value.notImplemented)) s) :=
  .of_wp fun prog w A R s h => by obtain ⟨hp, g, d, tk, os⟩ := s; obtain ⟨hl, h⟩ := h; unfold W.instObj at hl; wp_walk; exact ⟨_, rfl, h⟩
end
end PySem
namespace PySem.W
open PySem PySem.Calls PyProof.Rows Builtin
section
variable {prog : Program} {w : World} {A : Around} {E : Value → Shared → Prop} {s : Shared} {K : Frag} {x C f : Addr} {ox : Obj} {od : Option Obj} {T : String} {b tb : Value}
theorem vl_bind_ne (self : Value) : bindSpecial (.builtin "object.__ne__") self = pure (.builtin "object.__ne__", [self]) :=
  (Slot.of (T := "object") (name := "__ne__") (owner := "object") (n := "__ne__") (by rw [typeLookup_type, builtinLookup_eq_fast]; kernel_rfl) (by decide +kernel) (by decide +kernel) (by decide +kernel)
    (.inl (by decide +kernel)) (by rw [isSubtype_type]; kernel_rfl)).bind self
theorem vl_plain_ne : plainId "object.__ne__" = true := by decide +kernel
/-- callSpecialIfBound? of a slot that the class inherits from object -/
theorem vl_ifBoundB {M : Model} {args : List Value} {name : Str} {id : String} {Q : Option Value → Shared → Prop} (X : K.In s.heap) (I : InstAt s.heap x ox C od) (hs : findIn K (.ref C) name = some (some (.builtin id)))
    (hb : ∀ self, bindSpecial (.builtin id) self = pure (.builtin id, [self]))
    (h : wpAny M A (call (.builtin id) (.ref x :: args)) (fun v => Q (some v)) E s) : wpAny M A (callSpecialIfBound? (.ref x) name args) Q E s := by
  simp only [callSpecialIfBound?, bindSpecialIfBound?]
  refine wpAny_holding (wpAny_bind (wpAny_bind (wpAny_bind (I.type.here ((looks_findIn X hs).here ?_)))))
  refine wpAny_bind (wpAny_askSetting (wpAny_ite ?_))
  have fin : wpAny M A (call (.builtin id) ([.ref x] ++ args) >>= fun v => pure (some v)) Q E s := wpAny_bind (wpAny_mono h (fun v s' h' => wpAny_pure h') fun _ _ h' => h')
  split
  · exact wpAny_bind (wpAny_of_eq (hb _) (wpAny_pure (by exact fin)))
  · exact wpAny_tryCatch (wpAny_bind (wpAny_of_eq (hb _) (wpAny_pure (by exact fin))))
/-- object.__ne__ of an instance with an own __eq__ -/
theorem vl_objNe {Q : Fin → Shared → Prop} (X : K.In s.heap) (I : InstAt s.heap x ox C od) (hs : findIn K (.ref C) "__eq__" = some (some (.ref f))) (hf : isFn K (.ref f) = true) (hu : A.units < cLine)
    (hcall : wpAny (model prog w) A (call (.ref f) [.ref x, b]) (fun v s' => ∃ c, v = .bool c ∧ Q (.done (.ret (.bool (!c)))) s') E s) :
    wpAny (model prog w) A (Builtin.«object.__ne__» ⟨[.ref x, b], []⟩) Q E s := by
  unfold Builtin.«object.__ne__»
  repeat (first
    | with_reducible refine wpAny_cRoomFor hu ?_
    | (refine wpAny_bind (m := callSpecialIfBound? (.ref x) (Str.ofString "__eq__") [b])
        (ifBound_K X I hs hf (wpAny_mono hcall (fun r s' hr => by
          obtain ⟨b, rfl, hq⟩ := hr
          repeat (first | exact hq | exact wpAny_pure hq | exact wpAny_truthy_bool hq | (refine wpAny_bind (m := truthy (.bool _)) (wpAny_truthy_bool ?_)) | wp_step)) fun _ _ e => e)))
    | wp_step)
/-- x != b by object.__ne__ -/
theorem vl_tryNe {Q : Value → Shared → Prop} (X : K.In s.heap) (I : InstAt s.heap x ox C od) (hne : findIn K (.ref C) "__ne__" = some (some (.builtin "object.__ne__"))) (hm : mroIn K C (.type "object") = some true)
    (hs : findIn K (.ref C) "__eq__" = some (some (.ref f))) (hf : isFn K (.ref f) = true) (hu : A.units + 1 < cLine)
    (hcall : wpAny (model prog w) A.in1 (call (.ref f) [.ref x, b]) (fun v s' => ∃ c, v = .bool c ∧ Q (.bool (!c)) s') E s) :
    wpAny (model prog w) A (tryCompare (.ref x) "__ne__" b) (fun r s' => ∃ v, r = some v ∧ Q v s') E s := by
  unfold tryCompare
  have sub : Looks (model prog w) s.heap (isInstance (.ref x) (.type "object")) true := I.type.andThen (looks_mroIn X hm)
  refine wpAny_bind (vl_ifBoundB X I hne vl_bind_ne (wpAny_call (codeAny_call_builtin vl_plain_ne F.cmpEntry_ne
    (check_slot F.cmpKind_ne F.cmpSplit_ne sub (F.cmpArgs_ne _ _) (vl_objNe (A := A.in1) X I hs hf hu (wpAny_mono hcall (fun v s' hv => ?_) fun _ _ e => e))))))
  obtain ⟨c, rfl, hq⟩ := hv
  refine ⟨c, rfl, ?_⟩
  first
    | exact ⟨_, rfl, hq⟩
    | exact wpAny_pure ⟨_, rfl, hq⟩
    | exact wpAny_pure (wpAny_pure ⟨_, rfl, hq⟩)
/-- the comparison from its left side's try -/
theorem vl_rcLeft {op : CmpOp} {Q : Value → Shared → Prop} (hu : A.units < cLine) (X : K.In s.heap) (I : InstAt s.heap x ox C od) (hb : Looks (model prog w) s.heap (typeOf b) tb) (hn : notFirst K C tb = true)
    (one : wpAny (model prog w) A (tryCompare (.ref x) (cmpInfo op).2.1 b) (fun r s' => ∃ v, r = some v ∧ Q v s') E s) : wpAny (model prog w) A (richCompare op (.ref x) b) Q E s := by
  unfold richCompare
  simp only [oneThing_ref]
  refine wpAny_holding (wpAny_bind (wpAny_cRoomFor hu ?_))
  refine wpAny_bind (I.type.here (wpAny_bind (hb.here ?_)))
  split
  · rename_i q
    have e : subIn K tb (.ref C) = some false := by
      rcases Bool.or_eq_true_iff.mp hn with e | e
      · rw [beq_iff_eq.mp e] at q; simp at q
      · exact beq_iff_eq.mp e
    refine wpAny_bind ((looks_subIn X e).here ?_)
    simp only [Bool.false_eq_true, if_false]
    refine wpAny_bind (wpAny_mono one (fun r s' z => ?_) fun _ _ e => e)
    obtain ⟨v, rfl, hq⟩ := z
    exact wpAny_pure hq
  · refine wpAny_bind (wpAny_pure ?_)
    simp only [Bool.false_eq_true, if_false]
    refine wpAny_bind (wpAny_mono one (fun r s' z => ?_) fun _ _ e => e)
    obtain ⟨v, rfl, hq⟩ := z
    exact wpAny_pure hq
theorem vl_tryCmp {name : Str} {Q : Value → Shared → Prop} (X : K.In s.heap) (I : InstAt s.heap x ox C od) (hs : findIn K (.ref C) name = some (some (.ref f))) (hf : isFn K (.ref f) = true)
    (h : wpAny (model prog w) A (call (.ref f) [.ref x, b]) (CmpBack Q) E s) : wpAny (model prog w) A (tryCompare (.ref x) name b) (fun r s' => ∃ v, r = some v ∧ Q v s') E s := by
  unfold tryCompare
  refine wpAny_bind (ifBound_K X I hs hf (wpAny_mono h (fun v s' hv => ?_) fun _ _ e => e))
  cases v <;> first | exact hv.elim | exact wpAny_pure ⟨_, rfl, hv⟩
/-- a left side of a built-in class that declines, then the instance's own -/
theorem vl_rcRight {op : CmpOp} {id : String} {i : Int} {t : Tok} {Q : Value → Shared → Prop} (hu : A.units < cLine) (X : K.In s.heap) (I : InstAt s.heap x ox C od) (hsub : subIn K (.ref C) (.type "int") = some false)
    (hsl : Slot "int" (cmpInfo op).2.1 id) (hcall : wpAny (model prog w) A (call (.builtin id) [.int i t, .ref x]) (fun v s' => v = .notImplemented ∧ s' = s) E s)
    (one : wpAny (model prog w) A (tryCompare (.ref x) (cmpInfo op).2.2 (.int i t)) (fun r s' => ∃ v, r = some v ∧ Q v s') E s) : wpAny (model prog w) A (richCompare op (.int i t) (.ref x)) Q E s := by
  unfold richCompare
  have h1 : oneThing? op (.int i t) (.ref x) = none := by cases op <;> rfl
  simp only [h1]
  refine wpAny_holding (wpAny_bind (wpAny_cRoomFor hu ?_))
  refine wpAny_bind (wpAny_of_eq (show typeOf (.int i t) = pure (.type "int") from rfl) (wpAny_bind (I.type.here ?_)))
  have hne : (Value.type "int" != Value.ref C) = true := rfl
  simp only [hne, if_true]
  refine wpAny_bind ((looks_subIn X hsub).here ?_)
  simp only [Bool.false_eq_true, if_false]
  refine wpAny_bind (m := tryCompare _ _ _) (wpAny_tryCompare_declines (typeIs_int s i t) hsl (wpAny_mono hcall (fun v s' h' => ⟨h'.1, ?_⟩) fun _ _ e => e))
  obtain ⟨_, rfl⟩ := h'
  simp only [Bool.not_false, if_true]
  refine wpAny_bind (wpAny_mono one (fun r s' z => ?_) fun _ _ e => e)
  obtain ⟨v, rfl, hq⟩ := z
  exact wpAny_pure hq
end
end PySem.W
end
section
set_option Elab.async false
set_option linter.all false
set_option maxRecDepth 100000
set_option maxHeartbeats 4000000
/-! VLs3: defs called, operators of numbers, texts, lists and own classes. -/
namespace VL
open PySem PySem.Spec PyProof.Rows L2

/-! ### a def that keeps its spec -/
structure FnV (P : Program) (w : World) (K : PySem.W.Frag) (mg : Str → Option Value) (base : Heap) (T : Tab) (k : Nat) (f : Addr) (ms : List Bool) (dv : List D) (sp : FS) : Prop where
  ex : ∃ (fd : FuncData) (ps : List Str) (ds : List Value) (dvs : List V), FnOk P w K mg base (L2.CX P w) k f fd ps (SpV T K (ms ++ List.replicate dv.length false) sp) ∧ Binds K fd ps ds ∧ Vals dvs ds ∧ ∀ H, RepL T K H dv dvs
  kp : PySem.W.keepIn K (.ref f) = true
theorem ArgsOk.ofRep {T : Tab} {K : PySem.W.Frag} {Hf H : Hp} : ∀ {ds : List D} {vs : List V}, RepL T K Hf ds vs → ArgsOk T K Hf H (List.replicate ds.length false) ds vs
  | [], vs, h => ⟨rfl, repL_nil.mp h⟩
  | d :: ds, vs, h => by
    obtain ⟨v, r, rfl, h2, h3⟩ := repL_cons.mp h
    exact ⟨d, ds, v, r, rfl, rfl, h2, ArgsOk.ofRep h3⟩
theorem FnV.mono {P : Program} {w : World} {K : PySem.W.Frag} {mg : Str → Option Value} {base : Heap} {T : Tab} {j k : Nat} {f : Addr} {ms : List Bool} {dv : List D} {sp : FS} (F : FnV P w K mg base T j f ms dv sp) (h : j ≤ k) : FnV P w K mg base T k f ms dv sp := by
  obtain ⟨⟨fd, ps, ds, dvs, h1, h2⟩, kp⟩ := F
  exact ⟨⟨fd, ps, ds, dvs, h1.mono h, h2⟩, kp⟩
section
variable {X : Cx} {T : Tab} {W : WX} {z : Hd} {k : Nat} {f : Addr} {ms : List Bool} {dv : List D} {sp : FS}
theorem callV (F : FnV X.prog X.w X.K X.mg X.base T k f ms dv sp) (hr : Room k X.A) (tk : Takes X W) {pins : List (Addr × Obj)} {s : Shared} {σ : L2.St} {H Hf : Hp} {vs : List V} {us : List Value} {ds : List D} {Q : QR} {Xq : QX} {Qv : VK}
    (I : Inv X pins σ H s) (r : Vals vs us) (i : Ex Hf H) (ha : ArgsOk T X.K Hf H ms ds vs) (xo : XOk T X.K W σ Hf H Xq) (kt : ∀ v Hf' H' r, Step Hf H Hf' H' → Res T X.K Hf' H' H v r → Q r → Qv v H') (q : sp (ds ++ dv) Q Xq) :
    wpAny (model X.prog X.w) X.A (call (.ref f) us) (EP X pins σ Qv) X.xe s := by
  obtain ⟨fd, ps, des, dvs, G, b, rd, hd⟩ := F.ex
  have h : SpV T X.K (ms ++ List.replicate dv.length false) sp (vs ++ dvs) H Qv (L2.WE W σ) := ⟨Hf, ds ++ dv, Q, Xq, i, ha.append (ArgsOk.ofRep (hd Hf)), kt, fun x cls d Hf' H' S rx hx => xo x cls d Hf' H' S rx hx, q⟩
  exact run_fnSD G hr b rd (passAt tk σ) I r h
end

theorem CE.ep {pins : List (Addr × Obj)} {s s' : Shared} {σ : L2.St} {H : Hp} {Q : VK} {u : Value} (I : Inv X pins σ H s) (h : CE X.stack X.prog X.w H s Q u s') : EP X pins σ Q u s' := I.after h
/-- the same, one place further in -/
theorem callV1 (F : FnV X.prog X.w X.K X.mg X.base T k f ms dv sp) (hr : Room (k + 1) X.A) (tk : Takes X W) {pins : List (Addr × Obj)} {s : Shared} {σ : L2.St} {H Hf : Hp} {vs : List V} {us : List Value} {ds : List D} {Q : QR} {Xq : QX} {Qv : VK}
    (I : Inv X pins σ H s) (r : Vals vs us) (i : Ex Hf H) (ha : ArgsOk T X.K Hf H ms ds vs) (xo : XOk T X.K W σ Hf H Xq) (kt : ∀ v Hf' H' r, Step Hf H Hf' H' → Res T X.K Hf' H' H v r → Q r → Qv v H') (q : sp (ds ++ dv) Q Xq) :
    wpAny (model X.prog X.w) X.A.in1 (call (.ref f) us) (EP X pins σ Qv) X.xe s := by
  obtain ⟨fd, ps, des, dvs, G, b, rd, hd⟩ := F.ex
  have h : SpV T X.K (ms ++ List.replicate dv.length false) sp (vs ++ dvs) H Qv (L2.WE W σ) := ⟨Hf, ds ++ dv, Q, Xq, i, ha.append (ArgsOk.ofRep (hd Hf)), kt, fun x cls d Hf' H' S rx hx => xo x cls d Hf' H' S rx hx, q⟩
  have r2 : Vals (vs ++ dvs) (us ++ des) := r.append rd
  have hl : (us ++ des).length = ps.length := by rw [← r2.length]; exact G.len _ _ _ _ h
  refine wpAny_call (codeAny_mono (G.run X.A.in1 X.stack s H ⟨us, []⟩ (us ++ des) (vs ++ dvs) Qv (L2.WE W σ) hr.in1 I.env0.in1 (b s us I.kIn hl) r2 h) fun r s' hq => ?_)
  cases r with
  | error e => exact passAt tk σ pins H s e s' I hq
  | ok fl =>
    cases fl with
    | ret u => exact I.after hq
    | next => exact False.elim hq
    | brk => exact False.elim hq
    | cont => exact False.elim hq

/-! ### what the text says of a class -/
def tyNames : List String := ["NoneType", "bool", "int", "str", "list", "tuple"]
def opNames : List String := ["add", "sub", "mul", "floordiv", "mod", "pow", "lshift", "rshift", "or", "and"]
structure ClsF (K : PySem.W.Frag) (C : Addr) : Prop where
  cl : Cls K C
  sf : PySem.W.selfFirst K C = true
  subT : ∀ t ∈ tyNames, PySem.W.subIn K (.type t) (.ref C) = some false
  subI : PySem.W.subIn K (.ref C) (.type "int") = some false
  ne : PySem.W.findIn K (.ref C) "__ne__" = some (some (.builtin "object.__ne__"))
  ha : PySem.W.findIn K (.ref C) "__class__" = some (some (.builtin "object.__class__"))
  hn : PySem.W.specialIn K (.builtin "object.__class__") "__get__" = some (some (.builtin "getset_descriptor.__get__"))
  htk : PySem.W.takesIn K (.builtin "object.__class__") = some true
  hm : PySem.W.mroIn K C (.type "object") = some true
  rr : ∀ nm ∈ opNames, ∃ rc, PySem.W.findIn K (.ref C) (dunderR nm) = some rc ∧ (rc = none ∨ ∃ g : Addr, rc = some (.ref g))
  isT : ∀ t ∈ tyNames, PySem.W.kitOne K (.ref C) (.type t) = some false
  isO : ∀ t ∈ tyNames, PySem.W.kitOne K (.type t) (.ref C) = some false
  ni : ∀ nm ∈ opNames, ∃ cd, PySem.W.clsIn K C = some cd ∧ ∀ c ∈ cd.mro, PySem.W.findIn K c (dunderI nm) = some none
structure Lib (T : Tab) (K : PySem.W.Frag) : Prop where
  cl : ∀ c, c < T.n → ClsF K (T.cls c)
  sub : ∀ c c', c < T.n → c' < T.n → c ≠ c' → PySem.W.subIn K (.ref (T.cls c')) (.ref (T.cls c)) = some false
  inj : ∀ c c', c < T.n → c' < T.n → T.cls c = T.cls c' → c = c'
  iss : ∀ c c', c < T.n → c' < T.n → PySem.W.kitOne K (.ref (T.cls c)) (.ref (T.cls c')) = some (c == c')
  nd : ∀ c, c < T.n → (T.flds c).Nodup
  na : ∀ c, c < T.n → ∀ f ∈ T.flds c, NoAttr K (T.cls c) f
  nl : ∀ c, c < T.n → (T.flds c).length < 1000
/-- a special method that stands -/
structure DnOk (P : Program) (w : World) (K : PySem.W.Frag) (mg : Str → Option Value) (base : Heap) (T : Tab) (k : Nat) (c : Nat) (m : Dn) (ms : List Bool) (sp : FS) : Prop where
  ex : ∃ f, PySem.W.findIn K (.ref (T.cls c)) m.nm = some (some (.ref f)) ∧ PySem.W.isFn K (.ref f) = true ∧ FnV P w K mg base T k f ms [] sp
def Dn.two : Dn → Bool
  | .neg => false | .inv => false | .abs => false | .bool => false | .str => false | .len => false | .iter => false
  | _ => true
def Dn.ms (m : Dn) : List Bool := match m with
  | .setitem => [false, false, false]
  | m => if m.two = true then [false, false] else [false]
/-- where an operator may stand: defs of level k can be called, exceptions are taken -/
structure OpC (X : Cx) (T : Tab) (W : WX) (k : Nat) (dn : Dun) : Prop where
  lib : Lib T X.K
  tk : Takes X W
  rm : Room (k + 2) X.A
  du : ∀ c m sp, dn c m = some sp → c < T.n → DnOk X.prog X.w X.K X.mg X.base T k c m m.ms sp
theorem OpC.r {X : Cx} {T : Tab} {W : WX} {k : Nat} {dn : Dun} (o : OpC X T W k dn) : Room k X.A := o.rm.mono (by omega)
theorem OpC.r1 {X : Cx} {T : Tab} {W : WX} {k : Nat} {dn : Dun} (o : OpC X T W k dn) : Room (k + 1) X.A := o.rm.mono (by omega)

section
variable {T : Tab} {K : PySem.W.Frag} {Hf H : Hp} {v : V}
theorem BRep.int {i : Int} (h : BRep T K Hf H (.int i) v) : v = .int i := by
  rcases h with (h | ⟨_, _, _, e, _⟩) | ⟨_, _, _, _, _, e, _⟩
  · unfold Rep at h; exact h
  · cases e
  · cases e
theorem BRep.bl {i : Bool} (h : BRep T K Hf H (.bl i) v) : v = .bl i := by
  rcases h with (h | ⟨_, _, _, e, _⟩) | ⟨_, _, _, _, _, e, _⟩
  · unfold Rep at h; exact h
  · cases e
  · cases e
theorem BRep.non (h : BRep T K Hf H .non v) : v = .non := by
  rcases h with (h | ⟨_, _, _, e, _⟩) | ⟨_, _, _, _, _, e, _⟩
  · unfold Rep at h; exact h
  · cases e
  · cases e
theorem BRep.str {i : Str} (h : BRep T K Hf H (.str i) v) : v = .str i := by
  rcases h with (h | ⟨_, _, _, e, _⟩) | ⟨_, _, _, _, _, e, _⟩
  · unfold Rep at h; exact h
  · cases e
  · cases e
theorem BRep.lst {ds : List D} (i : Ex Hf H) (h : BRep T K Hf H (.lst ds) v) : ∃ a vs, v = .ref a ∧ H a = some (.lst vs) ∧ RepL T K Hf ds vs := by
  rcases h with (h | ⟨a, vs, ds', e, e2, e3, e4⟩) | ⟨_, _, _, _, _, e, _⟩
  · unfold Rep at h
    obtain ⟨a, vs, h1, h2, h3⟩ := h
    exact ⟨a, vs, h1, i _ _ h2, h3⟩
  · cases e
    exact ⟨a, vs, e2, e3, e4⟩
  · cases e
theorem BRep.tup {ds : List D} (i : Ex Hf H) (h : BRep T K Hf H (.tup ds) v) : ∃ a vs, v = .ref a ∧ H a = some (.tup vs) ∧ RepL T K Hf ds vs := by
  rcases h with (h | ⟨a, vs, ds', e, _⟩) | ⟨_, _, _, _, _, e, _⟩
  · unfold Rep at h
    obtain ⟨a, vs, h1, h2, h3⟩ := h
    exact ⟨a, vs, h1, i _ _ h2, h3⟩
  · cases e
  · cases e
theorem Rep.b {d : D} (h : Rep T K Hf d v) : BRep T K Hf H d v := .inl (.inl h)
theorem Rep.objU {c : Nat} {ds : List D} (i : Ex Hf H) (h : Rep T K Hf (.obj c ds) v) : ∃ a dx fs, v = .ref a ∧ c < T.n ∧ H a = some (.ins (T.cls c) dx fs) ∧ fs.map (·.1) = T.flds c ∧ RepL T K Hf ds (fs.map (·.2)) := by
  unfold Rep at h
  obtain ⟨a, dx, fs, h1, h0, h2, h3, h4⟩ := h
  exact ⟨a, dx, fs, h1, h0, i _ _ h2, h3, h4⟩
end

section
variable {X : Cx} {T : Tab} {W : WX} {z : Hd} {k : Nat} {dn : Dun}
theorem inst_at {pins : List (Addr × Obj)} {s : Shared} {σ : L2.St} {H : Hp} {a C dx : Addr} {fs : List (Str × V)} (I : Inv X pins σ H s) (h : H a = some (.ins C dx fs)) :
    ∃ od, PySem.W.InstAt s.heap a (PySem.W.instObj C dx) C (some od) ∧ s.heap.get? a = some (PySem.W.instObj C dx) := by
  obtain ⟨mA, O, _⟩ := ins_get I.hok h
  obtain ⟨od, J, _⟩ := O.look
  exact ⟨od, J, O.obj⟩
theorem cmpback {P : Value → Shared → Prop} {y : V} {v : Value} {s' : Shared} (r : RelV y v) (h : P v s') : PySem.W.CmpBack P v s' := by
  cases y with
  | non => cases r; exact h
  | bl _ => cases r; exact h
  | int _ => obtain ⟨t, rfl⟩ := r; exact h
  | str _ => obtain ⟨t, rfl⟩ := r; exact h
  | byt _ => obtain ⟨t, rfl⟩ := r; exact h
  | flt _ => obtain ⟨t, rfl⟩ := r; exact h
  | ref _ => cases r; exact h
  | ty _ => cases r; exact h
/-- the call of a special method of the left side -/
theorem objCall (o : OpC X T W k dn) {m : Dn} (hm : m.ms = [false, false]) {pins : List (Addr × Obj)} {s : Shared} {σ : L2.St} {H Hf : Hp} {c : Nat} {xs : List D} {a : Addr} {y : V} {u : Value} {dy : D} {Q : QR} {Xq : QX} {Qv : VK}
    (I : Inv X pins σ H s) (i : Ex Hf H) (hx : Rep T X.K Hf (.obj c xs) (.ref a)) (ry : RelV y u) (hy : Rep T X.K Hf dy y) (xo : XOk T X.K W σ Hf H Xq) (kt : ∀ v Hf' H' r, Step Hf H Hf' H' → Res T X.K Hf' H' H v r → Q r → Qv v H') (q : objL dn m c xs dy Q Xq) :
    ∃ f, c < T.n ∧ PySem.W.findIn X.K (.ref (T.cls c)) m.nm = some (some (.ref f)) ∧ PySem.W.isFn X.K (.ref f) = true ∧ wpAny (model X.prog X.w) X.A (call (.ref f) [.ref a, u]) (EP X pins σ Qv) X.xe s := by
  unfold objL at q
  cases e : dn c m with
  | none => rw [e] at q; exact q.elim
  | some sp =>
    rw [e] at q
    obtain ⟨a', dx, fs, e1, hc, _⟩ := hx.objU i
    obtain ⟨f, h1, h2, F⟩ := (o.du c m sp e hc).ex
    rw [hm] at F
    refine ⟨f, hc, h1, h2, ?_⟩
    exact callV F o.r o.tk (vs := [.ref a, y]) (ds := [.obj c xs, dy]) I (.cons rfl (.cons ry .nil)) i ⟨_, _, _, _, rfl, rfl, hx, _, _, _, _, rfl, rfl, hy, rfl, rfl⟩ xo kt q
theorem objCall1i (o : OpC X T W k dn) {m : Dn} (hm : m.ms = [false, false]) {pins : List (Addr × Obj)} {s : Shared} {σ : L2.St} {H Hf : Hp} {c : Nat} {xs : List D} {a : Addr} {y : V} {u : Value} {dy : D} {Q : QR} {Xq : QX} {Qv : VK}
    (I : Inv X pins σ H s) (i : Ex Hf H) (hx : Rep T X.K Hf (.obj c xs) (.ref a)) (ry : RelV y u) (hy : Rep T X.K Hf dy y) (xo : XOk T X.K W σ Hf H Xq) (kt : ∀ v Hf' H' r, Step Hf H Hf' H' → Res T X.K Hf' H' H v r → Q r → Qv v H') (q : objL dn m c xs dy Q Xq) :
    ∃ f, c < T.n ∧ PySem.W.findIn X.K (.ref (T.cls c)) m.nm = some (some (.ref f)) ∧ PySem.W.isFn X.K (.ref f) = true ∧ wpAny (model X.prog X.w) X.A.in1 (call (.ref f) [.ref a, u]) (EP X pins σ Qv) X.xe s := by
  unfold objL at q
  cases e : dn c m with
  | none => rw [e] at q; exact q.elim
  | some sp =>
    rw [e] at q
    obtain ⟨a', dx, fs, e1, hc, _⟩ := hx.objU i
    obtain ⟨f, h1, h2, F⟩ := (o.du c m sp e hc).ex
    rw [hm] at F
    refine ⟨f, hc, h1, h2, ?_⟩
    exact callV1 F o.r1 o.tk (vs := [.ref a, y]) (ds := [.obj c xs, dy]) I (.cons rfl (.cons ry .nil)) i ⟨_, _, _, _, rfl, rfl, hx, _, _, _, _, rfl, rfl, hy, rfl, rfl⟩ xo kt q
/-- a binary operator, an own instance on the left -/
theorem bin_objL (o : OpC X T W k dn) {m : Dn} {op : Operator} (hm : m.ms = [false, false]) (hnm : PySem.dunder op.info.2 = m.nm) (hop : op.info.2 ∈ opNames) {pins : List (Addr × Obj)} {s : Shared} {σ : L2.St} {H Hf : Hp} {c : Nat} {xs : List D} {v y : V} {va u : Value} {dy : D} {Q : QR} {Xq : QX} {Qv : VK}
    {fo ro : Option Value} (h1 : PySem.W.findIn X.K (.type "int") (PySem.dunder op.info.2) = some fo) (h2 : PySem.W.findIn X.K (.type "int") (dunderR op.info.2) = some ro)
    (I : Inv X pins σ H s) (i : Ex Hf H) (rx : RelV v va) (hx : Rep T X.K Hf (.obj c xs) v) (ry : RelV y u) (hy : Rep T X.K Hf dy y) (xo : XOk T X.K W σ Hf H Xq) (kt : ∀ v Hf' H' r, Step Hf H Hf' H' → Res T X.K Hf' H' H v r → Q r → Qv v H') (q : objL dn m c xs dy Q Xq)
    (hd : (∃ j, dy = .int j) ∨ ∃ ys, dy = .obj c ys) : wpAny (model X.prog X.w) X.A (binaryOp1 op.info.2 va u) (fun r s' => ∃ v, r = some v ∧ EP X pins σ Qv v s') X.xe s := by
  obtain ⟨a, dx, fs, rfl, hc, hH, _⟩ := hx.objU i
  obtain rfl : va = Value.ref a := rx
  obtain ⟨f, _, g1, g2, g3⟩ := objCall o hm I i hx ry hy xo kt q
  obtain ⟨od, J, _⟩ := inst_at I hH
  have cf := o.lib.cl c hc
  have g4 : wpAny (model X.prog X.w) X.A (call (.ref f) [.ref a, u]) (PySem.W.CmpBack (EP X pins σ Qv)) X.xe s := thn g3 fun v s' ⟨w', H', I', r', q'⟩ => cmpback r' ⟨w', H', I', r', q'⟩
  rw [← hnm] at g1
  rcases hd with ⟨j, rfl⟩ | ⟨ys, rfl⟩
  · unfold Rep at hy
    subst hy
    obtain ⟨t, rfl⟩ := ry
    obtain ⟨rc, r1, r2⟩ := cf.rr _ hop
    exact PySem.W.vl_bin1_T I.kIn J (T := "int") rfl cf.sf g1 g2 r1 r2 h1 h2 (cf.subT "int" (by decide)) g4
  · obtain ⟨b, dy, gs, rfl, _, hH2, _⟩ := hy.objU i
    obtain rfl : u = Value.ref b := ry
    obtain ⟨od2, J2, _⟩ := inst_at I hH2
    exact PySem.W.vl_bin1_same I.kIn J J2.type cf.sf g1 g2 g4
end
end VL
end
section
set_option Elab.async false
set_option linter.all false
set_option maxRecDepth 100000
set_option maxHeartbeats 4000000
/-! VLs4: the operators, one by one. -/
namespace VL
open PySem PySem.Spec PyProof.Rows L2

section
variable {X : Cx} {T : Tab} {W : WX} {z : Hd} {k : Nat} {dn : Dun}
theorem mulOk.ok {i j : Int} (h : mulOk i j) : IntMulOk i j := CMulW.ok h
/-- a rule that gives a number, at the end -/
theorem endI {pins : List (Addr × Obj)} {s : Shared} {σ : L2.St} {H Hf : Hp} {i : Int} {t tk : Nat} {Q : QR} {Qv : VK} (I : Inv X pins σ H s) (ex : Ex Hf H) (kt : ∀ v Hf' H' r, Step Hf H Hf' H' → Res T X.K Hf' H' H v r → Q r → Qv v H') (q : Q (.fz (.int i))) :
    EP X pins σ Qv (.int i t) { s with toks := tk } := ⟨.int i, H, I.tok _, ⟨_, rfl⟩, kt _ Hf H (.fz (.int i)) (Step.refl ex) (by unfold Res Rep; rfl) q⟩
theorem endI' {pins : List (Addr × Obj)} {s : Shared} {σ : L2.St} {H Hf : Hp} {i : Int} {t : Nat} {Q : QR} {Qv : VK} (I : Inv X pins σ H s) (ex : Ex Hf H) (kt : ∀ v Hf' H' r, Step Hf H Hf' H' → Res T X.K Hf' H' H v r → Q r → Qv v H') (q : Q (.fz (.int i))) :
    EP X pins σ Qv (.int i t) s := ⟨.int i, H, I, ⟨_, rfl⟩, kt _ Hf H (.fz (.int i)) (Step.refl ex) (by unfold Res Rep; rfl) q⟩
theorem endB {pins : List (Addr × Obj)} {s : Shared} {σ : L2.St} {H Hf : Hp} {b : Bool} {Q : QR} {Qv : VK} (I : Inv X pins σ H s) (ex : Ex Hf H) (kt : ∀ v Hf' H' r, Step Hf H Hf' H' → Res T X.K Hf' H' H v r → Q r → Qv v H') (q : Q (.fz (.bl b))) :
    EP X pins σ Qv (.bool b) s := ⟨.bl b, H, I, rfl, kt _ Hf H (.fz (.bl b)) (Step.refl ex) (by unfold Res Rep; rfl) q⟩
theorem endS {pins : List (Addr × Obj)} {s : Shared} {σ : L2.St} {H Hf : Hp} {x : Str} {t tk : Nat} {Q : QR} {Qv : VK} (I : Inv X pins σ H s) (ex : Ex Hf H) (kt : ∀ v Hf' H' r, Step Hf H Hf' H' → Res T X.K Hf' H' H v r → Q r → Qv v H') (q : Q (.fz (.str x))) :
    EP X pins σ Qv (.str x t) { s with toks := tk } := ⟨.str x, H, I.tok _, ⟨_, rfl⟩, kt _ Hf H (.fz (.str x)) (Step.refl ex) (by unfold Res Rep; rfl) q⟩
/-- a new list of one's own -/
theorem resOwn {Hf H : Hp} {p : Addr} {vs : List V} {ds : List D} {K : PySem.W.Frag} (ex : Ex Hf H) (hp : H p = none) (r : RepL T K Hf ds vs) : Res T K Hf (upd H p (.lst vs)) H (.ref p) (.own ds) :=
  ⟨p, vs, rfl, ex.fresh hp, hp, upd_same, r⟩
/-- a new tuple -/
theorem resTup {Hf H : Hp} {p : Addr} {vs : List V} {ds : List D} {K : PySem.W.Frag} (ex : Ex Hf H) (hp : H p = none) (r : RepL T K Hf ds vs) : Res T K (upd Hf p (.tup vs)) (upd H p (.tup vs)) H (.ref p) (.fz (.tup ds)) := by
  unfold Res Rep
  exact ⟨p, vs, rfl, upd_same, r.mono (Ex.new (ex.fresh hp))⟩
/-- a rule of the hand layer, used -/
theorem useR {f : Value → Value → Sem Value} {r : R2} (h : OpR X f r) {pins : List (Addr × Obj)} {s : Shared} {σ : L2.St} {H : Hp} {x y : V} {u v : Value} {Q : VK} (I : Inv X pins σ H s) (rx : RelV x u) (ry : RelV y v) (q : r x y H Q) : wpAny (model X.prog X.w) X.A (f u v) (EP X pins σ Q) X.xe s :=
  h pins s σ H x y u v Q I rx ry q
/-- list + list -/
theorem lst_add {pins : List (Addr × Obj)} {s : Shared} {σ : L2.St} {H Hf : Hp} {x y : V} {u v : Value} {xs ys : List D} {Q : QR} {Qv : VK} (I : Inv X pins σ H s) (rx : RelV x u) (ry : RelV y v) (i : Ex Hf H) (hx : BRep T X.K Hf H (.lst xs) x) (hy : BRep T X.K Hf H (.lst ys) y)
    (kt : ∀ v Hf' H' r, Step Hf H Hf' H' → Res T X.K Hf' H' H v r → Q r → Qv v H') (hl : xs.length + ys.length ≤ 16777216) (q : Q (.own (xs ++ ys))) : wpAny (model X.prog X.w) X.A (binaryOp .Add u v) (EP X pins σ Qv) X.xe s := by
  obtain ⟨a, vs, rfl, h1, h2⟩ := hx.lst i
  obtain ⟨b, ws, rfl, h3, h4⟩ := hy.lst i
  refine useR op_cat I rx ry ⟨a, b, vs, ws, rfl, rfl, h1, h3, ?_, fun p hp => ?_⟩
  · rw [sizeLine_eq, ← h2.length, ← h4.length]
    exact hl
  · exact kt _ Hf _ _ (Step.newH i hp) (resOwn i hp (h2.append h4)) q
theorem str_add {pins : List (Addr × Obj)} {s : Shared} {σ : L2.St} {H Hf : Hp} {x y : V} {u v : Value} {xs ys : Str} {Q : QR} {Qv : VK} (I : Inv X pins σ H s) (rx : RelV x u) (ry : RelV y v) (i : Ex Hf H) (hx : BRep T X.K Hf H (.str xs) x) (hy : BRep T X.K Hf H (.str ys) y)
    (kt : ∀ v Hf' H' r, Step Hf H Hf' H' → Res T X.K Hf' H' H v r → Q r → Qv v H') (hl : xs.length + ys.length ≤ 16777216) (q : Q (.fz (.str (xs ++ ys)))) : wpAny (model X.prog X.w) X.A (binaryOp .Add u v) (EP X pins σ Qv) X.xe s := by
  rw [hx.str] at rx
  rw [hy.str] at ry
  exact useR op_add_str I rx ry ⟨xs, ys, rfl, rfl, by rw [sizeLine_eq]; exact hl, kt _ Hf H (.fz (.str (xs ++ ys))) (Step.refl i) (by unfold Res Rep; rfl) q⟩
/-- the whole numbers' cases of the operators -/
theorem fills_own {nm : String} (o : OpC X T W k dn) {c : Nat} (hc : c < T.n) {f : Addr} (hs : PySem.W.findIn X.K (.ref (T.cls c)) (PySem.dunder nm) = some (some (.ref f))) {h : Heap} (hk : X.K.In h) {M : Model} : PySem.W.Looks M h (fillsNumberSlot (.ref (T.cls c)) nm) true := by
  obtain ⟨cd, rest, hcd, hm⟩ := PySem.W.vl_first (o.lib.cl c hc).sf
  exact PySem.W.fills_K hk hcd hm hs
/-- an own instance on the right of a whole number, its reflected method -/
theorem bin_objR (o : OpC X T W k dn) {m m' : Dn} {op : Operator} (hm : m.ms = [false, false]) (hnm : dunderR op.info.2 = m.nm) (hnm' : PySem.dunder op.info.2 = m'.nm) {pins : List (Addr × Obj)} {s : Shared} {σ : L2.St} {H Hf : Hp} {c : Nat} {xs : List D} {v : V} {va : Value} {j : Int} {t : Tok} {Q : QR} {Xq : QX} {Qv : VK}
    {id : String} {B : Builtin} (hfT : fillsNumberSlot (.type "int") op.info.2 = pure true) (hsl : Slot "int" (PySem.dunder op.info.2) id) (he : entryFor table id = some B) (ha : ∀ a b, argsOk id ⟨[a, b], []⟩)
    (hB : ∀ (l C dx : Addr), Meets (B ⟨[.int j t, .ref l], []⟩) (fun _ R s => s.heap.get? l = some (PySem.W.instObj C dx) ∧ R (.ok (.ret Value.notImplemented)) s))
    (h0 : (dn c m').isSome = true)
    (I : Inv X pins σ H s) (i : Ex Hf H) (rx : RelV v va) (hx : Rep T X.K Hf (.obj c xs) v) (xo : XOk T X.K W σ Hf H Xq) (kt : ∀ v Hf' H' r, Step Hf H Hf' H' → Res T X.K Hf' H' H v r → Q r → Qv v H') (q : objL dn m c xs (.int j) Q Xq) :
    wpAny (model X.prog X.w) X.A (binaryOp1 op.info.2 (.int j t) va) (fun r s' => ∃ v, r = some v ∧ EP X pins σ Qv v s') X.xe s := by
  obtain ⟨a, dx, fs, rfl, hc, hH, _⟩ := hx.objU i
  obtain rfl : va = Value.ref a := rx
  obtain ⟨f, _, g1, g2, g3⟩ := objCall o hm (y := .int j) (u := .int j t) I i hx ⟨t, rfl⟩ (by unfold Rep; rfl) xo kt q
  obtain ⟨od, J, hO⟩ := inst_at I hH
  have cf := o.lib.cl c hc
  have g4 : wpAny (model X.prog X.w) X.A (call (.ref f) [.ref a, .int j t]) (PySem.W.CmpBack (EP X pins σ Qv)) X.xe s := thn g3 fun v s' ⟨w', H', I', r', q'⟩ => cmpback r' ⟨w', H', I', r', q'⟩
  rw [← hnm] at g1
  cases e0 : dn c m' with
  | none => rw [e0] at h0; cases h0
  | some sp0 =>
    obtain ⟨f0, k1, _, _⟩ := (o.du c m' sp0 e0 hc).ex
    rw [← hnm'] at k1
    refine PySem.W.vl_bin1_R I.kIn J (fun s' => typeIs_int s' j t) rfl cf.sf (fills_own o hc k1 I.kIn) g1 g2 hfT hsl cf.subI ?_ g4
    exact call_meets hsl (typeIs_int s j t) he (ha _ _) (hB a (T.cls c) dx) ⟨hO, rfl, rfl⟩

theorem dun_add : PySem.dunder Operator.Add.info.2 = Dn.add.nm := by decide +kernel
theorem dun_sub : PySem.dunder Operator.Sub.info.2 = Dn.sub.nm := by decide +kernel
theorem dun_mul : PySem.dunder Operator.Mult.info.2 = Dn.mul.nm := by decide +kernel
theorem dun_fdiv : PySem.dunder Operator.FloorDiv.info.2 = Dn.fdiv.nm := by decide +kernel
theorem dun_mod : PySem.dunder Operator.Mod.info.2 = Dn.mod.nm := by decide +kernel
theorem dun_pow : PySem.dunder Operator.Pow.info.2 = Dn.pow.nm := by decide +kernel
theorem dun_lsh : PySem.dunder Operator.LShift.info.2 = Dn.lsh.nm := by decide +kernel
theorem dun_rsh : PySem.dunder Operator.RShift.info.2 = Dn.rsh.nm := by decide +kernel
theorem dun_bor : PySem.dunder Operator.BitOr.info.2 = Dn.bor.nm := by decide +kernel
theorem dun_band : PySem.dunder Operator.BitAnd.info.2 = Dn.band.nm := by decide +kernel
theorem dun_radd : dunderR Operator.Add.info.2 = Dn.radd.nm := by decide +kernel
theorem dun_rsub : dunderR Operator.Sub.info.2 = Dn.rsub.nm := by decide +kernel
theorem dun_rmul : dunderR Operator.Mult.info.2 = Dn.rmul.nm := by decide +kernel

theorem opv_add (o : OpC X T W k dn) : OpV X T W (binaryOp .Add) (opAdd dn) := by
  intro pins s σ H Hf x y u v dx dy Q Xq Qv I rx ry i hx hy xo kt q
  unfold opAdd at q
  split at q
  · rename_i a b
    unfold Rep at hx hy
    subst hx hy
    obtain ⟨t, rfl⟩ := rx
    obtain ⟨t', rfl⟩ := ry
    exact add_int (endI I i kt q)
  · exact str_add I rx ry i hx.b hy.b kt q.1 q.2
  · exact lst_add I rx ry i hx.b hy.b kt q.1 q.2
  · exact PySem.W.vl_bin (bin_objL o rfl dun_add (by decide) rfl rfl I i rx hx ry hy xo kt q (.inl ⟨_, rfl⟩))
  · rename_i c xs c' ys
    obtain ⟨e, q⟩ := q
    subst e
    exact PySem.W.vl_bin (bin_objL o rfl dun_add (by decide) rfl rfl I i rx hx ry hy xo kt q (.inr ⟨_, rfl⟩))
  · rename_i j c xs
    unfold Rep at hx
    subst hx
    obtain ⟨t, rfl⟩ := rx
    obtain ⟨q0, q⟩ := q
    exact PySem.W.vl_bin (bin_objR o rfl dun_radd dun_add F.fills_int_add F.slot_int_add F.entry_int_add (F.args_int_add_2 · ·) (vl_int_add _ _) q0 I i ry hy xo kt q)
  · exact q.elim
theorem opv_sub (o : OpC X T W k dn) : OpV X T W (binaryOp .Sub) (opSub dn) := by
  intro pins s σ H Hf x y u v dx dy Q Xq Qv I rx ry i hx hy xo kt q
  unfold opSub at q
  split at q
  · rename_i a b
    unfold Rep at hx hy
    subst hx hy
    obtain ⟨t, rfl⟩ := rx
    obtain ⟨t', rfl⟩ := ry
    exact sub_int (endI I i kt q)
  · exact PySem.W.vl_bin (bin_objL o rfl dun_sub (by decide) rfl rfl I i rx hx ry hy xo kt q (.inl ⟨_, rfl⟩))
  · rename_i c xs c' ys
    obtain ⟨e, q⟩ := q
    subst e
    exact PySem.W.vl_bin (bin_objL o rfl dun_sub (by decide) rfl rfl I i rx hx ry hy xo kt q (.inr ⟨_, rfl⟩))
  · rename_i j c xs
    unfold Rep at hx
    subst hx
    obtain ⟨t, rfl⟩ := rx
    obtain ⟨q0, q⟩ := q
    exact PySem.W.vl_bin (bin_objR o rfl dun_rsub dun_sub F.fills_int_sub F.slot_int_sub F.entry_int_sub (F.args_int_sub_2 · ·) (vl_int_sub _ _) q0 I i ry hy xo kt q)
  · exact q.elim
/-- a list times a whole number -/
theorem lst_mul {pins : List (Addr × Obj)} {s : Shared} {σ : L2.St} {H Hf : Hp} {x y : V} {u v : Value} {xs : List D} {n : Int} {Q : QR} {Qv : VK} (I : Inv X pins σ H s) (rx : RelV x u) (ry : RelV y v) (i : Ex Hf H) (hx : BRep T X.K Hf H (.lst xs) x) (hy : y = .int n)
    (kt : ∀ v Hf' H' r, Step Hf H Hf' H' → Res T X.K Hf' H' H v r → Q r → Qv v H') (hl : -(2 ^ 63) ≤ n ∧ n < 2 ^ 63 ∧ xs.length * n.toNat ≤ 16777216) (q : Q (.own (repN n xs))) : wpAny (model X.prog X.w) X.A (binaryOp .Mult u v) (EP X pins σ Qv) X.xe s := by
  obtain ⟨a, vs, rfl, h1, h2⟩ := hx.lst i
  subst hy
  refine useR op_rep I rx ry ⟨a, n, vs, rfl, rfl, h1, hl.1, hl.2.1, ?_, fun p hp => ?_⟩
  · rw [sizeLine_eq, ← h2.length]
    exact hl.2.2
  · refine kt _ Hf _ _ (Step.newH i hp) (resOwn i hp ?_) q
    unfold repN
    generalize n.toNat = m
    induction m with
    | zero => exact RepL.nil
    | succ m ih =>
      rw [List.replicate_succ, List.flatten_cons, List.replicate_succ, List.flatten_cons]
      exact h2.append ih
theorem opv_mul (o : OpC X T W k dn) : OpV X T W (binaryOp .Mult) (opMul dn) := by
  intro pins s σ H Hf x y u v dx dy Q Xq Qv I rx ry i hx hy xo kt q
  unfold opMul at q
  split at q
  · rename_i a b
    unfold Rep at hx hy
    subst hx hy
    obtain ⟨t, rfl⟩ := rx
    obtain ⟨t', rfl⟩ := ry
    exact mul_int (endI I i kt q.2) q.1.ok
  · unfold Rep at hy
    exact lst_mul I rx ry i hx.b hy kt q.1 q.2
  · exact PySem.W.vl_bin (bin_objL o rfl dun_mul (by decide) rfl rfl I i rx hx ry hy xo kt q (.inl ⟨_, rfl⟩))
  · rename_i c xs c' ys
    obtain ⟨e, q⟩ := q
    subst e
    exact PySem.W.vl_bin (bin_objL o rfl dun_mul (by decide) rfl rfl I i rx hx ry hy xo kt q (.inr ⟨_, rfl⟩))
  · rename_i j c xs
    unfold Rep at hx
    subst hx
    obtain ⟨t, rfl⟩ := rx
    obtain ⟨q0, q⟩ := q
    exact PySem.W.vl_bin (bin_objR o rfl dun_rmul dun_mul F.fills_int_mul F.slot_int_mul F.entry_int_mul (F.args_int_mul_2 · ·) (vl_int_mul _ _) q0 I i ry hy xo kt q)
  · exact q.elim
theorem opv_fdiv (o : OpC X T W k dn) : OpV X T W (binaryOp .FloorDiv) (opFdiv dn) := by
  intro pins s σ H Hf x y u v dx dy Q Xq Qv I rx ry i hx hy xo kt q
  unfold opFdiv at q
  split at q
  · rename_i a b
    unfold Rep at hx hy
    subst hx hy
    obtain ⟨t, rfl⟩ := rx
    obtain ⟨t', rfl⟩ := ry
    exact floordiv_int q.1.1 (endI I i kt q.2) (.inl (PyProof.noPylong_of_log2 q.1.2))
  · exact PySem.W.vl_bin (bin_objL o rfl dun_fdiv (by decide) rfl rfl I i rx hx ry hy xo kt q (.inl ⟨_, rfl⟩))
  · rename_i c xs c' ys
    obtain ⟨e, q⟩ := q
    subst e
    exact PySem.W.vl_bin (bin_objL o rfl dun_fdiv (by decide) rfl rfl I i rx hx ry hy xo kt q (.inr ⟨_, rfl⟩))
  · exact q.elim
theorem opv_mod (o : OpC X T W k dn) : OpV X T W (binaryOp .Mod) (opMod dn) := by
  intro pins s σ H Hf x y u v dx dy Q Xq Qv I rx ry i hx hy xo kt q
  unfold opMod at q
  split at q
  · rename_i a b
    unfold Rep at hx hy
    subst hx hy
    obtain ⟨t, rfl⟩ := rx
    obtain ⟨t', rfl⟩ := ry
    exact mod_int' q.1 (endI I i kt q.2)
  · exact PySem.W.vl_bin (bin_objL o rfl dun_mod (by decide) rfl rfl I i rx hx ry hy xo kt q (.inl ⟨_, rfl⟩))
  · rename_i c xs c' ys
    obtain ⟨e, q⟩ := q
    subst e
    exact PySem.W.vl_bin (bin_objL o rfl dun_mod (by decide) rfl rfl I i rx hx ry hy xo kt q (.inr ⟨_, rfl⟩))
  · exact q.elim
theorem opv_pow (o : OpC X T W k dn) : OpV X T W (binaryOp .Pow) (opPow dn) := by
  intro pins s σ H Hf x y u v dx dy Q Xq Qv I rx ry i hx hy xo kt q
  unfold opPow at q
  split at q
  · rename_i a b
    unfold Rep at hx hy
    subst hx hy
    obtain ⟨t, rfl⟩ := rx
    obtain ⟨t', rfl⟩ := ry
    exact pow_int_small q.1.1 q.1.2.1 q.1.2.2 (endI I i kt q.2)
  · exact PySem.W.vl_bin (bin_objL o rfl dun_pow (by decide) rfl rfl I i rx hx ry hy xo kt q (.inl ⟨_, rfl⟩))
  · exact q.elim
theorem opv_obj (o : OpC X T W k dn) {m : Dn} {op : Operator} (hm : m.ms = [false, false]) (hnm : PySem.dunder op.info.2 = m.nm) (hop : op.info.2 ∈ opNames) {fo ro : Option Value} (h1 : ∀ K, PySem.W.findIn K (.type "int") (PySem.dunder op.info.2) = some fo)
    (h2 : ∀ K, PySem.W.findIn K (.type "int") (dunderR op.info.2) = some ro) : OpV X T W (binaryOp op) (opObj dn m) := by
  intro pins s σ H Hf x y u v dx dy Q Xq Qv I rx ry i hx hy xo kt q
  unfold opObj at q
  split at q
  · exact PySem.W.vl_bin (bin_objL o hm hnm hop (h1 _) (h2 _) I i rx hx ry hy xo kt q (.inl ⟨_, rfl⟩))
  · rename_i c xs c' ys
    obtain ⟨e, q⟩ := q
    subst e
    exact PySem.W.vl_bin (bin_objL o hm hnm hop (h1 _) (h2 _) I i rx hx ry hy xo kt q (.inr ⟨_, rfl⟩))
  · exact q.elim
theorem opv_lsh (o : OpC X T W k dn) : OpV X T W (binaryOp .LShift) (opObj dn .lsh) := opv_obj o rfl dun_lsh (by decide) (fun _ => rfl) (fun _ => rfl)
theorem opv_rsh (o : OpC X T W k dn) : OpV X T W (binaryOp .RShift) (opObj dn .rsh) := opv_obj o rfl dun_rsh (by decide) (fun _ => rfl) (fun _ => rfl)
theorem opv_bor (o : OpC X T W k dn) : OpV X T W (binaryOp .BitOr) (opObj dn .bor) := opv_obj o rfl dun_bor (by decide) (fun _ => rfl) (fun _ => rfl)
theorem opv_band (o : OpC X T W k dn) : OpV X T W (binaryOp .BitAnd) (opObj dn .band) := opv_obj o rfl dun_band (by decide) (fun _ => rfl) (fun _ => rfl)

/-! ### one place -/
theorem objCall1 (o : OpC X T W k dn) {m : Dn} (hm : m.ms = [false]) {pins : List (Addr × Obj)} {s : Shared} {σ : L2.St} {H Hf : Hp} {c : Nat} {xs : List D} {a : Addr} {Q : QR} {Xq : QX} {Qv : VK}
    (I : Inv X pins σ H s) (i : Ex Hf H) (hx : Rep T X.K Hf (.obj c xs) (.ref a)) (xo : XOk T X.K W σ Hf H Xq) (kt : ∀ v Hf' H' r, Step Hf H Hf' H' → Res T X.K Hf' H' H v r → Q r → Qv v H')
    (q : match dn c m with | some sp => sp [.obj c xs] Q Xq | none => False) :
    ∃ f, c < T.n ∧ PySem.W.findIn X.K (.ref (T.cls c)) m.nm = some (some (.ref f)) ∧ PySem.W.isFn X.K (.ref f) = true ∧ wpAny (model X.prog X.w) X.A (call (.ref f) [.ref a]) (EP X pins σ Qv) X.xe s := by
  cases e : dn c m with
  | none => rw [e] at q; exact q.elim
  | some sp =>
    rw [e] at q
    obtain ⟨a', dx, fs, e1, hc, _⟩ := hx.objU i
    obtain ⟨f, h1, h2, F⟩ := (o.du c m sp e hc).ex
    rw [hm] at F
    refine ⟨f, hc, h1, h2, ?_⟩
    exact callV F o.r o.tk (vs := [.ref a]) (ds := [.obj c xs]) I (.cons rfl .nil) i ⟨_, _, _, _, rfl, rfl, hx, rfl, rfl⟩ xo kt q
theorem opu_neg (o : OpC X T W k dn) : OpU X T W (unaryOp .USub) (opNeg dn) := by
  intro pins s σ H Hf x u dx Q Xq Qv I rx i hx xo kt q
  unfold opNeg at q
  split at q
  · unfold Rep at hx
    subst hx
    obtain ⟨t, rfl⟩ := rx
    exact neg_int (endI I i kt q)
  · obtain ⟨a, dx, fs, rfl, hc, hH, _⟩ := hx.objU i
    obtain rfl : u = Value.ref a := rx
    obtain ⟨f, _, g1, g2, g3⟩ := objCall1 o (m := .neg) rfl I i hx xo kt q
    obtain ⟨od, J, _⟩ := inst_at I hH
    obtain ⟨m, fr⟩ := I.fr
    exact PySem.W.ksp_neg fr I.ok.mod.kin J g1 g2 g3
  · exact q.elim
theorem opu_inv (o : OpC X T W k dn) : OpU X T W (unaryOp .Invert) (opInv dn) := by
  intro pins s σ H Hf x u dx Q Xq Qv I rx i hx xo kt q
  unfold opInv at q
  split at q
  · obtain ⟨a, dx, fs, rfl, hc, hH, _⟩ := hx.objU i
    obtain rfl : u = Value.ref a := rx
    obtain ⟨f, _, g1, g2, g3⟩ := objCall1 o (m := .inv) rfl I i hx xo kt q
    obtain ⟨od, J, _⟩ := inst_at I hH
    obtain ⟨m, fr⟩ := I.fr
    exact PySem.W.ksp_inv fr I.ok.mod.kin J g1 g2 g3
  · exact q.elim
end
end VL
end
section
set_option Elab.async false
set_option linter.all false
set_option maxRecDepth 100000
set_option maxHeartbeats 4000000
/-! VLs5: comparisons. -/
namespace VL
open PySem PySem.Spec PyProof.Rows L2
mutual
def D.py : D → PyData
  | .non => .none
  | .bl b => .bool b
  | .int i => .int i
  | .str x => .str x
  | .lst ds => .list (D.pys ds)
  | .tup ds => .tuple (D.pys ds)
  | .obj _ _ => .none
  | .cls _ => .none
  | .scr _ => .none
def D.pys : List D → List PyData
  | [] => []
  | d :: ds => D.py d :: D.pys ds
end
section
variable {T : Tab} {K : PySem.W.Frag} {Hf H : Hp}
mutual
theorem dp_of (i : Ex Hf H) : ∀ {d : D} {v : V}, d.flat = true → Rep T K Hf d v → Dp K H v d.py
  | .non, v, _, h => by unfold Rep at h; subst h; unfold D.py; exact .non
  | .bl b, v, _, h => by unfold Rep at h; subst h; unfold D.py; exact .bl b
  | .int b, v, _, h => by unfold Rep at h; subst h; unfold D.py; exact .int b
  | .str b, v, _, h => by unfold Rep at h; subst h; unfold D.py; exact .str b
  | .lst ds, v, f, h => by
    unfold Rep at h
    obtain ⟨a, xs, rfl, h2, h3⟩ := h
    unfold D.py
    exact .lst (SqL.of (i _ _ h2)) (dpl_of i (by unfold D.flat at f; exact f) h3)
  | .tup ds, v, f, h => by
    unfold Rep at h
    obtain ⟨a, xs, rfl, h2, h3⟩ := h
    unfold D.py
    exact .tup (SqT.of (i _ _ h2)) (dpl_of i (by unfold D.flat at f; exact f) h3)
  | .obj _ _, v, f, _ => by unfold D.flat at f; cases f
  | .cls _, v, f, _ => by unfold D.flat at f; cases f
  | .scr _, v, f, _ => by unfold D.flat at f; cases f
theorem dpl_of (i : Ex Hf H) : ∀ {ds : List D} {vs : List V}, D.flats ds = true → RepL T K Hf ds vs → DpAll K H vs (D.pys ds)
  | [], vs, _, h => by rw [repL_nil.mp h]; unfold D.pys; exact .nil
  | d :: ds, vs, f, h => by
    obtain ⟨v, r, rfl, h2, h3⟩ := repL_cons.mp h
    unfold D.flats at f
    obtain ⟨f1, f2⟩ := Bool.and_eq_true_iff.mp f
    unfold D.pys
    exact .cons (dp_of i f1 h2) (dpl_of i f2 h3)
end
theorem dp_ofB (i : Ex Hf H) {d : D} {v : V} (f : d.flat = true) (h : BRep T K Hf H d v) : Dp K H v d.py := by
  rcases h with (h | ⟨a, vs, ds, rfl, rfl, h2, h3⟩) | ⟨_, _, _, _, _, rfl, _⟩
  · exact dp_of i f h
  · unfold D.py
    exact .lst (SqL.of h2) (dpl_of i (by unfold D.flat at f; exact f) h3)
  · unfold D.flat at f; cases f
mutual
theorem py_can : ∀ {d : D}, d.flat = true → d.py.canLay0 = true
  | .non, _ => rfl
  | .bl _, _ => rfl
  | .int _, _ => rfl
  | .str x, h => by
    unfold D.py PyData.canLay0 PyData.strOk
    unfold D.flat at h
    exact h
  | .lst ds, h => by
    unfold D.py PyData.canLay0
    exact pys_can (by unfold D.flat at h; exact h)
  | .tup ds, h => by
    unfold D.py PyData.canLay0
    exact pys_can (by unfold D.flat at h; exact h)
  | .obj _ _, h => by unfold D.flat at h; cases h
  | .cls _, h => by unfold D.flat at h; cases h
  | .scr _, h => by unfold D.flat at h; cases h
theorem pys_can : ∀ {ds : List D}, D.flats ds = true → PyData.canLayAll0 (D.pys ds) = true
  | [], _ => rfl
  | d :: ds, h => by
    unfold D.flats at h
    obtain ⟨h1, h2⟩ := Bool.and_eq_true_iff.mp h
    unfold D.pys PyData.canLayAll0
    rw [py_can h1, pys_can h2]
    rfl
end
mutual
theorem py_dep : ∀ {d : D}, d.flat = true → d.py.depth = d.dep
  | .non, _ => rfl
  | .bl _, _ => rfl
  | .int _, _ => rfl
  | .str x, h => rfl
  | .lst ds, h => by
    unfold D.py D.dep PyData.depth
    rw [pys_dep (by unfold D.flat at h; exact h)]
  | .tup ds, h => by
    unfold D.py D.dep PyData.depth
    rw [pys_dep (by unfold D.flat at h; exact h)]
  | .obj _ _, h => by unfold D.flat at h; cases h
  | .cls _, h => by unfold D.flat at h; cases h
  | .scr _, h => by unfold D.flat at h; cases h
theorem pys_dep : ∀ {ds : List D}, D.flats ds = true → PyData.depthAll (D.pys ds) = D.deps ds
  | [], _ => rfl
  | d :: ds, h => by
    unfold D.flats at h
    obtain ⟨h1, h2⟩ := Bool.and_eq_true_iff.mp h
    unfold D.pys D.deps PyData.depthAll
    rw [py_dep h1, pys_dep h2]
end
theorem shaped_of {d : D} (f : d.flat = true) (h : d.dep ≤ 64) : SeqAt.shaped d.py = true := by
  unfold SeqAt.shaped
  rw [py_can f, py_dep f, decide_eq_true h]
  rfl
end

mutual
theorem py_eqv : ∀ {d e : D}, d.flat = true → e.flat = true → PyData.eqv d.py e.py = D.eqv d e
  | .non, e, _, h => by cases e <;> first | rfl | (unfold D.flat at h; cases h)
  | .bl b, e, _, h => by cases e <;> first | rfl | (unfold D.flat at h; cases h)
  | .int b, e, _, h => by cases e <;> first | rfl | (unfold D.flat at h; cases h)
  | .str b, e, _, h => by cases e <;> first | rfl | (unfold D.flat at h; cases h)
  | .lst ds, e, g, h => by
    cases e with
    | lst es =>
      unfold D.py PyData.eqv D.eqv
      exact pys_eqv (by unfold D.flat at g; exact g) (by unfold D.flat at h; exact h)
    | obj _ _ => unfold D.flat at h; cases h
    | cls _ => unfold D.flat at h; cases h
    | scr _ => unfold D.flat at h; cases h
    | _ => rfl
  | .tup ds, e, g, h => by
    cases e with
    | tup es =>
      unfold D.py PyData.eqv D.eqv
      exact pys_eqv (by unfold D.flat at g; exact g) (by unfold D.flat at h; exact h)
    | obj _ _ => unfold D.flat at h; cases h
    | cls _ => unfold D.flat at h; cases h
    | scr _ => unfold D.flat at h; cases h
    | _ => rfl
  | .obj _ _, _, h, _ => by unfold D.flat at h; cases h
  | .cls _, _, h, _ => by unfold D.flat at h; cases h
  | .scr _, _, h, _ => by unfold D.flat at h; cases h
theorem pys_eqv : ∀ {ds es : List D}, D.flats ds = true → D.flats es = true → PyData.eqvAll (D.pys ds) (D.pys es) = D.eqvs ds es
  | [], [], _, _ => rfl
  | [], _ :: _, _, _ => rfl
  | _ :: _, [], _, _ => rfl
  | d :: ds, e :: es, g, h => by
    unfold D.flats at g h
    obtain ⟨g1, g2⟩ := Bool.and_eq_true_iff.mp g
    obtain ⟨h1, h2⟩ := Bool.and_eq_true_iff.mp h
    unfold D.pys PyData.eqvAll D.eqvs
    rw [py_eqv g1 h1, pys_eqv g2 h2]
end

section
variable {X : Cx} {T : Tab} {W : WX} {z : Hd} {k : Nat} {dn : Dun}
theorem opb_eqF (hr : X.A.units + 64 < cLine) : OpB X T W (compareOp .Eq) opEqF := by
  intro pins s σ H Hf x y u v dx dy Q Xq Qv I rx ry i hx hy xo kt ⟨⟨f1, f2, d1, d2⟩, q⟩
  refine useR (op_eqD hr) I rx ry ⟨dx.py, dy.py, dp_ofB i f1 hx, dp_ofB i f2 hy, shaped_of f1 d1, shaped_of f2 d2, ?_⟩
  rw [py_eqv f1 f2]
  exact kt _ Hf H (.fz (.bl _)) (Step.refl i) (by unfold Res Rep; rfl) q
theorem opb_neF (hr : X.A.units + 64 < cLine) : OpB X T W (compareOp .NotEq) opNeF := by
  intro pins s σ H Hf x y u v dx dy Q Xq Qv I rx ry i hx hy xo kt ⟨⟨f1, f2, d1, d2⟩, q⟩
  refine useR (op_neD hr) I rx ry ⟨dx.py, dy.py, dp_ofB i f1 hx, dp_ofB i f2 hy, shaped_of f1 d1, shaped_of f2 d2, ?_⟩
  rw [py_eqv f1 f2]
  exact kt _ Hf H (.fz (.bl _)) (Step.refl i) (by unfold Res Rep; rfl) q

theorem res_bl {Hf H : Hp} {K : PySem.W.Frag} {b : Bool} {v : V} {H' : Hp} {r : R} (h : Res T K Hf H' H v r) (e : r = .fz (.bl b)) : v = .bl b := by
  subst e
  unfold Res Rep at h
  exact h
/-- the class of what data stands for -/
theorem ty_of (lib : Lib T X.K) {pins : List (Addr × Obj)} {s : Shared} {σ : L2.St} {H Hf : Hp} {y : V} {u : Value} {dy : D} {c : Nat} (hc : c < T.n) (I : Inv X pins σ H s) (i : Ex Hf H) (ry : RelV y u) (hy : Rep T X.K Hf dy y) (h : ∀ n, dy ≠ .cls n) (h2 : ∀ n, dy ≠ .scr n) :
    ∃ tb, PySem.W.Looks (model X.prog X.w) s.heap (typeOf u) tb ∧ PySem.W.notFirst X.K (T.cls c) tb = true := by
  have cf := lib.cl c hc
  have nt : ∀ t ∈ tyNames, PySem.W.notFirst X.K (T.cls c) (.type t) = true := fun t ht => by
    unfold PySem.W.notFirst
    rw [cf.subT t ht]
    simp
  have lk : ∀ {a : Addr} {o : Obj}, s.heap.get? a = some o → PySem.W.Looks (model X.prog X.w) s.heap (typeOf (.ref a)) o.cls := fun e => fun A Q E s' k q => wpAny_typeOf_ref (k _ _ e) q
  cases dy with
  | non => unfold Rep at hy; subst hy; obtain rfl : u = Value.none := ry; exact ⟨.type "NoneType", PySem.W.Looks.of_pure rfl, nt _ (by decide)⟩
  | bl b => unfold Rep at hy; subst hy; obtain rfl : u = Value.bool b := ry; exact ⟨.type "bool", PySem.W.Looks.of_pure rfl, nt _ (by decide)⟩
  | int b => unfold Rep at hy; subst hy; obtain ⟨t, rfl⟩ := ry; exact ⟨.type "int", PySem.W.Looks.of_pure rfl, nt _ (by decide)⟩
  | str b => unfold Rep at hy; subst hy; obtain ⟨t, rfl⟩ := ry; exact ⟨.type "str", PySem.W.Looks.of_pure rfl, nt _ (by decide)⟩
  | lst ds =>
    obtain ⟨a, vs, rfl, h1, _⟩ := hy.b.lst i
    obtain rfl : u = Value.ref a := ry
    obtain ⟨_, _, n, _, e⟩ := (show ObjOk X.prog X.w H s.heap a (.lst vs) from I.hok a _ h1)
    exact ⟨_, lk e, nt "list" (by decide)⟩
  | tup ds =>
    obtain ⟨a, vs, rfl, h1, _⟩ := hy.b.tup i
    obtain rfl : u = Value.ref a := ry
    obtain ⟨_, _, _, o, e, e2, _⟩ := (show ObjOk X.prog X.w H s.heap a (.tup vs) from I.hok a _ h1)
    exact ⟨_, lk e, by rw [e2]; exact nt "tuple" (by decide)⟩
  | obj c' ds =>
    obtain ⟨a, dx, fs, rfl, hc', h1, _⟩ := hy.objU i
    obtain rfl : u = Value.ref a := ry
    obtain ⟨od, J, e⟩ := inst_at I h1
    refine ⟨.ref (T.cls c'), J.type, ?_⟩
    unfold PySem.W.notFirst
    by_cases e1 : c = c'
    · subst e1
      simp
    · rw [lib.sub c c' hc hc' e1]
      simp
  | cls n => exact absurd rfl (h n)
  | scr n => exact absurd rfl (h2 n)
theorem val_ne {d : D} (h : d.val = true) : (∀ n, d ≠ .cls n) ∧ (∀ n, d ≠ .scr n) := ⟨fun n e => (by rw [e] at h; cases h), fun n e => (by rw [e] at h; cases h)⟩
/-- a comparison by the left side's own method -/
theorem cmp_objL (o : OpC X T W k dn) {m : Dn} {op : CmpOp} (hm : m.ms = [false, false]) (hnm : (cmpInfo op).2.1 = m.nm) {pins : List (Addr × Obj)} {s : Shared} {σ : L2.St} {H Hf : Hp} {c : Nat} {xs : List D} {v y : V} {va u : Value} {dy : D} {Q : QR} {Xq : QX} {Qv : VK}
    (I : Inv X pins σ H s) (i : Ex Hf H) (rx : RelV v va) (hx : Rep T X.K Hf (.obj c xs) v) (ry : RelV y u) (hy : Rep T X.K Hf dy y) (xo : XOk T X.K W σ Hf H Xq) (kt : ∀ v Hf' H' r, Step Hf H Hf' H' → Res T X.K Hf' H' H v r → Q r → Qv v H') (q : objL dn m c xs dy Q Xq)
    (h1 : ∀ n, dy ≠ .cls n) (h2 : ∀ n, dy ≠ .scr n) : wpAny (model X.prog X.w) X.A (richCompare op va u) (EP X pins σ Qv) X.xe s := by
  obtain ⟨a, dx, fs, rfl, hc, hH, _⟩ := hx.objU i
  obtain rfl : va = Value.ref a := rx
  obtain ⟨f, _, g1, g2, g3⟩ := objCall o hm I i hx ry hy xo kt q
  obtain ⟨od, J, _⟩ := inst_at I hH
  obtain ⟨tb, l1, l2⟩ := ty_of o.lib hc I i ry hy h1 h2
  rw [← hnm] at g1
  exact PySem.W.vl_rcLeft o.r.units0 I.kIn J l1 l2 (PySem.W.vl_tryCmp I.kIn J g1 g2 (thn g3 fun v s' ⟨w', H', I', r', q'⟩ => cmpback r' ⟨w', H', I', r', q'⟩))

theorem cmpOf {op : CmpOp} {va u : Value} {A : Around} {E : Value → Shared → Prop} {Q : Value → Shared → Prop} {s : Shared} (h1 : compareOp op va u = richCompare op va u) (h : wpAny (model X.prog X.w) A (richCompare op va u) Q E s) : wpAny (model X.prog X.w) A (compareOp op va u) Q E s := by
  rw [h1]
  exact h
theorem opv_ord (o : OpC X T W k dn) {m : Dn} {op : CmpOp} {p : Int → Int → Bool} (hm : m.ms = [false, false]) (hnm : (cmpInfo op).2.1 = m.nm) (hop : ∀ a b, compareOp op a b = richCompare op a b) (hI : OpR X (compareOp op) (rI0 fun i j => .bl (p i j))) : OpV X T W (compareOp op) (opOrd dn m p) := by
  intro pins s σ H Hf x y u v dx dy Q Xq Qv I rx ry i hx hy xo kt q
  unfold opOrd at q
  split at q
  · unfold Rep at hx hy
    subst hx hy
    exact useR hI I rx ry ⟨_, _, rfl, rfl, kt _ Hf H (.fz (.bl _)) (Step.refl i) (by unfold Res Rep; rfl) q⟩
  · rename_i c xs c' ys
    obtain ⟨e, q⟩ := q
    subst e
    exact cmpOf (hop _ _) (cmp_objL o hm hnm I i rx hx ry hy xo kt q (fun n e => by cases e) (fun n e => by cases e))
  · exact q.elim
theorem opv_lt (o : OpC X T W k dn) : OpV X T W (compareOp .Lt) (opLt dn) := opv_ord o rfl (by decide +kernel) (fun _ _ => rfl) op_lt
theorem opv_le (o : OpC X T W k dn) : OpV X T W (compareOp .LtE) (opLe dn) := opv_ord o rfl (by decide +kernel) (fun _ _ => rfl) op_le
theorem opv_gt (o : OpC X T W k dn) : OpV X T W (compareOp .Gt) (opGt dn) := opv_ord o rfl (by decide +kernel) (fun _ _ => rfl) op_gt
theorem opv_ge (o : OpC X T W k dn) : OpV X T W (compareOp .GtE) (opGe dn) := opv_ord o rfl (by decide +kernel) (fun _ _ => rfl) op_ge

/-- a truth value is handed back -/
theorem bl_kt {pins : List (Addr × Obj)} {σ : L2.St} {H Hf : Hp} {Q : QR} {Qv : VK} (kt : ∀ v Hf' H' r, Step Hf H Hf' H' → Res T X.K Hf' H' H v r → Q r → Qv v H') :
    ∀ v Hf' H' r, Step Hf H Hf' H' → Res T X.K Hf' H' H v r → QR.bl Q r → Qv v H' := fun v Hf' H' r S rs q => by
  cases r with
  | own ds => exact q.elim
  | fz d =>
    cases d with
    | bl b => exact kt v Hf' H' (.fz (.bl b)) S rs q
    | _ => exact q.elim
/-- .. turned -/
theorem neg_kt {Hf H : Hp} {Q : QR} {Qv : VK} (kt : ∀ v Hf' H' r, Step Hf H Hf' H' → Res T X.K Hf' H' H v r → Q r → Qv v H') :
    ∀ v Hf' H' r, Step Hf H Hf' H' → Res T X.K Hf' H' H v r → QR.neg Q r → ∃ b, v = .bl b ∧ Qv (.bl (!b)) H' := fun v Hf' H' r S rs q => by
  cases r with
  | own ds => exact q.elim
  | fz d =>
    cases d with
    | bl b => exact ⟨b, res_bl rs rfl, kt _ Hf' H' (.fz (.bl (!b))) S (by unfold Res Rep; rfl) q⟩
    | _ => exact q.elim
theorem opv_eq (o : OpC X T W k dn) : OpV X T W (compareOp .Eq) (opEq dn) := by
  intro pins s σ H Hf x y u v dx dy Q Xq Qv I rx ry i hx hy xo kt q
  unfold opEq at q
  split at q
  · exact cmpOf rfl (cmp_objL o rfl (by decide +kernel) I i rx hx ry hy xo (bl_kt (pins := pins) (σ := σ) kt) q.2 (val_ne q.1).1 (val_ne q.1).2)
  · rename_i j c xs
    unfold Rep at hx
    subst hx
    obtain ⟨t, rfl⟩ := rx
    obtain ⟨a, dx, fs, rfl, hc, hH, _⟩ := hy.objU i
    obtain rfl : v = Value.ref a := ry
    obtain ⟨f, _, g1, g2, g3⟩ := objCall o (m := .eq) rfl (y := .int j) (u := .int j t) I i hy ⟨t, rfl⟩ (by unfold Rep; rfl) xo (bl_kt (pins := pins) (σ := σ) kt) q
    obtain ⟨od, J, hO⟩ := inst_at I hH
    refine cmpOf rfl (PySem.W.vl_rcRight (op := .Eq) o.r.units0 I.kIn J (o.lib.cl c hc).subI F.slot_int_eq ?_ (PySem.W.vl_tryCmp I.kIn J g1 g2 (thn g3 fun v s' ⟨w', H', I', r', q'⟩ => cmpback r' ⟨w', H', I', r', q'⟩)))
    exact call_meets F.slot_int_eq (typeIs_int s j t) F.entry_int_eq (F.args_int_eq_2 _ _) (vl_int_eq j t a (T.cls c) dx) ⟨hO, rfl, rfl⟩
  · exact opb_eqF o.r.units pins s σ H Hf x y u v dx dy Q Xq Qv I rx ry i hx.b hy.b xo kt q
theorem opv_ne (o : OpC X T W k dn) : OpV X T W (compareOp .NotEq) (opNe dn) := by
  intro pins s σ H Hf x y u v dx dy Q Xq Qv I rx ry i hx hy xo kt q
  have hu : X.A.units + 1 < cLine := hu_of o.r
  unfold opNe at q
  split at q
  · rename_i y' c xs
    obtain ⟨a, dx, fs, rfl, hc, hH, _⟩ := hx.objU i
    obtain rfl : u = Value.ref a := rx
    have cf := o.lib.cl c hc
    obtain ⟨f, _, g1, g2, g3⟩ := objCall1i o (m := .eq) rfl I i hx ry hy xo (neg_kt kt) q.2
    obtain ⟨od, J, _⟩ := inst_at I hH
    obtain ⟨tb, l1, l2⟩ := ty_of o.lib hc I i ry hy (val_ne q.1).1 (val_ne q.1).2
    refine cmpOf rfl (PySem.W.vl_rcLeft (op := .NotEq) o.r.units0 I.kIn J l1 l2 (PySem.W.vl_tryNe I.kIn J cf.ne cf.hm g1 g2 hu (thn g3 fun v s' ⟨w', H', I', r', b, e, q'⟩ => ?_)))
    subst e
    obtain rfl : v = Value.bool b := r'
    exact ⟨b, rfl, .bl (!b), H', I', rfl, q'⟩
  · rename_i j c xs
    unfold Rep at hx
    subst hx
    obtain ⟨t, rfl⟩ := rx
    obtain ⟨a, dx, fs, rfl, hc, hH, _⟩ := hy.objU i
    obtain rfl : v = Value.ref a := ry
    have cf := o.lib.cl c hc
    obtain ⟨f, _, g1, g2, g3⟩ := objCall1i o (m := .eq) rfl (y := .int j) (u := .int j t) I i hy ⟨t, rfl⟩ (by unfold Rep; rfl) xo (neg_kt kt) q
    obtain ⟨od, J, hO⟩ := inst_at I hH
    refine cmpOf rfl (PySem.W.vl_rcRight (op := .NotEq) o.r.units0 I.kIn J cf.subI F.slot_int_ne ?_ (PySem.W.vl_tryNe I.kIn J cf.ne cf.hm g1 g2 hu (thn g3 fun v s' ⟨w', H', I', r', b, e, q'⟩ => ?_)))
    · exact call_meets F.slot_int_ne (typeIs_int s j t) F.entry_int_ne (F.args_int_ne_2 _ _) (vl_int_ne j t a (T.cls c) dx) ⟨hO, rfl, rfl⟩
    · subst e
      obtain rfl : v = Value.bool b := r'
      exact ⟨b, rfl, .bl (!b), H', I', rfl, q'⟩
  · exact opb_neF o.r.units pins s σ H Hf x y u v dx dy Q Xq Qv I rx ry i hx.b hy.b xo kt q
end
end VL
end
section
set_option Elab.async false
set_option linter.all false
set_option maxRecDepth 100000
set_option maxHeartbeats 4000000
/-! VLs6: is, in; tests, and, or, not; conditional expressions. -/
namespace VL
open PySem PySem.Spec PyProof.Rows L2
section
variable {X : Cx} {T : Tab} {W : WX} {z : Hd} {k : Nat} {dn : Dun}
theorem isB_other {M : Model} {A : Around} {E : Value → Shared → Prop} {s : Shared} {u : Value} {b : Bool} {Q : Value → Shared → Prop} (hu : plainIs u (.bool b) = true) (hne : u ≠ .bool b) (h : Q (.bool false) s) : wpAny M A (compareOp .Is u (.bool b)) Q E s := wpAny_is_other hu hne h
theorem opb_is : OpB X T W (compareOp .Is) opIs := by
  intro pins s σ H Hf x y u v dx dy Q Xq Qv I rx ry i hx hy xo kt q
  unfold opIs at q
  cases dy with
  | non =>
    rw [hy.non] at ry
    obtain rfl : v = Value.none := ry
    have fin : ∀ (c : Bool), Q (.fz (.bl c)) → c = (u == Value.none) → wpAny (model X.prog X.w) X.A (compareOp .Is u .none) (EP X pins σ Qv) X.xe s := fun c q e => is_none_gen (by rw [← e]; exact endB I i kt q)
    have nn : ∀ {a : Addr}, x = .ref a → (u == Value.none) = false := fun e => by
      subst e
      obtain rfl : u = Value.ref _ := rx
      rfl
    cases dx with
    | non => rw [hx.non] at rx; obtain rfl : u = Value.none := rx; exact fin true q rfl
    | bl b => rw [hx.bl] at rx; obtain rfl : u = Value.bool b := rx; exact fin false q rfl
    | int b => rw [hx.int] at rx; obtain ⟨t, rfl⟩ := rx; exact fin false q rfl
    | str b => rw [hx.str] at rx; obtain ⟨t, rfl⟩ := rx; exact fin false q rfl
    | lst ds =>
      obtain ⟨a, _, e, _⟩ := hx.lst i
      exact fin false q (nn e).symm
    | tup ds =>
      obtain ⟨a, _, e, _⟩ := hx.tup i
      exact fin false q (nn e).symm
    | obj c ds =>
      obtain ⟨a, e⟩ : ∃ a, x = .ref a := by
        rcases hx with (hx | ⟨_, _, _, e, _⟩) | ⟨a, _, _, _, _, _, e, _⟩
        · obtain ⟨a, _, _, e, _⟩ := hx.objU i
          exact ⟨a, e⟩
        · cases e
        · exact ⟨a, e⟩
      exact fin false q (nn e).symm
    | cls n =>
      obtain ⟨a, e⟩ : ∃ a, x = .ref a := by
        rcases hx with (hx | ⟨_, _, _, e, _⟩) | ⟨a, _, _, _, _, _, e, _⟩
        · unfold Rep at hx
          exact ⟨_, hx⟩
        · cases e
        · exact ⟨a, e⟩
      exact fin false q (nn e).symm
    | scr n =>
      obtain ⟨a, e⟩ : ∃ a, x = .ref a := by
        rcases hx with (hx | ⟨_, _, _, e, _⟩) | ⟨a, _, _, _, _, _, e, _⟩
        · unfold Rep at hx
          obtain ⟨a, e, _⟩ := hx
          exact ⟨a, e⟩
        · cases e
        · exact ⟨a, e⟩
      exact fin false q (nn e).symm
  | bl b =>
    rw [hy.bl] at ry
    obtain rfl : v = Value.bool b := ry
    have nn : ∀ {a : Addr}, x = .ref a → Q (.fz (.bl false)) → wpAny (model X.prog X.w) X.A (compareOp .Is u (.bool b)) (EP X pins σ Qv) X.xe s := fun e q => by
      subst e
      obtain rfl : u = Value.ref _ := rx
      exact isB_other rfl (fun e => by cases e) (endB I i kt q)
    cases dx with
    | non => rw [hx.non] at rx; obtain rfl : u = Value.none := rx; exact isB_other rfl (fun e => by cases e) (endB I i kt q)
    | bl a =>
      rw [hx.bl] at rx
      obtain rfl : u = Value.bool a := rx
      by_cases e : a = b
      · subst e
        exact wpAny_is_self rfl (endB I i kt (by simpa using q))
      · exact isB_other rfl (fun z => e (Value.bool.inj z)) (endB I i kt (by have q : Q (.fz (.bl (a == b))) := q; rw [beq_eq_false_iff_ne.mpr e] at q; exact q))
    | int b => rw [hx.int] at rx; obtain ⟨t, rfl⟩ := rx; exact isB_other rfl (fun e => by cases e) (endB I i kt q)
    | str b => rw [hx.str] at rx; obtain ⟨t, rfl⟩ := rx; exact isB_other rfl (fun e => by cases e) (endB I i kt q)
    | lst ds =>
      obtain ⟨a, _, e, _⟩ := hx.lst i
      exact nn e q
    | tup ds =>
      obtain ⟨a, _, e, _⟩ := hx.tup i
      exact nn e q
    | obj c ds =>
      obtain ⟨a, e⟩ : ∃ a, x = .ref a := by
        rcases hx with (hx | ⟨_, _, _, e, _⟩) | ⟨a, _, _, _, _, _, e, _⟩
        · obtain ⟨a, _, _, e, _⟩ := hx.objU i
          exact ⟨a, e⟩
        · cases e
        · exact ⟨a, e⟩
      exact nn e q
    | cls n => exact q.elim
    | scr n => exact q.elim
  | _ => exact q.elim
theorem isNot_of {M : Model} {A : Around} {E : Value → Shared → Prop} {s : Shared} {a b : Value} {Q : Value → Shared → Prop} (h : wpAny M A (compareOp .Is a b) (fun v s' => ∃ c, v = .bool c ∧ Q (.bool (!c)) s') E s) : wpAny M A (compareOp .IsNot a b) Q E s := by
  have e : compareOp .IsNot a b = (compareOp .Is a b >>= fun v => match v with | .bool c => pure (.bool (!c)) | v => pure v) := by
    show (isSame a b >>= fun r => pure (Value.bool (!r))) = ((isSame a b >>= fun r => pure (Value.bool r)) >>= _)
    rw [bind_assoc]
    simp only [pure_bind]
  rw [e]
  refine wpAny_bind (wpAny_mono h (fun v s' ⟨c, e, q⟩ => ?_) fun _ _ x => x)
  subst e
  exact wpAny_pure q
theorem opb_isNot : OpB X T W (compareOp .IsNot) opIsNot := by
  intro pins s σ H Hf x y u v dx dy Q Xq Qv I rx ry i hx hy xo kt q
  refine isNot_of (thn (opb_is pins s σ H Hf x y u v dx dy (QR.neg Q) Xq (fun w H' => ∃ b, w = .bl b ∧ Qv (.bl (!b)) H') I rx ry i hx hy xo (neg_kt kt) q) fun v' s' ⟨w, H', I', r', b, e, q'⟩ => ?_)
  subst e
  obtain rfl : v' = Value.bool b := r'
  exact ⟨b, rfl, .bl (!b), H', I', rfl, q'⟩

/-! ### in -/
theorem atom_flat {K : PySem.W.Frag} {Hf : Hp} {d : D} {v : V} (h : d.atom = true) (r : Rep T K Hf d v) : flatV v = true := by
  cases d <;> first | (unfold Rep at r; subst r; rfl) | cases h
theorem atoms_flat {K : PySem.W.Frag} {Hf : Hp} : ∀ {ds : List D} {vs : List V}, ds.all D.atom = true → RepL T K Hf ds vs → vs.all flatV = true
  | [], vs, _, r => by rw [repL_nil.mp r]; rfl
  | d :: ds, vs, h, r => by
    obtain ⟨v, w, rfl, r1, r2⟩ := repL_cons.mp r
    rw [List.all_cons, Bool.and_eq_true] at h
    rw [List.all_cons, atom_flat h.1 r1, atoms_flat h.2 r2]
    rfl
theorem eqV_of {K : PySem.W.Frag} {Hf : Hp} {d e : D} {v w : V} (hd : d.atom = true) (he : e.atom = true) (r : Rep T K Hf d v) (q : Rep T K Hf e w) : eqV v w = D.eqv d e := by
  cases d <;> cases e <;> first | (unfold Rep at r q; subst r; subst q; rfl) | exact absurd hd Bool.false_ne_true | exact absurd he Bool.false_ne_true
theorem inV_of {K : PySem.W.Frag} {Hf : Hp} {d : D} {v : V} (hd : d.atom = true) (r : Rep T K Hf d v) : ∀ {ds : List D} {vs : List V}, ds.all D.atom = true → RepL T K Hf ds vs → inV v vs = memD d ds
  | [], vs, _, q => by rw [repL_nil.mp q]; rfl
  | e :: ds, vs, h, q => by
    obtain ⟨w, w', rfl, r1, r2⟩ := repL_cons.mp q
    rw [List.all_cons, Bool.and_eq_true] at h
    unfold inV memD
    rw [List.any_cons, List.any_cons, eqV_of h.1 hd r1 r]
    have := inV_of hd r h.2 r2
    unfold inV memD at this
    rw [this]
theorem atom_rep {K : PySem.W.Frag} {Hf H : Hp} {d : D} {v : V} (h : d.atom = true) (r : BRep T K Hf H d v) : Rep T K Hf d v := by
  rcases r with (r | ⟨_, _, _, rfl, _⟩) | ⟨_, _, _, _, _, rfl, _⟩
  · exact r
  · cases h
  · cases h
theorem opb_inF : OpB X T W (compareOp .In) opInF := by
  intro pins s σ H Hf x y u v dx dy Q Xq Qv I rx ry i hx hy xo kt q
  unfold opInF at q
  split at q
  · obtain ⟨⟨h1, h2⟩, q⟩ := q
    obtain ⟨a, vs, rfl, e1, e2⟩ := hy.lst i
    have rd := atom_rep h1 hx
    refine useR op_in_seq I rx ry ⟨a, vs, rfl, .inl (SqL.of e1), atom_flat h1 rd, atoms_flat h2 e2, ?_⟩
    exact kt _ Hf H (.fz (.bl _)) (Step.refl i) (by unfold Res Rep; rw [← inV_of h1 rd h2 e2]; rfl) q
  · obtain ⟨⟨h1, h2⟩, q⟩ := q
    obtain ⟨a, vs, rfl, e1, e2⟩ := hy.tup i
    have rd := atom_rep h1 hx
    refine useR op_in_seq I rx ry ⟨a, vs, rfl, .inr (SqT.of e1), atom_flat h1 rd, atoms_flat h2 e2, ?_⟩
    exact kt _ Hf H (.fz (.bl _)) (Step.refl i) (by unfold Res Rep; rw [← inV_of h1 rd h2 e2]; rfl) q
  · exact q.elim
theorem notIn_of {M : Model} {A : Around} {E : Value → Shared → Prop} {s : Shared} {a b : Value} {Q : Value → Shared → Prop} (h : wpAny M A (compareOp .In a b) (fun v s' => ∃ c, v = .bool c ∧ Q (.bool (!c)) s') E s) : wpAny M A (compareOp .NotIn a b) Q E s := by
  have e : compareOp .NotIn a b = (compareOp .In a b >>= fun v => match v with | .bool c => pure (.bool (!c)) | v => pure v) := by
    show (contains b a >>= fun r => pure (Value.bool (!r))) = ((contains b a >>= fun r => pure (Value.bool r)) >>= _)
    rw [bind_assoc]
    simp only [pure_bind]
  rw [e]
  refine wpAny_bind (wpAny_mono h (fun v s' ⟨c, e, q⟩ => ?_) fun _ _ x => x)
  subst e
  exact wpAny_pure q
theorem opb_notInF : OpB X T W (compareOp .NotIn) opNotInF := by
  intro pins s σ H Hf x y u v dx dy Q Xq Qv I rx ry i hx hy xo kt q
  refine notIn_of (thn (opb_inF pins s σ H Hf x y u v dx dy (QR.neg Q) Xq (fun w H' => ∃ b, w = .bl b ∧ Qv (.bl (!b)) H') I rx ry i hx hy xo (neg_kt kt) q) fun v' s' ⟨w, H', I', r', b, e, q'⟩ => ?_)
  subst e
  obtain rfl : v' = Value.bool b := r'
  exact ⟨b, rfl, .bl (!b), H', I', rfl, q'⟩
theorem opv_in (o : OpC X T W k dn) : OpV X T W (compareOp .In) (opIn dn) := by
  intro pins s σ H Hf x y u v dx dy Q Xq Qv I rx ry i hx hy xo kt q
  unfold opIn at q
  split at q
  · exact opb_inF pins s σ H Hf x y u v dx _ Q Xq Qv I rx ry i hx.b hy.b xo kt q
  · exact opb_inF pins s σ H Hf x y u v dx _ Q Xq Qv I rx ry i hx.b hy.b xo kt q
  · split at q
    · obtain ⟨c1, e1, q⟩ := q
      subst e1
      unfold Rep at hx hy
      exact useR op_in_sign I rx ry ⟨_, _, hx, hy, kt _ Hf H (.fz (.bl _)) (Step.refl i) (by unfold Res Rep; rfl) q⟩
    · exact q.elim
  · rename_i c xs
    obtain ⟨a, dx', fs, rfl, hc, hH, _⟩ := hy.objU i
    obtain rfl : v = Value.ref a := ry
    obtain ⟨f, _, g1, g2, g3⟩ := objCall o (m := .contains) rfl I i hy rx hx xo (kt := fun v Hf' H' r S rs (q : QR.bl Q r) => (show ∃ b, v = .bl b ∧ Qv (.bl b) H' from by
      cases r with
      | own ds => exact q.elim
      | fz d =>
        cases d with
        | bl b => exact ⟨b, res_bl rs rfl, (by have e := res_bl rs rfl; rw [← e]; exact kt _ Hf' H' (.fz (.bl b)) S rs q)⟩
        | _ => exact q.elim)) q
    obtain ⟨od, J, _⟩ := inst_at I hH
    obtain ⟨m, fr⟩ := I.fr
    refine PySem.W.in_K fr I.ok.mod.kin J g1 g2 (thn g3 fun v s' ⟨w', H', I', r', b, e, q'⟩ => ?_)
    subst e
    obtain rfl : v = Value.bool b := r'
    exact wpAny_truthy_bool ⟨.bl b, H', I', rfl, q'⟩
  · exact q.elim
theorem opv_notIn (o : OpC X T W k dn) : OpV X T W (compareOp .NotIn) (opNotIn dn) := by
  intro pins s σ H Hf x y u v dx dy Q Xq Qv I rx ry i hx hy xo kt q
  refine notIn_of (thn (opv_in o pins s σ H Hf x y u v dx dy (QR.neg Q) Xq (fun w H' => ∃ b, w = .bl b ∧ Qv (.bl (!b)) H') I rx ry i hx hy xo (neg_kt kt) q) fun v' s' ⟨w, H', I', r', b, e, q'⟩ => ?_)
  subst e
  obtain rfl : v' = Value.bool b := r'
  exact ⟨b, rfl, .bl (!b), H', I', rfl, q'⟩
end
end VL
end
section
set_option Elab.async false
set_option linter.all false
set_option maxRecDepth 100000
set_option maxHeartbeats 4000000
/-! VLs7: tests, and, or, not; arguments, displays, calls of defs. -/
namespace VL
open PySem PySem.Spec PyProof.Rows L2
section
variable {X : Cx} {T : Tab} {W : WX} {z : Hd} {k : Nat} {dn : Dun} {e a b c o : Expr} {t ta tb tc : EW} {u v : BW} {p q : TW} {pos : Pos} {rest : List Expr}
theorem res_b {Hf' H' H : Hp} {w : V} {r : R} {d : D} (h : Res T X.K Hf' H' H w r) (e : r.d = d) (i : Ex Hf' H') : BRep T X.K Hf' H' d w := by
  cases r with
  | fz d' =>
    cases e
    exact (show Rep T X.K Hf' _ w from h).b
  | own ds =>
    cases e
    obtain ⟨a, vs, e1, e2, e3, e4, e5⟩ := h
    exact .inl (.inr ⟨a, vs, ds, rfl, e1, e4, e5⟩)
theorem Step.trans' {Hf H Hf1 H1 Hf2 H2 : Hp} (a : Step Hf H Hf1 H1) (b : Step Hf1 H1 Hf2 H2) : Step Hf H Hf2 H2 := a.trans b
theorem trul {ds : List D} {vs : List V} {Hf : Hp} (r : RepL T X.K Hf ds vs) : (!vs.isEmpty) = !ds.isEmpty := by
  cases ds with
  | nil => rw [repL_nil.mp r]; rfl
  | cons d ds =>
    obtain ⟨w, s, rfl, _⟩ := repL_cons.mp r
    rfl
theorem truV_of {Hf H : Hp} {d : D} {w : V} {b : Bool} (i : Ex Hf H) (h : BRep T X.K Hf H d w) (e : tru d = some b) (sh : d.short) : TruV X.K w H b := by
  cases d with
  | non => rw [h.non]; cases e; rfl
  | bl c => rw [h.bl]; cases e; rfl
  | int c => rw [h.int]; cases e; rfl
  | str c =>
    rw [h.str]
    cases e
    exact ⟨by rw [sizeLine_eq]; exact sh, rfl⟩
  | lst ds =>
    obtain ⟨a, vs, rfl, e1, e2⟩ := h.lst i
    cases e
    exact .inl ⟨vs, SqL.of e1, (trul e2).symm⟩
  | tup ds =>
    obtain ⟨a, vs, rfl, e1, e2⟩ := h.tup i
    cases e
    exact .inr (.inl ⟨vs, SqT.of e1, (trul e2).symm⟩)
  | obj _ _ => cases e
  | cls _ => cases e
  | scr _ => cases e
/-- a value's truth as a test -/
theorem vt_ofB (h : VB X T W z a u) (he : ∀ whole, isTrue a X.env whole = (do let v ← whole; standAt a.pos; holding [v] (truthy v)) := by intro _; rfl) : VT X T W z a (cOfB u) :=
  PT.imp (pt_truth h he) fun σ H Qb ⟨H0, Hf, δ, Q, Xq, st, xo, kt, q⟩ =>
    ⟨H0, Hf, δ, _, Xq, st, xo, fun w Hf' H' d S r (hq : match tru d with | some b => d.short ∧ Q b | none => False) => by
      cases e : tru d with
      | none => rw [e] at hq; exact hq.elim
      | some b =>
        rw [e] at hq
        exact ⟨b, truV_of S.i r e hq.1, kt b Hf' H' S hq.2⟩, q⟩
theorem vt_of (h : VE X T W z a t) (he : ∀ whole, isTrue a X.env whole = (do let v ← whole; standAt a.pos; holding [v] (truthy v)) := by intro _; rfl) : VT X T W z a (cOf t) := vt_ofB h.toB he
theorem kt_bl {Hf H : Hp} {Q : Bool → Prop} {Qb : Bool → Hp → Prop} {K : PySem.W.Frag} (kt : ∀ b Hf' H', Step Hf H Hf' H' → Q b → Qb b H') :
    ∀ v Hf' H' r, Step Hf H Hf' H' → Res T K Hf' H' H v r → (match r.d with | .bl b => Q b | _ => False) → ∃ b, v = .bl b ∧ Qb b H' := fun v Hf' H' r S rs q => by
  cases r with
  | own ds => exact q.elim
  | fz d =>
    cases d with
    | bl b => exact ⟨b, res_bl rs rfl, kt b Hf' H' S q⟩
    | _ => exact q.elim
theorem vt_cmp {op : CmpOp} {w2 : Op2} (ho : OpV X T W (compareOp op) w2) (ha : VE X T W z a ta) (hb : VE X T W z b tb) (hm : behindInMarks op b = false) : VT X T W z (.Compare a [op] [b] pos) (cBl (wBin w2 ta tb)) :=
  ⟨fun pins s σ H Qb I ⟨H0, Hf, δ, Q, Xq, st, xo, k, q⟩ => wpAny_isTrue_Compare1 (VD.two (Q := fun _ => True) (R := fun _ _ _ _ _ _ => True) (Q2 := fun d e => w2 d e (fun r => match r.d with | .bl b => Q b | _ => False) Xq) ha.toD hb.toD I st xo q fun va ub s2 x y H2 Hf2 d e I2 rx ry S r1 r2 q2 =>
    thn (ho pins s2 σ H2 Hf2 x y va ub d e _ Xq _ I2 rx ry S.i r1 r2 (xo.step S) (kt_bl fun b Hf' H' S' q' => k b Hf' H' (S.trans S') q') q2) fun v' s3 ⟨w', H3, I3, r3, b, e3, q3⟩ => by
      subst e3
      cases r3
      exact wpAny_truthy_bool ⟨H3, I3, q3⟩) hm⟩
theorem vt_cmpB {op : CmpOp} {w2 : Op2} (ho : OpB X T W (compareOp op) w2) (ha : VB X T W z a u) (hb : VB X T W z b v) (hm : behindInMarks op b = false) : VT X T W z (.Compare a [op] [b] pos) (cBl (wBinB w2 u v)) :=
  ⟨fun pins s σ H Qb I ⟨H0, Hf, δ, Q, Xq, st, xo, k, q⟩ => wpAny_isTrue_Compare1 (VB.two (R := fun _ _ _ _ _ _ => True) (Q2 := fun d e => w2 d e (fun r => match r.d with | .bl b => Q b | _ => False) Xq) ha hb I st xo q fun va ub s2 x y H2 Hf2 d e I2 rx ry S r1 r2 q2 =>
    thn (ho pins s2 σ H2 Hf2 x y va ub d e _ Xq _ I2 rx ry S.i r1 r2 (xo.step S) (kt_bl fun b Hf' H' S' q' => k b Hf' H' (S.trans S') q') q2) fun v' s3 ⟨w', H3, I3, r3, b, e3, q3⟩ => by
      subst e3
      cases r3
      exact wpAny_truthy_bool ⟨H3, I3, q3⟩) hm⟩
theorem VD.one {pins : List (Addr × Obj)} {s : Shared} {σ : L2.St} {H H0 Hf : Hp} {δ : Fr} {Xq : QX} {Q2 : D → Prop} (ha : VD X T W z a u) (I : Inv X pins σ H s) (st : StOk T X.K z H0 Hf H σ δ) (xo : XOk T X.K W σ Hf H Xq) (q : u δ Q2 Xq) :
    wpAny (model X.prog X.w) X.A (eval a X.env) (fun va s1 => ∃ x H1 Hf1 d, Inv X pins σ H1 s1 ∧ RelV x va ∧ Step Hf H Hf1 H1 ∧ Rep T X.K Hf1 d x ∧ Q2 d) X.xe s :=
  thn (ha.run pins s σ H (fun x H1 => ∃ Hf1 d, Step Hf H Hf1 H1 ∧ Rep T X.K Hf1 d x ∧ Q2 d) I ⟨H0, Hf, δ, _, Xq, st, xo, fun x Hf1 H1 d S rp hq => ⟨Hf1, d, S, rp, hq⟩, q⟩) fun va s1 ⟨x, H1, I1, r1, Hf1, d, S1, rp1, q1⟩ => ⟨x, H1, Hf1, d, I1, r1, S1, rp1, q1⟩
/-- the reading of a truth value -/
def qBl (C : Bool → Prop) : QR := fun r => match r.d with
  | .bl b => C b
  | _ => False
theorem kt_blS {Hf H : Hp} {C : Bool → Prop} {K : PySem.W.Frag} : ∀ v Hf' H' r, Step Hf H Hf' H' → Res T K Hf' H' H v r → qBl C r → ∃ b Hf2, v = .bl b ∧ Step Hf H Hf2 H' ∧ C b := fun v Hf' H' r S rs q => by
  cases r with
  | own ds => exact q.elim
  | fz d =>
    cases d with
    | bl b => exact ⟨b, Hf', res_bl rs rfl, S, q⟩
    | _ => exact q.elim
theorem ve_chain {op op' : CmpOp} {w2 w2' : Op2} (ho : OpV X T W (compareOp op) w2) (ho' : OpV X T W (compareOp op') w2') (ha : VE X T W z a ta) (hb : VE X T W z b tb) (hc : VE X T W z c tc) (hm : lastMarks [op, op'] [b, c] = false := by with_unfolding_all rfl) :
    VE X T W z (.Compare a [op, op'] [b, c] pos) (wChain w2 w2' ta tb tc) := by
  refine ⟨fun pins s σ H Qv I ⟨H0, Hf, δ, Q, Xq, st, xo, k, q⟩ => ?_⟩
  refine Compare_chain (thn (ha.toD.one (Q2 := fun d => bOf tb δ (fun e => w2 d e (qBl fun b => if b = true then bOf tc δ (fun u => w2' e u Q Xq) Xq else Q (.fz (.bl false))) Xq) Xq) I st xo q) fun va s1 ⟨x, H1, Hf1, d, I1, r1, S1, p1, q1⟩ => ?_) hm
  refine chain_link (thn (hb.toD.one (Q2 := fun e => w2 d e (qBl fun b => if b = true then bOf tc δ (fun u => w2' e u Q Xq) Xq else Q (.fz (.bl false))) Xq) I1 (st.step S1) (xo.step S1) q1) fun vb s2 ⟨y, H2, Hf2, e, I2, r2, S2, p2, q2⟩ => ?_)
  have S12 := S1.trans S2
  refine thn (ho pins s2 σ H2 Hf2 x y va vb d e _ Xq (fun v H' => ∃ b Hf3, v = .bl b ∧ Step Hf2 H2 Hf3 H' ∧ if b = true then bOf tc δ (fun u => w2' e u Q Xq) Xq else Q (.fz (.bl false))) I2 r1 r2 S2.i (p1.mono S2.f) p2 (xo.step S12) kt_blS q2) fun v' s3 ⟨w', H3, I3, r3, b, Hf3, e3, S3, q3⟩ => ?_
  subst e3
  cases r3
  refine wpAny_truthy_bool ?_
  have S13 := S12.trans S3
  cases b with
  | false => exact ite_ff ⟨.bl false, H3, I3, rfl, k _ Hf3 H3 (.fz (.bl false)) S13 (by unfold Res Rep; rfl) q3⟩
  | true =>
    refine ite_tt (chain_last (thn (hc.toD.one (Q2 := fun u => w2' e u Q Xq) I3 (st.step S13) (xo.step S13) q3) fun vc s4 ⟨y4, H4, Hf4, d4, I4, r4, S4, p4, q4⟩ => ?_))
    have S14 := S13.trans S4
    exact ho' pins s4 σ H4 Hf4 y y4 vb vc e d4 Q Xq Qv I4 r2 r4 S4.i (p2.mono (S3.f.trans S4.f)) p4 (xo.step S14) (kont k S14) q4
theorem vt_chain {op op' : CmpOp} {w2 w2' : Op2} (ho : OpV X T W (compareOp op) w2) (ho' : OpV X T W (compareOp op') w2') (ha : VE X T W z a ta) (hb : VE X T W z b tb) (hc : VE X T W z c tc) (hm : lastMarks [op, op'] [b, c] = false := by with_unfolding_all rfl) :
    VT X T W z (.Compare a [op, op'] [b, c] pos) (cBl (wChain w2 w2' ta tb tc)) := by
  refine ⟨fun pins s σ H Qb I ⟨H0, Hf, δ, Qz, Xq, st, xo, k, q⟩ => ?_⟩
  refine isTrue_chain (thn (ha.toD.one (Q2 := fun d => bOf tb δ (fun e => w2 d e (qBl fun b => if b = true then bOf tc δ (fun u => w2' e u (qBl Qz) Xq) Xq else Qz false) Xq) Xq) I st xo q) fun va s1 ⟨x, H1, Hf1, d, I1, r1, S1, p1, q1⟩ => ?_) hm
  refine test_link (thn (hb.toD.one (Q2 := fun e => w2 d e (qBl fun b => if b = true then bOf tc δ (fun u => w2' e u (qBl Qz) Xq) Xq else Qz false) Xq) I1 (st.step S1) (xo.step S1) q1) fun vb s2 ⟨y, H2, Hf2, e, I2, r2, S2, p2, q2⟩ => ?_)
  have S12 := S1.trans S2
  refine thn (ho pins s2 σ H2 Hf2 x y va vb d e _ Xq (fun v H' => ∃ b Hf3, v = .bl b ∧ Step Hf2 H2 Hf3 H' ∧ if b = true then bOf tc δ (fun u => w2' e u (qBl Qz) Xq) Xq else Qz false) I2 r1 r2 S2.i (p1.mono S2.f) p2 (xo.step S12) kt_blS q2) fun v' s3 ⟨w', H3, I3, r3, b, Hf3, e3, S3, q3⟩ => ?_
  subst e3
  cases r3
  refine wpAny_truthy_bool ?_
  have S13 := S12.trans S3
  cases b with
  | false => exact ite_ff ⟨H3, I3, k false Hf3 H3 S13 q3⟩
  | true =>
    refine ite_tt (test_last (thn (hc.toD.one (Q2 := fun u => w2' e u (qBl Qz) Xq) I3 (st.step S13) (xo.step S13) q3) fun vc s4 ⟨y4, H4, Hf4, d4, I4, r4, S4, p4, q4⟩ => ?_))
    have S14 := S13.trans S4
    refine thn (ho' pins s4 σ H4 Hf4 y y4 vb vc e d4 _ Xq (fun v H' => ∃ b, v = .bl b ∧ Qb b H') I4 r2 r4 S4.i (p2.mono (S3.f.trans S4.f)) p4 (xo.step S14) (kt_bl fun b Hf' H' S' q' => k b Hf' H' (S14.trans S') q') q4) fun v5 s5 ⟨w5, H5, I5, r5, b, e5, q5⟩ => ?_
    subst e5
    cases r5
    exact wpAny_truthy_bool ⟨H5, I5, q5⟩
/-! ### and, or, not -/
theorem vw_one (h : VT X T W z a p) : VW X T W z (.BoolOp .And [a] pos) p := pw_and1 h
theorem vw_one' (h : VT X T W z a p) : VW X T W z (.BoolOp .Or [a] pos) p := pw_or1 h
theorem vw_and (ha : VT X T W z a p) (hb : VW X T W z (.BoolOp .And (b :: rest) pos) q) : VW X T W z (.BoolOp .And (a :: b :: rest) pos) (cAnd p q) := PW.imp (pw_and ha hb) fun σ H Qb ⟨H0, Hf, δ, Q, Xq, st, xo, kt, qq⟩ =>
  ⟨H0, Hf, δ, _, Xq, st, xo, fun b Hf' H' S (hq : if b = true then q δ Q Xq else Q false) => by
    cases b with
    | true => exact ⟨H0, Hf', δ, Q, Xq, st.step S, xo.step S, fun b Hf2 H2 S2 q2 => kt b Hf2 H2 (S.trans S2) q2, hq⟩
    | false => exact kt false Hf' H' S hq, qq⟩
theorem vw_or (ha : VT X T W z a p) (hb : VW X T W z (.BoolOp .Or (b :: rest) pos) q) : VW X T W z (.BoolOp .Or (a :: b :: rest) pos) (cOr p q) := PW.imp (pw_or ha hb) fun σ H Qb ⟨H0, Hf, δ, Q, Xq, st, xo, kt, qq⟩ =>
  ⟨H0, Hf, δ, _, Xq, st, xo, fun b Hf' H' S (hq : if b = true then Q true else q δ Q Xq) => by
    cases b with
    | false => exact ⟨H0, Hf', δ, Q, Xq, st.step S, xo.step S, fun b Hf2 H2 S2 q2 => kt b Hf2 H2 (S.trans S2) q2, hq⟩
    | true => exact kt true Hf' H' S hq, qq⟩
theorem vt_not (ha : VT X T W z a p) : VT X T W z (.UnaryOp .Not a pos) (cNot p) := PT.imp (pt_not ha) fun σ H Qb ⟨H0, Hf, δ, Q, Xq, st, xo, kt, qq⟩ =>
  ⟨H0, Hf, δ, _, Xq, st, xo, fun b Hf' H' S hq => kt _ Hf' H' S hq, qq⟩
theorem vt_w (h : VW X T W z a p) : VT X T W z a p := h.pt
theorem ve_one {op} (h : VE X T W z a t) : VE X T W z (.BoolOp op [a] pos) t := pe_one h
/-- a reading's value that is a truth value -/
theorem res_blD {Hf' H' H : Hp} {w : V} {r : R} {C : Bool → Prop} (h : Res T X.K Hf' H' H w r) (q : match r.d with | .bl b => C b | _ => False) : ∃ b, w = .bl b ∧ C b := by
  cases r with
  | own ds => exact q.elim
  | fz d =>
    cases d with
    | bl b => exact ⟨b, res_bl h rfl, q⟩
    | _ => exact q.elim
theorem ve_and (ha : VE X T W z a ta) (hb : VE X T W z (.BoolOp .And (b :: rest) pos) tb) : VE X T W z (.BoolOp .And (a :: b :: rest) pos) (wAnd ta tb) := PE.imp (pe_and ha hb) fun σ H Qv ⟨H0, Hf, δ, Q, Xq, st, xo, kt, qq⟩ =>
  ⟨H0, Hf, δ, _, Xq, st, xo, fun w Hf' H' r S rs (hq : match r.d with | .bl b => if b = true then tb δ Q Xq else Q (.fz (.bl false)) | _ => False) => by
    obtain ⟨b, e, hq⟩ := res_blD (C := fun b => if b = true then tb δ Q Xq else Q (.fz (.bl false))) rs hq
    refine ⟨b, e, ?_⟩
    cases b with
    | true => exact ⟨H0, Hf', δ, Q, Xq, st.step S, xo.step S, kont kt S, hq⟩
    | false => exact kt _ Hf' H' (.fz (.bl false)) S (by unfold Res Rep; rfl) hq, qq⟩
theorem ve_or (ha : VE X T W z a ta) (hb : VE X T W z (.BoolOp .Or (b :: rest) pos) tb) : VE X T W z (.BoolOp .Or (a :: b :: rest) pos) (wOr ta tb) := PE.imp (pe_or ha hb) fun σ H Qv ⟨H0, Hf, δ, Q, Xq, st, xo, kt, qq⟩ =>
  ⟨H0, Hf, δ, _, Xq, st, xo, fun w Hf' H' r S rs (hq : match r.d with | .bl b => if b = true then Q (.fz (.bl true)) else tb δ Q Xq | _ => False) => by
    obtain ⟨b, e, hq⟩ := res_blD (C := fun b => if b = true then Q (.fz (.bl true)) else tb δ Q Xq) rs hq
    refine ⟨b, e, ?_⟩
    cases b with
    | false => exact ⟨H0, Hf', δ, Q, Xq, st.step S, xo.step S, kont kt S, hq⟩
    | true => exact kt _ Hf' H' (.fz (.bl true)) S (by unfold Res Rep; rfl) hq, qq⟩
theorem ve_not (ha : VE X T W z a ta) : VE X T W z (.UnaryOp .Not a pos) (wNot ta) := PE.imp (pe_not ha) fun σ H Qv ⟨H0, Hf, δ, Q, Xq, st, xo, kt, qq⟩ =>
  ⟨H0, Hf, δ, _, Xq, st, xo, fun w Hf' H' r S rs (hq : match r.d with | .bl b => Q (.fz (.bl (!b))) | _ => False) => by
    obtain ⟨b, e, hq⟩ := res_blD (C := fun b => Q (.fz (.bl (!b)))) rs hq
    exact ⟨b, e, kt _ Hf' H' (.fz (.bl (!b))) S (by unfold Res Rep; rfl) hq⟩, qq⟩
theorem ve_ite (hc : VT X T W z c p) (ha : VE X T W z a ta) (hb : VE X T W z b tb) : VE X T W z (.IfExp c a b pos) (wIte p ta tb) := PE.imp (pe_ifExp hc ha hb) fun σ H Qv ⟨H0, Hf, δ, Q, Xq, st, xo, kt, qq⟩ =>
  ⟨H0, Hf, δ, _, Xq, st, xo, fun b Hf' H' S (hq : if b = true then ta δ Q Xq else tb δ Q Xq) => by
    cases b with
    | true => exact ⟨H0, Hf', δ, Q, Xq, st.step S, xo.step S, kont kt S, hq⟩
    | false => exact ⟨H0, Hf', δ, Q, Xq, st.step S, xo.step S, kont kt S, hq⟩, qq⟩
/-! ### arguments -/
variable {es : List Expr} {ms : List Bool} {ar : AW}
theorem va_nil : VA X T W z [] [] aNil := PA.imp pa_nil fun σ H Qa ⟨H0, Hf, δ, Q, Xq, st, xo, kt, qq⟩ => kt [] Hf H [] (Step.refl st.i) ⟨rfl, rfl⟩ qq
theorem va_cons (ha : VE X T W z e ta) (hr : VA X T W z ms es ar) (hs : starEach (e :: es) X.env = (false, eval e X.env) :: starEach es X.env := by rfl) : VA X T W z (false :: ms) (e :: es) (aCons ta ar) := PA.imp (pa_cons ha.toD hr hs) fun σ H Qa ⟨H0, Hf, δ, Q, Xq, st, xo, kt, qq⟩ =>
  ⟨H0, Hf, δ, _, Xq, st, xo, fun w Hf' H' d S r (hq : ar δ (fun ds => Q (d :: ds)) Xq) =>
    ⟨H0, Hf', δ, _, Xq, st.step S, xo.step S, fun vs Hf2 H2 ds S2 r2 q2 => kt (w :: vs) Hf2 H2 (d :: ds) (S.trans S2) ⟨d, ds, w, vs, rfl, rfl, r.mono S2.f, r2⟩ q2, hq⟩, qq⟩
theorem va_consB (ha : VB X T W z e u) (hr : VA X T W z ms es ar) (hs : starEach (e :: es) X.env = (false, eval e X.env) :: starEach es X.env := by rfl) : VA X T W z (true :: ms) (e :: es) (aConsB u ar) := PA.imp (pa_cons ha hr hs) fun σ H Qa ⟨H0, Hf, δ, Q, Xq, st, xo, kt, qq⟩ =>
  ⟨H0, Hf, δ, _, Xq, st, xo, fun w Hf' H' d S r (hq : (seqOf d).isSome = true ∧ ar δ (fun ds => Q (d :: ds)) Xq) =>
    ⟨H0, Hf', δ, _, Xq, st.step S, xo.step S, fun vs Hf2 H2 ds S2 r2 q2 => kt (w :: vs) Hf2 H2 (d :: ds) (S.trans S2) ⟨d, ds, w, vs, rfl, rfl, (by
      rcases r with r | ⟨_, _, _, _, _, rfl, _⟩
      · exact r.step S2
      · exact absurd hq.1 Bool.false_ne_true), r2⟩ q2, hq.2⟩, qq⟩
/-- all frozen -/
def allF : List Bool → Bool
  | [] => true
  | m :: ms => !m && allF ms
theorem ArgsOk.rep {Hf H : Hp} : ∀ {ms : List Bool} {ds : List D} {vs : List V}, allF ms = true → ArgsOk T X.K Hf H ms ds vs → RepL T X.K Hf ds vs
  | [], ds, vs, _, h => by
    obtain ⟨rfl, rfl⟩ := h
    exact RepL.nil
  | true :: ms, ds, vs, e, h => absurd e Bool.false_ne_true
  | false :: ms, ds, vs, e, h => by
    obtain ⟨d, dr, v, vr, rfl, rfl, e3, e4⟩ := h
    exact RepL.cons e3 (ArgsOk.rep (ms := ms) e e4)
theorem ve_tup {x1} (h : VA X T W z ms es ar) (hm : allF ms = true := by rfl) (hl : ms.length ≤ 16777216 := by decide) : VE X T W z (.Tuple es x1 pos) (wTup ar) := PE.imp (pe_tup h) fun σ H Qv ⟨H0, Hf, δ, Q, Xq, st, xo, kt, qq⟩ =>
  ⟨H0, Hf, δ, _, Xq, st, xo, fun vs Hf' H' ds S r hq => ⟨by rw [r.len.2, sizeLine_eq]; exact hl, fun p hp =>
    kt _ (upd Hf' p (.tup vs)) _ (.fz (.tup ds)) (S.trans (Step.new S.i hp)) (by
      unfold Res Rep
      exact ⟨p, vs, rfl, upd_same, (r.rep hm).mono (Ex.new (S.i.fresh hp))⟩) hq⟩, qq⟩
theorem ve_lst (h : VA X T W z ms es ar) (hm : allF ms = true := by rfl) (hl : ms.length ≤ 16777216 := by decide) : VE X T W z (.List es pos) (wLst ar) := PE.imp (pe_lst h) fun σ H Qv ⟨H0, Hf, δ, Q, Xq, st, xo, kt, qq⟩ =>
  ⟨H0, Hf, δ, _, Xq, st, xo, fun vs Hf' H' ds S r hq => ⟨by rw [r.len.2, sizeLine_eq]; exact hl, fun p hp =>
    kt _ Hf' _ (.own ds) (S.trans (Step.newH S.i hp)) ⟨p, vs, rfl, S.i.fresh hp, S.h.fresh hp, upd_same, r.rep hm⟩ hq⟩, qq⟩
/-! ### calls -/
variable {x m : Str} {p0 apos : Pos} {dv : List D} {sp : FS} {f : Addr}
theorem ve_call (F : FnV X.prog X.w X.K X.mg X.base T k f ms dv sp) (hr : Room k X.A) (tk : Takes X W) (hg : Gl X x) (hm : X.mg x = some (.ref f)) (ha : VA X T W z ms (e :: es) ar) (hdb : (x == ("__debug__" : Str)) = false := by decide)
    (he : starEach (e :: es) X.env = (false, eval e X.env) :: starEach es X.env := by rfl) (hpl : (backTo pos (starEach es X.env)).any (·.1) = false := by rfl) : VE X T W z (.Call (.Name x p0) (e :: es) [] pos) (wCall sp dv ar) := by
  refine ⟨fun pins s σ H Qv I ⟨H0, Hf, δ, Q, Xq, st, xo, kt, qq⟩ => ?_⟩
  refine wpAny_Call_Name_kw (ld_glob I hg hm ?_ hdb)
  refine PySem.W.callWith_K (h₀ := X.base) I.ok.mod.kin F.kp (thn (ha.run pos pins s σ H (fun vs H' => ∃ Hf' ds, Step Hf H Hf' H' ∧ ArgsOk T X.K Hf' H' ms ds vs ∧ sp (ds ++ dv) Q Xq) I ⟨H0, Hf, δ, _, Xq, st, xo, fun vs Hf' H' ds S r q => ⟨Hf', ds, S, r, q⟩, qq⟩) fun us s1 ⟨vs, H1, I1, r, Hf1, ds, S, ra, q⟩ => ⟨I1.kIn, ?_⟩) he hpl
  exact callV F hr tk I1 r S.i ra (xo.step S) (kont kt S) q
theorem ve_call0 (F : FnV X.prog X.w X.K X.mg X.base T k f [] dv sp) (hr : Room k X.A) (tk : Takes X W) (hg : Gl X x) (hm : X.mg x = some (.ref f)) (hdb : (x == ("__debug__" : Str)) = false := by decide) : VE X T W z (.Call (.Name x p0) [] [] pos) (wCall sp dv aNil) := by
  refine ⟨fun pins s σ H Qv I ⟨H0, Hf, δ, Q, Xq, st, xo, kt, qq⟩ => ?_⟩
  refine wpAny_Call_Name_kw (ld_glob I hg hm ?_ hdb)
  exact PySem.W.callWith_K0 I.kIn F.kp (callV F hr tk (us := []) (vs := []) (ds := []) I .nil st.i ⟨rfl, rfl⟩ xo kt qq)
end
end VL
end
section
set_option Elab.async false
set_option linter.all false
set_option maxRecDepth 100000
set_option maxHeartbeats 4000000
/-! VLs8: attributes, constants of a class, properties, methods, new instances. -/
namespace VL
open PySem PySem.Spec PyProof.Rows L2
theorem lookup_of {fs : List (Str × V)} : ∀ {i : Nat} {f : Str} {v : V}, (fs.map (·.1)).Nodup → (fs.map (·.1))[i]? = some f → (fs.map (·.2))[i]? = some v → fs.lookup f = some v := by
  induction fs with
  | nil => intro i f v _ h; simp at h
  | cons p fs ih =>
    obtain ⟨g, w⟩ := p
    intro i f v nd h1 h2
    simp only [List.map_cons, List.nodup_cons] at nd
    cases i with
    | zero =>
      simp at h1 h2
      subst h1 h2
      simp
    | succ i =>
      simp at h1 h2
      have hm : f ∈ fs.map (·.1) := by
        obtain ⟨a, ha⟩ := h1
        exact List.mem_map.mpr ⟨(f, a), List.mem_of_getElem? ha, rfl⟩
      have hne : f ≠ g := fun e => nd.1 (by rw [← e]; exact hm)
      rw [List.lookup_cons]
      have : (f == g) = false := beq_eq_false_iff_ne.mpr hne
      rw [this]
      exact ih nd.2 (by simpa using h1) (by simpa using h2)
theorem lookup_no {fs : List (Str × V)} {f : Str} (h : f ∉ fs.map (·.1)) : fs.lookup f = none := by
  induction fs with
  | nil => rfl
  | cons p fs ih =>
    obtain ⟨g, w⟩ := p
    simp only [List.map_cons, List.mem_cons, not_or] at h
    rw [List.lookup_cons, beq_eq_false_iff_ne.mpr h.1]
    exact ih h.2
/-- a reading of the table -/
theorem lookup_mem {α : Type} {tb : List (Nat × α)} {c : Nat} {i : α} (h : tb.lookup c = some i) : (c, i) ∈ tb := by
  induction tb with
  | nil => cases h
  | cons p tb ih =>
    obtain ⟨d, j⟩ := p
    rw [List.lookup_cons] at h
    cases e : (c == d) with
    | true =>
      rw [e] at h
      cases h
      rw [beq_iff_eq.mp e]
      exact List.mem_cons_self
    | false =>
      rw [e] at h
      exact List.mem_cons_of_mem _ (ih h)
section
variable {T : Tab} {K : PySem.W.Frag} {Hf H : Hp}
/-- an instance, whole or being made -/
theorem BRep.obj {c : Nat} {xs : List D} {v : V} (i : Ex Hf H) (h : BRep T K Hf H (.obj c xs) v) : ∃ a dx fs n, v = .ref a ∧ c < T.n ∧ H a = some (.ins (T.cls c) dx fs) ∧ fs.map (·.1) = (T.flds c).take n ∧ RepL T K Hf xs (fs.map (·.2)) := by
  rcases h with (h | ⟨_, _, _, e, _⟩) | ⟨a, dx, fs, c', ds, e, e1, e2, e3, e4, e5⟩
  · obtain ⟨a, dx, fs, e1, e2, e3, e4, e5⟩ := h.objU i
    exact ⟨a, dx, fs, (T.flds c).length, e1, e2, e3, by rw [List.take_length]; exact e4, e5⟩
  · cases e
  · cases e
    exact ⟨a, dx, fs, _, e1, e2, e3, e4, e5⟩
end
section
variable {X : Cx} {T : Tab} {W : WX} {z : Hd} {k : Nat} {e o : Expr} {t : EW} {u : BW} {ar : AW} {ms : List Bool} {es : List Expr} {f x m : Str} {pos p0 apos : Pos} {dv : List D} {sp : FS} {c : Nat}
theorem ve_fld {tb : List (Nat × Nat)} (lib : Lib T X.K) (he : VB X T W z e u) (ht : tb.all (fun p => (T.flds p.1)[p.2]? == some f) = true := by rfl) (hb : attributeBase e f X.env (eval e X.env) = eval e X.env := by rfl) : VE X T W z (.Attribute e f pos) (wFld tb u) := by
  refine ⟨fun pins s σ H Qv I ⟨H0, Hf, δ, Q, Xq, st, xo, kt, q⟩ => ?_⟩
  refine attr_of hb (thn (he.run pins s σ H (fun w H' => ∃ Hf' d, Step Hf H Hf' H' ∧ BRep T X.K Hf' H' d w ∧ (match d with | .obj c xs => (match tb.lookup c with | some i => (match xs[i]? with | some v => Q (.fz v) | none => False) | none => False) | _ => False)) I
    ⟨H0, Hf, δ, _, Xq, st, xo, fun w Hf' H' d S r hq => ⟨Hf', d, S, r, hq⟩, q⟩) fun va s1 ⟨w, H1, I1, rw1, Hf1, d, S, r, hq⟩ => ?_)
  cases d with
  | obj c xs =>
    obtain ⟨a, dx, fs, n, rfl, hc, e1, e2, e3⟩ := r.obj S.i
    obtain rfl : va = Value.ref a := rw1
    simp only [] at hq
    cases l : tb.lookup c with
    | none => rw [l] at hq; exact hq.elim
    | some i =>
      rw [l] at hq
      simp only [] at hq
      cases g : xs[i]? with
      | none => rw [g] at hq; exact hq.elim
      | some d =>
        rw [g] at hq
        obtain ⟨v, g1, g2⟩ := e3.getD g
        have hf : (T.flds c)[i]? = some f := by
          have := List.all_eq_true.mp ht _ (lookup_mem l)
          exact beq_iff_eq.mp this
        have hi : i < (fs.map (·.1)).length := by
          have := (List.getElem?_eq_some_iff.mp g1).1
          simpa using this
        have hf2 : (fs.map (·.1))[i]? = some f := by
          rw [e2] at hi ⊢
          rw [List.getElem?_take]
          have : i < n := by
            have := List.length_take_le n (T.flds c)
            omega
          rw [if_pos this]
          exact hf
        have nd : (fs.map (·.1)).Nodup := by
          rw [e2]
          exact (List.take_sublist _ _).nodup (lib.nd c hc)
        exact getattr_ok I1 e1 (lib.cl c hc).cl (lib.na c hc f (List.mem_of_getElem? hf)) (lookup_of nd hf2 g1) fun u' s2 I2 ru => ⟨v, H1, I2, ru, kt v Hf1 H1 (.fz d) S g2 hq⟩
  | _ => exact hq.elim
/-- a constant of the class -/
structure ConF (T : Tab) (K : PySem.W.Frag) (f : Str) (p : Nat × D) : Prop where
  con : ∃ v u, Con K (T.cls p.1) f v u ∧ ∀ Hf, Rep T K Hf p.2 v
  nf : f ∉ T.flds p.1
theorem ve_con {tb : List (Nat × D)} (lib : Lib T X.K) (he : VB X T W z e u) (ht : ∀ p ∈ tb, ConF T X.K f p) (hb : attributeBase e f X.env (eval e X.env) = eval e X.env := by rfl) : VE X T W z (.Attribute e f pos) (wCon tb u) := by
  refine ⟨fun pins s σ H Qv I ⟨H0, Hf, δ, Q, Xq, st, xo, kt, q⟩ => ?_⟩
  refine attr_of hb (thn (he.run pins s σ H (fun w H' => ∃ Hf' d, Step Hf H Hf' H' ∧ BRep T X.K Hf' H' d w ∧ (match d with | .obj c xs => (match tb.lookup c with | some v => Q (.fz v) | none => False) | _ => False)) I
    ⟨H0, Hf, δ, _, Xq, st, xo, fun w Hf' H' d S r hq => ⟨Hf', d, S, r, hq⟩, q⟩) fun va s1 ⟨w, H1, I1, rw1, Hf1, d, S, r, hq⟩ => ?_)
  cases d with
  | obj c xs =>
    obtain ⟨a, dx, fs, n, rfl, hc, e1, e2, e3⟩ := r.obj S.i
    obtain rfl : va = Value.ref a := rw1
    simp only [] at hq
    cases l : tb.lookup c with
    | none => rw [l] at hq; exact hq.elim
    | some d =>
      rw [l] at hq
      obtain ⟨⟨v, u, cn, rp⟩, nf⟩ := ht _ (lookup_mem l)
      refine getcon_ok I1 e1 (lib.cl c hc).cl cn (lookup_no ?_) fun s2 I2 => ⟨v, H1, I2, cn.rel, kt v Hf1 H1 (.fz d) S (rp _) hq⟩
      rw [e2]
      exact fun h => nf (List.mem_of_mem_take h)
  | _ => exact hq.elim
/-! ### properties, methods -/
theorem ve_prop {p g : Addr} (lib : Lib T X.K) (he : VE X T W z e t) (hp : PropOf X.K (T.cls c) f p g) (F : FnV X.prog X.w X.K X.mg X.base T k g [false] [] sp) (hr : Room (k + 1) X.A) (hb : attributeBase e f X.env (eval e X.env) = eval e X.env := by rfl) :
    VE X T W z (.Attribute e f pos) (wProp c sp t) := by
  refine ⟨fun pins s σ H Qv I ⟨H0, Hf, δ, Q, Xq, st, xo, kt, q⟩ => ?_⟩
  refine attr_of hb (thn (he.toD.one (Q2 := fun d => match d with | .obj c' xs => c' = c ∧ sp [.obj c' xs] Q (fun _ => False) | _ => False) I st xo q) fun va s1 ⟨w, H1, Hf1, d, I1, r1, S, rp, hq⟩ => ?_)
  cases d with
  | obj c' xs =>
    obtain ⟨rfl, hq⟩ := hq
    obtain ⟨a, dx, fs, rfl, hc, e1, e2, e3⟩ := rp.objU S.i
    obtain rfl : va = Value.ref a := r1
    obtain ⟨fd, ps, des, dvs, G, b, rd, hd⟩ := F.ex
    have hdv : dvs = [] := repL_nil.mp (hd Hf1)
    subst hdv
    cases rd
    refine getprop_ok (Q := Qv) (E := fun _ _ _ => False) I1 e1 (lib.cl c' hc).cl hp G hr b .nil (fun _ _ _ _ _ _ _ cx => ?_) ?_
    · obtain ⟨_, _, _, _, _, _, _, _, _, _, _, _, f⟩ := cx
      exact f
    · exact ⟨Hf1, [.obj c' xs], Q, fun _ => False, S.i, ⟨_, _, _, _, rfl, rfl, rp, rfl, rfl⟩, kont kt S, fun _ _ _ _ _ _ _ f => f.elim, hq⟩
  | _ => exact hq.elim
/-- a method of the class: name not a field -/
structure MethF (T : Tab) (K : PySem.W.Frag) (c : Nat) (m : Str) (g : Addr) : Prop where
  me : Meth K (T.cls c) m g
  nf : m ∉ T.flds c
theorem ve_meth {g : Addr} {pl : Sem Bool} (lib : Lib T X.K) (ho : VE X T W z o t) (hm : MethF T X.K c m g) (F : FnV X.prog X.w X.K X.mg X.base T k g (false :: ms) dv sp) (hr : Room k X.A) (tk : Takes X W) (ha : VA X T W z ms (e :: es) ar)
    (hst : starEach (e :: es) X.env = (false, eval e X.env) :: starEach es X.env := by rfl) (hpl : (backTo pos (starEach es X.env)).any (·.1) = false := by rfl)
    (ht : eval (.Call (.Attribute o m apos) (e :: es) [] pos) X.env = (do
      let ov ← eval o X.env
      standAt apos.atName
      let (f, first) ← holding [ov] (getMethod ov m pl)
      callWith pos f first (backTo pos (starEach (e :: es) X.env)) (backToKw pos (keywordEach [] X.env))) := by rfl) :
    VE X T W z (.Call (.Attribute o m apos) (e :: es) [] pos) (wMeth c sp dv t ar) := by
  refine ⟨fun pins s σ H Qv I ⟨H0, Hf, δ, Q, Xq, st, xo, kt, q⟩ => ?_⟩
  refine PySem.W.methodCall_KW (pl := pl) (thn (ho.toD.one (Q2 := fun d => match d with | .obj c' xs => c' = c ∧ ar δ (fun ds => sp (.obj c' xs :: (ds ++ dv)) Q Xq) Xq | _ => False) I st xo q) fun va s1 ⟨w, H1, Hf1, d, I1, r1, S, rp, hq⟩ => ?_) ht
  cases d with
  | obj c' xs =>
    obtain ⟨rfl, hq⟩ := hq
    obtain ⟨a, dx, fs, rfl, hc, e1, e2, e3⟩ := rp.objU S.i
    obtain rfl : va = Value.ref a := r1
    refine getmeth_ok I1 e1 (lib.cl c' hc).cl hm.me (lookup_no (by rw [e2]; exact hm.nf)) ?_
    refine PySem.W.callWith_K (first := [.ref a]) (h₀ := X.base) I.ok.mod.kin hm.me.kp (thn (ha.run pos pins s1 σ H1 (fun vs H' => ∃ Hf' ds, Step Hf1 H1 Hf' H' ∧ ArgsOk T X.K Hf' H' ms ds vs ∧ sp (.obj c' xs :: (ds ++ dv)) Q Xq) I1
      ⟨H0, Hf1, δ, _, Xq, st.step S, xo.step S, fun vs Hf' H' ds S r q => ⟨Hf', ds, S, r, q⟩, hq⟩) fun us s2 ⟨vs, H2, I2, r, Hf2, ds, S2, ra, q⟩ => ⟨I2.kIn, ?_⟩) hst hpl
    exact callV F hr tk (us := .ref a :: us) (vs := .ref a :: vs) (ds := .obj c' xs :: ds) I2 (.cons rfl r) S2.i ⟨_, _, _, _, rfl, rfl, rp.mono S2.f, ra⟩ (xo.step (S.trans S2)) (kont kt (S.trans S2)) q
  | _ => exact hq.elim
theorem ve_meth0 {g : Addr} {pl : Sem Bool} (lib : Lib T X.K) (ho : VE X T W z o t) (hm : MethF T X.K c m g) (F : FnV X.prog X.w X.K X.mg X.base T k g [false] dv sp) (hr : Room k X.A) (tk : Takes X W)
    (ht : eval (.Call (.Attribute o m apos) [] [] pos) X.env = (do
      let ov ← eval o X.env
      standAt apos.atName
      let (f, first) ← holding [ov] (getMethod ov m pl)
      callWith pos f first (backTo pos (starEach [] X.env)) (backToKw pos (keywordEach [] X.env))) := by rfl) :
    VE X T W z (.Call (.Attribute o m apos) [] [] pos) (wMeth c sp dv t aNil) := by
  refine ⟨fun pins s σ H Qv I ⟨H0, Hf, δ, Q, Xq, st, xo, kt, q⟩ => ?_⟩
  refine PySem.W.methodCall_KW (pl := pl) (thn (ho.toD.one (Q2 := fun d => match d with | .obj c' xs => c' = c ∧ sp (.obj c' xs :: ([] ++ dv)) Q Xq | _ => False) I st xo q) fun va s1 ⟨w, H1, Hf1, d, I1, r1, S, rp, hq⟩ => ?_) ht
  cases d with
  | obj c' xs =>
    obtain ⟨rfl, hq⟩ := hq
    obtain ⟨a, dx, fs, rfl, hc, e1, e2, e3⟩ := rp.objU S.i
    obtain rfl : va = Value.ref a := r1
    refine getmeth_ok I1 e1 (lib.cl c' hc).cl hm.me (lookup_no (by rw [e2]; exact hm.nf)) ?_
    exact PySem.W.callWith_K0 (first := [.ref a]) I1.kIn hm.me.kp (callV F hr tk (us := [.ref a]) (vs := [.ref a]) (ds := [.obj c' xs]) I1 (.cons rfl .nil) S.i ⟨_, _, _, _, rfl, rfl, rp, rfl, rfl⟩ (xo.step S) (kont kt S) hq)
  | _ => exact hq.elim
/-! ### new instances -/
end
/-- the promise of a class's __init__: H1 the heap ahead of the instance -/
def SpI (T : Tab) (K : PySem.W.Frag) (c : Nat) (ms : List Bool) (sp : FS) : Sp := fun vs H Qv E => ∃ Hf H1 a dx ds vs' Q X, vs = .ref a :: vs' ∧ H1 a = none ∧ H1 dx = none ∧ dx ≠ a ∧ H = upd (upd H1 dx (.own a)) a (.ins (T.cls c) dx []) ∧ Ex Hf H1 ∧ ArgsOk T K Hf H1 ms ds vs' ∧
  (∀ Hf' H' r, Step Hf H1 Hf' H' → Res T K Hf' H' H1 (.ref a) r → Q r → Qv .non H') ∧ (∀ x cls d Hf' H', Step Hf H1 Hf' H' → RepX T K Hf' cls d x → X x → E cls d H') ∧ sp ds Q X
structure MkV (P : Program) (w : World) (K : PySem.W.Frag) (mg : Str → Option Value) (base : Heap) (T : Tab) (k : Nat) (c : Nat) (ms : List Bool) (dv : List D) (sp : FS) : Prop where
  ex : ∃ (f : Addr) (fd : FuncData) (ps : List Str) (ds : List Value) (dvs : List V), Mk K (T.cls c) f ∧ FnOk P w K mg base (L2.CX P w) k f fd ps (SpI T K c (ms ++ List.replicate dv.length false) sp) ∧ Binds K fd ps ds ∧ Vals dvs ds ∧ ∀ H, RepL T K H dv dvs
  lt : c < T.n
  kp : PySem.W.keepIn K (.ref (T.cls c)) = true
section
variable {X : Cx} {T : Tab} {W : WX} {z : Hd} {k : Nat} {e o : Expr} {t : EW} {u : BW} {ar : AW} {ms : List Bool} {es : List Expr} {f x m : Str} {pos p0 apos : Pos} {dv : List D} {sp : FS} {c : Nat}
theorem run_makeSD {k : Nat} {f C : Addr} {fd : FuncData} {ps : List Str} {sp : Sp} {dvs : List V} {ds : List Value} {E : XK} {pins : List (Addr × Obj)} {σ : L2.St} {H : Hp} {s : Shared} {Q : VK} {us : List Value} {vs : List V} (M : Mk X.K C f) (F : FnOk X.prog X.w X.K X.mg X.base (L2.CX X.prog X.w) k f fd ps sp) (hr : Room (k + 1) X.A)
    (hb : Binds X.K fd ps ds) (hd : Vals dvs ds) (hx : PassesAt (L2.CX X.prog X.w) X σ E) (I : Inv X pins σ H s) (r : Vals vs us)
    (h : ∀ x dx, H x = none → H dx = none → dx ≠ x → sp (.ref x :: (vs ++ dvs)) (upd (upd H dx (.own x)) x (.ins C dx [])) (fun v H2 => v = .non ∧ Q (.ref x) H2) E) :
    wpAny (model X.prog X.w) X.A (call (.ref C) us) (EP X pins σ Q) X.xe s := by
  have hq := h (s.heap.objs.size + 1) s.heap.objs.size (I.hok.fresh (Nat.le_succ _)) (I.hok.fresh (Nat.le_refl _)) (Nat.ne_of_lt (Nat.lt_succ_self _))
  have I2 := Inv.made (C := C) I
  have r2 : Vals (V.ref (s.heap.objs.size + 1) :: (vs ++ dvs)) (Value.ref (s.heap.objs.size + 1) :: (us ++ ds)) := .cons rfl (r.append hd)
  have hl : (Value.ref (s.heap.objs.size + 1) :: us ++ ds).length = ps.length := by
    have e := r2.length
    rw [F.len _ _ _ _ hq] at e
    exact e.symm
  refine wpAny_call (make_map (f := f) I.kIn M.makes M.init (beq_iff_eq.mp M.fn) (codeAny_mono (F.run _ X.stack _ _ ⟨Value.ref (s.heap.objs.size + 1) :: us, []⟩ (Value.ref (s.heap.objs.size + 1) :: (us ++ ds)) _ _ E (hr.make C us [])
    (I2.env0.make C us []) (hb _ (Value.ref (s.heap.objs.size + 1) :: us) I2.kIn hl) r2 hq) fun r s' hq' => ?_))
  cases r with
  | error e => exact hx pins _ _ e s' I2 hq'
  | ok fl =>
    cases fl with
    | ret u =>
      obtain ⟨v, H', I3, rv, ev, q3⟩ := I2.after hq'
      subst ev
      exact ⟨rv, ⟨V.ref (s.heap.objs.size + 1), H', I3, rfl, q3⟩⟩
    | next => exact False.elim hq'
    | brk => exact False.elim hq'
    | cont => exact False.elim hq'
theorem makeV (M : MkV X.prog X.w X.K X.mg X.base T k c ms dv sp) (hr : Room (k + 1) X.A) (tk : Takes X W) {pins : List (Addr × Obj)} {s : Shared} {σ : L2.St} {H Hf : Hp} {vs : List V} {us : List Value} {ds : List D} {Q : QR} {Xq : QX} {Qv : VK}
    (I : Inv X pins σ H s) (r : Vals vs us) (i : Ex Hf H) (ha : ArgsOk T X.K Hf H ms ds vs) (xo : XOk T X.K W σ Hf H Xq) (kt : ∀ v Hf' H' r, Step Hf H Hf' H' → Res T X.K Hf' H' H v r → Q r → Qv v H') (q : sp (ds ++ dv) Q Xq) :
    wpAny (model X.prog X.w) X.A (call (.ref (T.cls c)) us) (EP X pins σ Qv) X.xe s := by
  obtain ⟨f, fd, ps, des, dvs, mk, G, b, rd, hd⟩ := M.ex
  refine run_makeSD mk G hr b rd (passAt tk σ) I r fun x dx h1 h2 h3 => ?_
  exact ⟨Hf, H, x, dx, ds ++ dv, vs ++ dvs, Q, Xq, rfl, h1, h2, h3, rfl, i, ha.append (ArgsOk.ofRep (hd Hf)), fun Hf' H' r S rs q => ⟨rfl, kt _ Hf' H' r S rs q⟩, fun x cls d Hf' H' S rx hx => xo x cls d Hf' H' S rx hx, q⟩
theorem ve_make (M : MkV X.prog X.w X.K X.mg X.base T k c ms dv sp) (hr : Room (k + 1) X.A) (tk : Takes X W) (hg : Gl X x) (hm : X.mg x = some (.ref (T.cls c))) (ha : VA X T W z ms (e :: es) ar) (hdb : (x == ("__debug__" : Str)) = false := by decide)
    (he : starEach (e :: es) X.env = (false, eval e X.env) :: starEach es X.env := by rfl) (hpl : (backTo pos (starEach es X.env)).any (·.1) = false := by rfl) : VE X T W z (.Call (.Name x p0) (e :: es) [] pos) (wCall sp dv ar) := by
  refine ⟨fun pins s σ H Qv I ⟨H0, Hf, δ, Q, Xq, st, xo, kt, qq⟩ => ?_⟩
  refine wpAny_Call_Name_kw (ld_glob I hg hm ?_ hdb)
  refine PySem.W.callWith_K (h₀ := X.base) I.ok.mod.kin M.kp (thn (ha.run pos pins s σ H (fun vs H' => ∃ Hf' ds, Step Hf H Hf' H' ∧ ArgsOk T X.K Hf' H' ms ds vs ∧ sp (ds ++ dv) Q Xq) I ⟨H0, Hf, δ, _, Xq, st, xo, fun vs Hf' H' ds S r q => ⟨Hf', ds, S, r, q⟩, qq⟩) fun us s1 ⟨vs, H1, I1, r, Hf1, ds, S, ra, q⟩ => ⟨I1.kIn, ?_⟩) he hpl
  exact makeV M hr tk I1 r S.i ra (xo.step S) (kont kt S) q
theorem ve_make0 (M : MkV X.prog X.w X.K X.mg X.base T k c [] dv sp) (hr : Room (k + 1) X.A) (tk : Takes X W) (hg : Gl X x) (hm : X.mg x = some (.ref (T.cls c))) (hdb : (x == ("__debug__" : Str)) = false := by decide) : VE X T W z (.Call (.Name x p0) [] [] pos) (wCall sp dv aNil) := by
  refine ⟨fun pins s σ H Qv I ⟨H0, Hf, δ, Q, Xq, st, xo, kt, qq⟩ => ?_⟩
  refine wpAny_Call_Name_kw (ld_glob I hg hm ?_ hdb)
  exact PySem.W.callWith_K0 I.kIn M.kp (makeV M hr tk (us := []) (vs := []) (ds := []) I .nil st.i ⟨rfl, rfl⟩ xo kt qq)
end
end VL
end
section
set_option Elab.async false
set_option linter.all false
set_option maxRecDepth 100000
set_option maxHeartbeats 4000000
/-! VLbi: abs, bool, str of an own instance. -/
namespace VL
open PySem PySem.Spec PyProof.Rows L2 PySem.Calls Builtin
section
variable {prog : Program} {w : World} {A : Around} {E : Value → Shared → Prop} {s : Shared} {K : PySem.W.Frag} {x C f : Addr} {ox : Obj} {od : Option Obj}
theorem abs_own {Q : Value → Shared → Prop} (X : K.In s.heap) (I : PySem.W.InstAt s.heap x ox C od) (hs : PySem.W.findIn K (.ref C) "__abs__" = some (some (.ref f))) (hf : PySem.W.isFn K (.ref f) = true)
    (h : wpAny (model prog w) A.in1 (call (.ref f) [.ref x]) Q E s) : wpAny (model prog w) A (call (.builtin "abs") [.ref x]) Q E s := by
  refine Calls.call_function_entry PyProof.Rows.kind_abs PyProof.Rows.plain_abs PyProof.Rows.entry_abs (PyProof.Rows.args_abs _) ?_
  unfold Builtin.«abs»
  refine wpAny_bind (m := oneArg "abs" _) (wpAny_pure ?_)
  refine wpAny_bind (m := callSpecial? (.ref x) (Str.ofString "__abs__")) (PySem.W.special_fn X I hs (beq_iff_eq.mp hf) (wpAny_mono h (fun r s' hr => ?_) fun _ _ y => y))
  exact wpAny_pure ⟨_, rfl, hr⟩
theorem bool_own {Q : Value → Shared → Prop} (X : K.In s.heap) (I : PySem.W.InstAt s.heap x ox C od) (hs : PySem.W.findIn K (.ref C) "__bool__" = some (some (.ref f))) (hf : PySem.W.isFn K (.ref f) = true)
    (h : wpAny (model prog w) A.in1.in1 (call (.ref f) [.ref x]) (fun r s₁ => ∃ b, r = Value.bool b ∧ Q r s₁) E s) : wpAny (model prog w) A (call (.type "bool") [.ref x]) Q E s := by
  refine callType_codes (T := "bool") (Bi := Builtin.«object.__init__») (Q₁ := fun r s₁ => ∃ b, r = Value.bool b ∧ Q r s₁) PySem.F.called_bool (PySem.F.typeCall_bool_1 _) PySem.F.entry_object_init ?_ ?_
  · refine codeAny_of_tree ?_
    show wpAny _ A.in1.in1 (do checkBuiltinCall "bool.__new__" ⟨[.type "bool", .ref x], []⟩; again (.builtin "bool.__new__" ⟨[.type "bool", .ref x], []⟩)) _ _ s
    refine wpAny_bind (wpAny_of_eq (PySem.F.newCall_bool_1 _) (wpAny_pure ⟨plainId_quiet (by decide +kernel) _, codeAny_builtin PySem.F.entry_bool_new ?_⟩))
    rw [Around.under_plainId (by decide +kernel) _]
    unfold Builtin.«bool.__new__»
    refine wpAny_bind (wpAny_of_eq (a := true) rfl ?_)
    refine PySem.W.KFB.if_not rfl ?_
    refine wpAny_bind (wpAny_of_eq (a := true) PySem.F.conv_sub_bool ?_)
    refine PySem.W.KFB.if_not rfl ?_
    refine wpAny_bind (wpAny_of_eq (a := [.ref x]) rfl ?_)
    refine wpAny_bind (m := truthy (.ref x)) ?_
    unfold truthy
    refine wpAny_bind (m := callSpecial? (.ref x) (Str.ofString "__bool__")) (PySem.W.special_fn X I hs (beq_iff_eq.mp hf) (wpAny_mono h (fun r s' hr => ?_) fun _ _ y => y))
    obtain ⟨b, rfl, hq⟩ := hr
    exact wpAny_pure (wpAny_pure ⟨_, rfl, hq⟩)
  · rintro obj s₁ ⟨b, rfl, hq⟩
    exact ⟨PySem.typeIs_bool _ _, PySem.F.args_object_init_2 _ _, object_init_meets PySem.F.called_bool.init.lookup PySem.F.called_bool.made (by decide) prog w A.in1 _ s₁ ⟨PySem.typeIs_bool _ _, rfl, hq⟩⟩
theorem strOf_own {Q : Value → Shared → Prop} (hu : A.units < cLine) (X : K.In s.heap) (I : PySem.W.InstAt s.heap x ox C od) (hs : PySem.W.findIn K (.ref C) "__str__" = some (some (.ref f))) (hf : PySem.W.isFn K (.ref f) = true)
    (h : wpAny (model prog w) A (call (.ref f) [.ref x]) (fun r s₁ => ∃ y t, r = Value.str y t ∧ Q r s₁) E s) : wpAny (model prog w) A (Builtin.Str.strOf (.ref x)) Q E s := by
  unfold Builtin.Str.strOf
  refine PySem.W.KFB.if_not rfl ?_
  refine wpAny_bind (wpAny_cRoomFor hu ?_)
  refine wpAny_bind (m := callSpecial? (.ref x) (Str.ofString "__str__")) (PySem.W.special_fn X I hs (beq_iff_eq.mp hf) (wpAny_mono h (fun r s' hr => ?_) fun _ _ y => y))
  obtain ⟨y, t, rfl, hq⟩ := hr
  first
    | exact wpAny_pure hq
    | exact wpAny_bind (wpAny_isInstance (typeIs_str _ _ _) isSubtype_str_str (by first | exact wpAny_pure hq | (rw [if_pos rfl]; exact wpAny_pure hq)))
theorem str_own {Q : Value → Shared → Prop} (hu : A.in1.in1.units < cLine) (X : K.In s.heap) (I : PySem.W.InstAt s.heap x ox C od) (hs : PySem.W.findIn K (.ref C) "__str__" = some (some (.ref f))) (hf : PySem.W.isFn K (.ref f) = true)
    (h : wpAny (model prog w) A.in1.in1 (call (.ref f) [.ref x]) (fun r s₁ => ∃ y t, r = Value.str y t ∧ Q r s₁) E s) : wpAny (model prog w) A (call (.type "str") [.ref x]) Q E s := by
  refine callType_codes (T := "str") (Bi := Builtin.«object.__init__») (Q₁ := fun r s₁ => ∃ y t, r = Value.str y t ∧ Q r s₁) PySem.F.called_str (PySem.F.typeCall_str_1 _) PySem.F.entry_object_init ?_ ?_
  · refine codeAny_of_tree ?_
    show wpAny _ A.in1.in1 (do checkBuiltinCall "str.__new__" ⟨[.type "str", .ref x], []⟩; again (.builtin "str.__new__" ⟨[.type "str", .ref x], []⟩)) _ _ s
    refine wpAny_bind (wpAny_of_eq (PySem.F.newCall_str_1 _) (wpAny_pure ⟨plainId_quiet (by decide +kernel) _, codeAny_builtin PySem.F.entry_str_new ?_⟩))
    rw [Around.under_plainId (by decide +kernel) _]
    rw [str_new_tree]
    refine wpAny_bind (wpAny_pure ?_)
    refine wpAny_bind (wpAny_of_eq isSubtype_str_str ?_)
    refine wpAny_bind (strOf_own hu X I hs hf (wpAny_mono h (fun r s' hr => ?_) fun _ _ y => y))
    obtain ⟨y, t, rfl, hq⟩ := hr
    exact ⟨y, t, rfl, wpAny_pure ⟨_, _, rfl, hq⟩⟩
  · rintro obj s₁ ⟨y, t, rfl, hq⟩
    exact ⟨typeIs_str _ _ _, PySem.F.args_object_init_2 _ _, object_init_meets PySem.F.called_str.init.lookup PySem.F.called_str.made (by decide) prog w A.in1 _ s₁ ⟨typeIs_str _ _ _, rfl, hq⟩⟩
end
end VL
end
section
set_option Elab.async false
set_option linter.all false
set_option maxRecDepth 100000
set_option maxHeartbeats 4000000
/-! VLs9: builtins, subscripts, slices. -/
namespace VL
open PySem PySem.Spec PyProof.Rows L2
def LRepL (T : Tab) (K : PySem.W.Frag) (Hf H : Hp) : List D → List V → Prop
  | [], vs => vs = []
  | d :: ds, vs => ∃ v r, vs = v :: r ∧ LRep T K Hf H d v ∧ LRepL T K Hf H ds r
theorem LRepL.step {T : Tab} {K : PySem.W.Frag} {Hf H Hf' H' : Hp} (S : Step Hf H Hf' H') : ∀ {ds : List D} {vs : List V}, LRepL T K Hf H ds vs → LRepL T K Hf' H' ds vs
  | [], _, h => h
  | d :: ds, _, ⟨v, r, e, h1, h2⟩ => ⟨v, r, e, h1.step S, LRepL.step S h2⟩
def rdL (T : Tab) (K : PySem.W.Frag) (W : WX) (z : Hd) (t : BW) : TE := fun σ H Qv => ∃ H0 Hf δ Q X, StOk T K z H0 Hf H σ δ ∧ XOk T K W σ Hf H X ∧ (∀ v Hf' H' d, Step Hf H Hf' H' → LRep T K Hf' H' d v → Q d → Qv v H') ∧ t δ Q X
def VLr (X : Cx) (T : Tab) (W : WX) (z : Hd) (e : Expr) (t : BW) : Prop := PE X e (rdL T X.K W z t)
theorem VLr.toB {X : Cx} {T : Tab} {W : WX} {z : Hd} {e : Expr} {u : BW} (h : VLr X T W z e u) : VB X T W z e u := PE.imp h fun σ H Qv ⟨H0, Hf, δ, Q, Xq, st, xo, k, q⟩ =>
  ⟨H0, Hf, δ, Q, Xq, st, xo, fun v Hf' H' d S rp hq => k v Hf' H' d S (.inl rp) hq, q⟩
theorem VD.toL {X : Cx} {T : Tab} {W : WX} {z : Hd} {e : Expr} {u : BW} (h : VD X T W z e u) : VLr X T W z e u := PE.imp h fun σ H Qv ⟨H0, Hf, δ, Q, Xq, st, xo, k, q⟩ =>
  ⟨H0, Hf, δ, Q, Xq, st, xo, fun v Hf' H' d S rp hq => k v Hf' H' d S (.inl rp) hq, q⟩
theorem VE.toL {X : Cx} {T : Tab} {W : WX} {z : Hd} {e : Expr} {t : EW} (h : VE X T W z e t) : VLr X T W z e (bOf t) := h.toD.toL
theorem vl_var {X : Cx} {T : Tab} {W : WX} {z : Hd} {i : Nat} {x : Str} {pos : Pos} (hN : X.N[i]? = some x := by rfl) (hv : Vis X.env.scope x := by first | exact Or.inl rfl | exact Or.inr (Or.inl rfl) | exact Or.inr (Or.inr rfl)) (hd : (x == ("__debug__" : Str)) = false := by decide)
    (hcd : (x == ("__classdict__" : Str)) = false := by decide) : VLr X T W z (.Name x pos) (lVar i) := PE.imp (pe_var hN hv hd hcd) fun σ H Qv ⟨H0, Hf, δ, Q, Xq, st, xo, k, q⟩ => by
  unfold lVar at q
  cases e1 : δ[i]? with
  | none => rw [e1] at q; exact q.elim
  | some o =>
    cases o with
    | none => rw [e1] at q; exact q.elim
    | some s =>
      rw [e1] at q
      have h := st.at_ i
      rw [e1] at h
      cases e2 : σ[i]? with
      | none => rw [e2] at h; exact h.elim
      | some o =>
        cases o with
        | none => rw [e2] at h; exact h.elim
        | some v =>
          rw [e2] at h
          refine ⟨v, e2, ?_⟩
          cases s with
          | fz d => exact k v Hf H d (Step.refl st.i) (.inl h) q
          | own ds =>
            obtain ⟨a, vs, e3, e4, e5, e6, e7⟩ := h
            exact k v Hf H (.lst ds) (Step.refl st.i) (.inr ⟨a, vs, ds, rfl, e3, e6, e7⟩) q
          | lent ds =>
            obtain ⟨a, vs, e3, e4, e5, e6⟩ := h
            exact k v Hf H (.lst ds) (Step.refl st.i) (.inr ⟨a, vs, ds, rfl, e3, e5, e6⟩) q
          | ob c ds => exact q.elim
          | exc c ds => exact q.elim
/-- arguments that are only read -/
def rdAB (T : Tab) (K : PySem.W.Frag) (W : WX) (z : Hd) (t : AW) : TA := fun σ H Qa => ∃ H0 Hf δ Q X, StOk T K z H0 Hf H σ δ ∧ XOk T K W σ Hf H X ∧ (∀ vs Hf' H' ds, Step Hf H Hf' H' → LRepL T K Hf' H' ds vs → Q ds → Qa vs H') ∧ t δ Q X
def VAB (X : Cx) (T : Tab) (W : WX) (z : Hd) (es : List Expr) (t : AW) : Prop := PA X es (rdAB T X.K W z t)
def CallV (X : Cx) (T : Tab) (f : Value) (bf : BF) : Prop := ∀ (pins : List (Addr × Obj)) (s : Shared) (σ : L2.St) (H Hf : Hp) (xs : List V) (us : List Value) (ds : List D) (Q : QR) (Qv : VK), Inv X pins σ H s → Vals xs us → Ex Hf H → LRepL T X.K Hf H ds xs →
  (∀ v Hf' H' r, Step Hf H Hf' H' → Res T X.K Hf' H' H v r → Q r → Qv v H') → bf ds Q → wpAny (model X.prog X.w) X.A (call f us) (EP X pins σ Qv) X.xe s
def rB (T : Tab) (K : PySem.W.Frag) (bf : BF) : List V → Hp → VK → Prop := fun xs H Qv => ∃ Hf ds Q, Ex Hf H ∧ LRepL T K Hf H ds xs ∧ (∀ v Hf' H' r, Step Hf H Hf' H' → Res T K Hf' H' H v r → Q r → Qv v H') ∧ bf ds Q
section
variable {X : Cx} {T : Tab} {W : WX} {z : Hd} {k : Nat} {e o : Expr} {t : EW} {u : BW} {ar : AW} {es : List Expr} {x : Str} {pos p0 : Pos} {bf : BF} {dn : Dun}
theorem vab_nil : VAB X T W z [] aNil := PA.imp pa_nil fun σ H Qa ⟨H0, Hf, δ, Q, Xq, st, xo, kt, qq⟩ => kt [] Hf H [] (Step.refl st.i) rfl qq
theorem vab_cons (ha : VLr X T W z e u) (hr : VAB X T W z es ar) (hs : starEach (e :: es) X.env = (false, eval e X.env) :: starEach es X.env := by rfl) : VAB X T W z (e :: es) (aConsR u ar) := PA.imp (pa_cons ha hr hs) fun σ H Qa ⟨H0, Hf, δ, Q, Xq, st, xo, kt, qq⟩ =>
  ⟨H0, Hf, δ, _, Xq, st, xo, fun w Hf' H' d S r (hq : ar δ (fun ds => Q (d :: ds)) Xq) =>
    ⟨H0, Hf', δ, _, Xq, st.step S, xo.step S, fun vs Hf2 H2 ds S2 r2 q2 => kt (w :: vs) Hf2 H2 (d :: ds) (S.trans S2) ⟨w, vs, rfl, r.step S2, r2⟩ q2, hq⟩, qq⟩
theorem CallV.r {f : Value} (h : CallV X T f bf) : CallR X f (rB T X.K bf) := fun pins s σ H xs us Qv I r ⟨Hf, ds, Q, i, b, kt, q⟩ => h pins s σ H Hf xs us ds Q Qv I r i b kt q
theorem blt_imp {σ : L2.St} {H : Hp} {Qv : VK} (h : rdR T X.K W z (wBlt bf ar) σ H Qv) : tCB (rB T X.K bf) (rdAB T X.K W z ar) σ H Qv := by
  obtain ⟨H0, Hf, δ, Q, Xq, st, xo, kt, q⟩ := h
  exact ⟨H0, Hf, δ, _, Xq, st, xo, fun vs Hf' H' ds S r hq => ⟨Hf', ds, Q, S.i, r, kont kt S, hq⟩, q⟩
theorem ve_blt {id : String} (hc : CallV X T (.builtin id) bf) (hg : Gl X x) (hm : X.mg x = none) (hv : bootBuiltins x = some (.builtin id)) (ha : VAB X T W z (e :: es) ar) (hn : x ≠ "__name__" := by decide) (hdb : (x == ("__debug__" : Str)) = false := by decide)
    (he : starEach (e :: es) X.env = (false, eval e X.env) :: starEach es X.env := by rfl) (hpl : (backTo pos (starEach es X.env)).any (·.1) = false := by rfl) : VE X T W z (.Call (.Name x p0) (e :: es) [] pos) (wBlt bf ar) :=
  PE.imp (pe_callB hc.r hg hm hv ha hn hdb he hpl) fun σ H Qv h => blt_imp h
theorem ve_bltT {ty : String} (hc : CallV X T (.type ty) bf) (hg : Gl X x) (hm : X.mg x = none) (hv : bootBuiltins x = some (.type ty)) (ha : VAB X T W z (e :: es) ar) (hn : x ≠ "__name__" := by decide) (hdb : (x == ("__debug__" : Str)) = false := by decide)
    (he : starEach (e :: es) X.env = (false, eval e X.env) :: starEach es X.env := by rfl) (hpl : (backTo pos (starEach es X.env)).any (·.1) = false := by rfl) : VE X T W z (.Call (.Name x p0) (e :: es) [] pos) (wBlt bf ar) :=
  PE.imp (pe_callTy hc.r hg hm hv ha hn hdb he hpl) fun σ H Qv h => blt_imp h
theorem ve_bltG {id : String} (hc : CallV X T (.builtin id) bf) (hg : Gl X x) (hm : X.mg x = some (.builtin id)) (ha : VAB X T W z (e :: es) ar) (hdb : (x == ("__debug__" : Str)) = false := by decide)
    (he : starEach (e :: es) X.env = (false, eval e X.env) :: starEach es X.env := by rfl) (hpl : (backTo pos (starEach es X.env)).any (·.1) = false := by rfl) : VE X T W z (.Call (.Name x p0) (e :: es) [] pos) (wBlt bf ar) :=
  PE.imp (pe_callBfun hc.r hg hm ha hdb he hpl) fun σ H Qv h => blt_imp h
/-! ### the functions -/
theorem br1 {Hf H : Hp} {d : D} {xs : List V} (h : LRepL T X.K Hf H [d] xs) : ∃ v, xs = [v] ∧ LRep T X.K Hf H d v := by
  obtain ⟨v, r, rfl, h1, rfl⟩ := h
  exact ⟨v, rfl, h1⟩
theorem br2 {Hf H : Hp} {d d' : D} {xs : List V} (h : LRepL T X.K Hf H [d, d'] xs) : ∃ v v', xs = [v, v'] ∧ LRep T X.K Hf H d v ∧ LRep T X.K Hf H d' v' := by
  obtain ⟨v, r, rfl, h1, v', r', rfl, h2, rfl⟩ := h
  exact ⟨v, v', rfl, h1, h2⟩
/-- an instance's own special method of one place, called anywhere within -/
theorem callVA {f : Addr} {ms : List Bool} {sp : FS} {A' : Around} (F : FnV X.prog X.w X.K X.mg X.base T k f ms [] sp) (hr : Room k A') {pins : List (Addr × Obj)} {s : Shared} {σ : L2.St} {H Hf : Hp} {vs : List V} {us : List Value} {ds : List D} {Q : QR} {Qv : VK} {E : Value → Shared → Prop}
    (e0 : Env0 X.prog X.w X.K X.mg X.base A' X.stack s H) (I : Inv X pins σ H s) (r : Vals vs us) (i : Ex Hf H) (ha : ArgsOk T X.K Hf H ms ds vs) (kt : ∀ v Hf' H' r, Step Hf H Hf' H' → Res T X.K Hf' H' H v r → Q r → Qv v H') (q : sp ds Q (fun _ => False)) :
    wpAny (model X.prog X.w) A' (call (.ref f) us) (EP X pins σ Qv) E s := by
  obtain ⟨fd, ps, des, dvs, G, b, rd, hd⟩ := F.ex
  have hdv : dvs = [] := repL_nil.mp (hd Hf)
  subst hdv
  cases rd
  rw [List.length_nil, List.replicate_zero, List.append_nil] at G
  have h : SpV T X.K ms sp vs H Qv (fun _ _ _ => False) := ⟨Hf, ds, Q, fun _ => False, i, ha, kt, fun _ _ _ _ _ _ _ f => f.elim, q⟩
  have hl : us.length = ps.length := by rw [← r.length]; exact G.len _ _ _ _ h
  have b2 := b s us I.kIn (by rw [List.append_nil]; exact hl)
  rw [List.append_nil] at b2
  refine wpAny_call (codeAny_mono (G.run A' X.stack s H ⟨us, []⟩ us vs Qv (fun _ _ _ => False) hr e0 b2 r h) fun r s' hq => ?_)
  cases r with
  | error e =>
    obtain ⟨_, _, _, _, _, _, _, _, _, _, _, _, f⟩ := hq
    exact f.elim
  | ok fl =>
    cases fl with
    | ret u => exact I.after hq
    | next => exact False.elim hq
    | brk => exact False.elim hq
    | cont => exact False.elim hq
/-- its facts -/
theorem obj1_at (o : OpC X T W k dn) {m : Dn} (hm : m.ms = [false]) {pins : List (Addr × Obj)} {s : Shared} {σ : L2.St} {H Hf : Hp} {c : Nat} {xs : List D} {v : V} {u : Value} {Q : QR} (I : Inv X pins σ H s) (i : Ex Hf H) (rx : RelV v u) (hx : Rep T X.K Hf (.obj c xs) v) (q : obj1 dn m c xs Q) :
    ∃ f a od dx sp, v = .ref a ∧ u = .ref a ∧ PySem.W.InstAt s.heap a (PySem.W.instObj (T.cls c) dx) (T.cls c) (some od) ∧ PySem.W.findIn X.K (.ref (T.cls c)) m.nm = some (some (.ref f)) ∧ PySem.W.isFn X.K (.ref f) = true ∧ FnV X.prog X.w X.K X.mg X.base T k f [false] [] sp ∧ sp [.obj c xs] Q (fun _ => False) := by
  unfold obj1 at q
  cases e : dn c m with
  | none => rw [e] at q; exact q.elim
  | some sp =>
    rw [e] at q
    obtain ⟨a, dx, fs, rfl, hc, hH, _⟩ := hx.objU i
    obtain rfl : u = Value.ref a := rx
    obtain ⟨f, h1, h2, F⟩ := (o.du c m sp e hc).ex
    rw [hm] at F
    obtain ⟨od, J, _⟩ := inst_at I hH
    exact ⟨f, a, od, dx, sp, rfl, rfl, J, h1, h2, F, q⟩
theorem one_arg {Hf H : Hp} {d : D} {v : V} (h : Rep T X.K Hf d v) : ArgsOk T X.K Hf H [false] [d] [v] := ⟨_, _, _, _, rfl, rfl, h, rfl, rfl⟩
theorem LRep.rep {Hf H : Hp} {d : D} {v : V} (hd : ∀ ds, d ≠ .lst ds) (h : LRep T X.K Hf H d v) : Rep T X.K Hf d v := by
  rcases h with h | ⟨a, vs, ds, e, _⟩
  · exact h
  · exact (hd ds e).elim
theorem LRep.b {Hf H : Hp} {d : D} {v : V} (h : LRep T X.K Hf H d v) : BRep T X.K Hf H d v := .inl h
/-- the end of a rule of the hand layer -/
theorem fin_i {Hf H : Hp} {Q : QR} {Qv : VK} {i : Int} (i0 : Ex Hf H) (kt : ∀ v Hf' H' r, Step Hf H Hf' H' → Res T X.K Hf' H' H v r → Q r → Qv v H') (q : Q (.fz (.int i))) : Qv (.int i) H := kt _ Hf H (.fz (.int i)) (Step.refl i0) (by unfold Res Rep; rfl) q
theorem fin_b {Hf H : Hp} {Q : QR} {Qv : VK} {i : Bool} (i0 : Ex Hf H) (kt : ∀ v Hf' H' r, Step Hf H Hf' H' → Res T X.K Hf' H' H v r → Q r → Qv v H') (q : Q (.fz (.bl i))) : Qv (.bl i) H := kt _ Hf H (.fz (.bl i)) (Step.refl i0) (by unfold Res Rep; rfl) q
theorem fin_s {Hf H : Hp} {Q : QR} {Qv : VK} {i : Str} (i0 : Ex Hf H) (kt : ∀ v Hf' H' r, Step Hf H Hf' H' → Res T X.K Hf' H' H v r → Q r → Qv v H') (q : Q (.fz (.str i))) : Qv (.str i) H := kt _ Hf H (.fz (.str i)) (Step.refl i0) (by unfold Res Rep; rfl) q
theorem fin_l {Hf H : Hp} {Q : QR} {Qv : VK} {ds : List D} {vs : List V} {p : Addr} (i0 : Ex Hf H) (hp : H p = none) (r : RepL T X.K Hf ds vs) (kt : ∀ v Hf' H' r, Step Hf H Hf' H' → Res T X.K Hf' H' H v r → Q r → Qv v H') (q : Q (.own ds)) : Qv (.ref p) (upd H p (.lst vs)) :=
  kt _ Hf _ _ (Step.newH i0 hp) (resOwn i0 hp r) q
theorem fin_t {Hf H : Hp} {Q : QR} {Qv : VK} {ds : List D} {vs : List V} {p : Addr} (i0 : Ex Hf H) (hp : H p = none) (r : RepL T X.K Hf ds vs) (kt : ∀ v Hf' H' r, Step Hf H Hf' H' → Res T X.K Hf' H' H v r → Q r → Qv v H') (q : Q (.fz (.tup ds))) : Qv (.ref p) (upd H p (.tup vs)) :=
  kt _ _ _ _ (Step.new i0 hp) (resTup i0 hp r) q
theorem cv_len (o : OpC X T W k dn) : CallV X T (.builtin "len") (bLen dn) := by
  intro pins s σ H Hf xs us ds Q Qv I r i b kt q
  unfold bLen at q
  split at q
  · rename_i d
    obtain ⟨v, rfl, hb⟩ := br1 b
    split at q
    · obtain ⟨a, vs, rfl, e1, e2⟩ := hb.b.lst i
      exact call_len pins s σ H _ us Qv I r ⟨_, _, rfl, .inl ⟨vs, SqL.of e1, e2.length⟩, fin_i i kt q⟩
    · obtain ⟨a, vs, rfl, e1, e2⟩ := hb.b.tup i
      exact call_len pins s σ H _ us Qv I r ⟨_, _, rfl, .inr ⟨vs, SqT.of e1, e2.length⟩, fin_i i kt q⟩
    · have h := hb.rep (fun _ e => by cases e)
      unfold Rep at h
      obtain ⟨a, rfl, h⟩ := h
      exact call_len pins s σ H _ us Qv I r ⟨_, _, rfl, .inl ⟨_, ex_l i h, by rw [List.length_map]⟩, fin_i i kt q⟩
    · have h := hb.rep (fun _ e => by cases e)
      unfold Rep at h
      subst h
      exact call_len pins s σ H _ us Qv I r ⟨_, _, rfl, ⟨by rw [sizeLine_eq]; exact q.1, rfl⟩, fin_i i kt q.2⟩
    · obtain ⟨u1, rfl, r1⟩ := vals1 r
      obtain ⟨f, a, od, dx, sp, rfl, rfl, J, h1, h2, F, q⟩ := obj1_at o rfl I i r1 (hb.rep (fun _ e => by cases e)) q
      obtain ⟨m, fr⟩ := I.fr
      refine PySem.W.len_K fr I.ok.mod.kin J h1 h2 (wpAny_mono (callVA F o.r1.in1 I.env0.in1 I (vs := [.ref a]) (.cons rfl .nil) i (one_arg (hb.rep (fun _ e => by cases e))) (Qv := fun v H' => ∃ n, v = .int n ∧ (0 ≤ n ∧ n < 2 ^ 63) ∧ Qv (.int n) H') (fun v Hf' H' r S rs q => ?_) q) (fun v s' ⟨w, H', I', r', n, e, hn, q'⟩ => ?_) fun _ _ x => x)
      · cases r with
        | own ds => exact q.elim
        | fz d =>
          cases d with
          | int n =>
            have e : v = .int n := by unfold Res Rep at rs; exact rs
            subst e
            exact ⟨n, rfl, q.1, kt _ Hf' H' _ S rs q.2⟩
          | _ => exact q.elim
      · subst e
        obtain ⟨t, rfl⟩ := r'
        exact ⟨hn, .int n, H', I'.tok _, ⟨_, rfl⟩, q'⟩
    · exact q.elim
  · exact q.elim
theorem cv_abs (o : OpC X T W k dn) : CallV X T (.builtin "abs") (bAbs dn) := by
  intro pins s σ H Hf xs us ds Q Qv I r i b kt q
  unfold bAbs at q
  split at q
  · rename_i d
    obtain ⟨v, rfl, hb⟩ := br1 b
    split at q
    · have h := hb.rep (fun _ e => by cases e)
      unfold Rep at h
      subst h
      exact call_abs pins s σ H _ us Qv I r ⟨_, rfl, fin_i i kt q⟩
    · obtain ⟨u1, rfl, r1⟩ := vals1 r
      obtain ⟨f, a, od, dx, sp, rfl, rfl, J, h1, h2, F, q⟩ := obj1_at o rfl I i r1 (hb.rep (fun _ e => by cases e)) q
      exact abs_own I.kIn J h1 h2 (callVA F o.r1.in1 I.env0.in1 I (vs := [.ref a]) (.cons rfl .nil) i (one_arg (hb.rep (fun _ e => by cases e))) kt q)
    · exact q.elim
  · exact q.elim
theorem cv_int : CallV X T (.type "int") bInt := by
  intro pins s σ H Hf xs us ds Q Qv I r i b kt q
  unfold bInt at q
  split at q
  · rename_i d
    obtain ⟨v, rfl, hb⟩ := br1 b
    split at q
    · have h := hb.rep (fun _ e => by cases e)
      unfold Rep at h
      subst h
      exact call_int1 pins s σ H _ us Qv I r (.inl ⟨_, rfl, fin_i i kt q⟩)
    · have h := hb.rep (fun _ e => by cases e)
      unfold Rep at h
      subst h
      exact call_int1 pins s σ H _ us Qv I r (.inr ⟨_, rfl, fin_i i kt q⟩)
    · exact q.elim
  · exact q.elim
theorem kt_Bl {Hf H : Hp} {Q : QR} {Qv : VK} (kt : ∀ v Hf' H' r, Step Hf H Hf' H' → Res T X.K Hf' H' H v r → Q r → Qv v H') : ∀ v Hf' H' r, Step Hf H Hf' H' → Res T X.K Hf' H' H v r → QR.bl Q r → ∃ b, v = .bl b ∧ Qv (.bl b) H' := fun v Hf' H' r S rs q => by
  cases r with
  | own ds => exact q.elim
  | fz d =>
    cases d with
    | bl b =>
      have e := res_bl rs rfl
      subst e
      exact ⟨b, rfl, kt _ Hf' H' _ S rs q⟩
    | _ => exact q.elim
theorem kt_St {Hf H : Hp} {Q : QR} {Qv : VK} (kt : ∀ v Hf' H' r, Step Hf H Hf' H' → Res T X.K Hf' H' H v r → Q r → Qv v H') : ∀ v Hf' H' r, Step Hf H Hf' H' → Res T X.K Hf' H' H v r → QR.st Q r → ∃ b, v = .str b ∧ Qv (.str b) H' := fun v Hf' H' r S rs q => by
  cases r with
  | own ds => exact q.elim
  | fz d =>
    cases d with
    | str b =>
      have e : v = .str b := by unfold Res Rep at rs; exact rs
      subst e
      exact ⟨b, rfl, kt _ Hf' H' _ S rs q⟩
    | _ => exact q.elim
theorem cv_bool (o : OpC X T W k dn) : CallV X T (.type "bool") (bBool dn) := by
  intro pins s σ H Hf xs us ds Q Qv I r i b kt q
  unfold bBool at q
  split at q
  · rename_i d
    obtain ⟨v, rfl, hb⟩ := br1 b
    split at q
    · have h := hb.rep (fun _ e => by cases e)
      unfold Rep at h
      subst h
      exact call_bool1 pins s σ H _ us Qv I r (.inl ⟨_, rfl, fin_b i kt q⟩)
    · have h := hb.rep (fun _ e => by cases e)
      unfold Rep at h
      subst h
      exact call_bool1 pins s σ H _ us Qv I r (.inr ⟨_, rfl, fin_b i kt q⟩)
    · obtain ⟨u1, rfl, r1⟩ := vals1 r
      obtain ⟨f, a, od, dx, sp, rfl, rfl, J, h1, h2, F, q⟩ := obj1_at o rfl I i r1 (hb.rep (fun _ e => by cases e)) q
      refine bool_own I.kIn J h1 h2 (wpAny_mono (callVA F o.rm.in1.in1 I.env0.in1.in1 I (vs := [.ref a]) (.cons rfl .nil) i (one_arg (hb.rep (fun _ e => by cases e))) (kt_Bl kt) q) (fun v s' ⟨w, H', I', r', n, e, q'⟩ => ?_) fun _ _ x => x)
      subst e
      obtain rfl : v = Value.bool n := r'
      exact ⟨n, rfl, .bl n, H', I', rfl, q'⟩
    · exact q.elim
  · exact q.elim
theorem cv_str (o : OpC X T W k dn) : CallV X T (.type "str") (bStr dn) := by
  intro pins s σ H Hf xs us ds Q Qv I r i b kt q
  unfold bStr at q
  split at q
  · rename_i d
    obtain ⟨v, rfl, hb⟩ := br1 b
    split at q
    · have h := hb.rep (fun _ e => by cases e)
      unfold Rep at h
      subst h
      exact call_str_int pins s σ H _ us Qv I r ⟨_, rfl, q.1, fin_s i kt q.2⟩
    · have h := hb.rep (fun _ e => by cases e)
      unfold Rep at h
      subst h
      obtain ⟨u1, rfl, t, rfl⟩ := vals1 r
      exact PySem.P.str_of_str ⟨.str _, H, I, ⟨_, rfl⟩, fin_s i kt q⟩
    · obtain ⟨u1, rfl, r1⟩ := vals1 r
      obtain ⟨f, a, od, dx, sp, rfl, rfl, J, h1, h2, F, q⟩ := obj1_at o rfl I i r1 (hb.rep (fun _ e => by cases e)) q
      refine str_own (o.rm.in1.in1.units0) I.kIn J h1 h2 (wpAny_mono (callVA F o.rm.in1.in1 I.env0.in1.in1 I (vs := [.ref a]) (.cons rfl .nil) i (one_arg (hb.rep (fun _ e => by cases e))) (kt_St kt) q) (fun v s' ⟨w, H', I', r', n, e, q'⟩ => ?_) fun _ _ x => x)
      subst e
      obtain ⟨t, rfl⟩ := r'
      exact ⟨n, t, rfl, .str n, H', I', ⟨t, rfl⟩, q'⟩
    · exact q.elim
  · exact q.elim
theorem cv_max2 (hc : X.calm = true) : CallV X T (.builtin "max") bMax2 := by
  intro pins s σ H Hf xs us ds Q Qv I r i b kt q
  unfold bMax2 at q
  split at q
  · obtain ⟨v, v', rfl, h1, h2⟩ := br2 b
    split at q
    · have h1 := h1.rep (fun _ e => by cases e)
      have h2 := h2.rep (fun _ e => by cases e)
      unfold Rep at h1 h2
      subst h1 h2
      exact call_max2 hc pins s σ H _ us Qv I r ⟨_, _, rfl, fin_i i kt q⟩
    · exact q.elim
  · exact q.elim
theorem cv_min2 (hc : X.calm = true) : CallV X T (.builtin "min") bMin2 := by
  intro pins s σ H Hf xs us ds Q Qv I r i b kt q
  unfold bMin2 at q
  split at q
  · obtain ⟨v, v', rfl, h1, h2⟩ := br2 b
    split at q
    · have h1 := h1.rep (fun _ e => by cases e)
      have h2 := h2.rep (fun _ e => by cases e)
      unfold Rep at h1 h2
      subst h1 h2
      exact call_min2 hc pins s σ H _ us Qv I r ⟨_, _, rfl, fin_i i kt q⟩
    · exact q.elim
  · exact q.elim
theorem cv_gcd : CallV X T (.builtin "math.gcd") bGcd := by
  intro pins s σ H Hf xs us ds Q Qv I r i b kt q
  unfold bGcd at q
  split at q
  · obtain ⟨v, v', rfl, h1, h2⟩ := br2 b
    split at q
    · have h1 := h1.rep (fun _ e => by cases e)
      have h2 := h2.rep (fun _ e => by cases e)
      unfold Rep at h1 h2
      subst h1 h2
      exact cr_gcd pins s σ H _ us Qv I r ⟨_, _, rfl, fin_i i kt q⟩
    · exact q.elim
  · exact q.elim
theorem seq_at {Hf H : Hp} {d : D} {ds : List D} {v : V} (e : seqOf d = some ds) (i : Ex Hf H) (h : LRep T X.K Hf H d v) : ∃ a vs, v = .ref a ∧ (SqL X.K H a vs ∨ SqT X.K H a vs) ∧ RepL T X.K Hf ds vs := by
  cases d <;> cases e
  · obtain ⟨a, vs, e1, e2, e3⟩ := h.b.lst i
    exact ⟨a, vs, e1, .inl (SqL.of e2), e3⟩
  · obtain ⟨a, vs, e1, e2, e3⟩ := h.b.tup i
    exact ⟨a, vs, e1, .inr (SqT.of e2), e3⟩
theorem cv_list : CallV X T (.type "list") bList := by
  intro pins s σ H Hf xs us ds Q Qv I r i b kt q
  unfold bList at q
  split at q
  · rename_i d
    obtain ⟨v, rfl, hb⟩ := br1 b
    cases e : seqOf d with
    | none => rw [e] at q; exact q.elim
    | some ds =>
      rw [e] at q
      obtain ⟨a, vs, rfl, e1, e2⟩ := seq_at e i hb
      exact call_list_of pins s σ H _ us Qv I r ⟨a, vs, rfl, e1, fun l hl => fin_l i hl e2 kt q⟩
  · exact q.elim
theorem cv_tuple : CallV X T (.type "tuple") bTuple := by
  intro pins s σ H Hf xs us ds Q Qv I r i b kt q
  unfold bTuple at q
  split at q
  · rename_i d
    obtain ⟨v, rfl, hb⟩ := br1 b
    cases e : seqOf d with
    | none => rw [e] at q; exact q.elim
    | some ds =>
      rw [e] at q
      cases d <;> cases e
      · obtain ⟨a, vs, rfl, e1, e2⟩ := hb.b.lst i
        exact call_tuple_of pins s σ H _ us Qv I r ⟨a, vs, rfl, .inl ⟨SqL.of e1, fun l hl => fin_t i hl e2 kt q⟩⟩
      · obtain ⟨a, vs, rfl, e1, e2⟩ := hb.b.tup i
        exact call_tuple_of pins s σ H _ us Qv I r ⟨a, vs, rfl, .inr ⟨SqT.of e1, kt _ Hf H (.fz _) (Step.refl i) (hb.rep (fun _ e => by cases e)) q⟩⟩
  · exact q.elim
theorem ints_at {Hf H : Hp} {ds : List D} {is : List Int} {v : V} (e : intsOf ds = some is) (i : Ex Hf H) (h : LRep T X.K Hf H (.lst ds) v) : ∃ a, v = .ref a ∧ SqL X.K H a (is.map V.int) := by
  obtain ⟨a, vs, e1, e2, e3⟩ := h.b.lst i
  have : ds = is.map D.int := by
    clear e1 e2 e3 h
    induction ds generalizing is with
    | nil => cases e; rfl
    | cons d ds ih =>
      cases d <;> first | (cases e; done) | skip
      unfold intsOf at e
      cases e2 : intsOf ds with
      | none => rw [e2] at e; cases e
      | some js =>
        rw [e2] at e
        cases e
        rw [List.map_cons, ih e2]
  subst this
  rw [RepL.ints.mp e3] at e2
  exact ⟨a, e1, SqL.of e2⟩
theorem bls_at {Hf H : Hp} {ds : List D} {is : List Bool} {v : V} (e : blsOf ds = some is) (i : Ex Hf H) (h : LRep T X.K Hf H (.lst ds) v) : ∃ a, v = .ref a ∧ SqL X.K H a (is.map V.bl) := by
  obtain ⟨a, vs, e1, e2, e3⟩ := h.b.lst i
  have : vs = is.map V.bl := by
    clear e1 e2 h
    induction ds generalizing is vs with
    | nil => cases e; exact repL_nil.mp e3
    | cons d ds ih =>
      cases d <;> first | (cases e; done) | skip
      unfold blsOf at e
      obtain ⟨w, r, rfl, h1, h2⟩ := repL_cons.mp e3
      cases e2 : blsOf ds with
      | none => rw [e2] at e; cases e
      | some js =>
        rw [e2] at e
        cases e
        unfold Rep at h1
        rw [List.map_cons, ih e2 _ h2, h1]
  subst this
  exact ⟨a, e1, SqL.of e2⟩
theorem cv_sum (hc : X.calm = true) : CallV X T (.builtin "sum") bSum := by
  intro pins s σ H Hf xs us ds Q Qv I r i b kt q
  unfold bSum at q
  split at q
  · rename_i d
    obtain ⟨v, rfl, hb⟩ := br1 b
    split at q
    · rename_i xs
      cases e : intsOf xs with
      | none => rw [e] at q; exact q.elim
      | some is =>
        rw [e] at q
        obtain ⟨a, rfl, h⟩ := ints_at e i hb
        exact cr_sum hc pins s σ H _ us Qv I r ⟨a, is, rfl, h, fin_i i kt q⟩
    · exact q.elim
  · exact q.elim
theorem cv_max (hc : X.calm = true) : CallV X T (.builtin "max") bMax := by
  intro pins s σ H Hf xs us ds Q Qv I r i b kt q
  unfold bMax at q
  split at q
  · rename_i d
    obtain ⟨v, rfl, hb⟩ := br1 b
    split at q
    · rename_i xs
      cases e : intsOf xs with
      | none => rw [e] at q; exact q.elim
      | some is =>
        rw [e] at q
        obtain ⟨a, rfl, h⟩ := ints_at e i hb
        exact cr_max hc pins s σ H _ us Qv I r ⟨a, is, rfl, h, q.1, fun m h1 h2 => fin_i i kt (q.2 m h1 h2)⟩
    · exact q.elim
  · exact q.elim
theorem cv_min (hc : X.calm = true) : CallV X T (.builtin "min") bMin := by
  intro pins s σ H Hf xs us ds Q Qv I r i b kt q
  unfold bMin at q
  split at q
  · rename_i d
    obtain ⟨v, rfl, hb⟩ := br1 b
    split at q
    · rename_i xs
      cases e : intsOf xs with
      | none => rw [e] at q; exact q.elim
      | some is =>
        rw [e] at q
        obtain ⟨a, rfl, h⟩ := ints_at e i hb
        exact cr_min hc pins s σ H _ us Qv I r ⟨a, is, rfl, h, q.1, fun m h1 h2 => fin_i i kt (q.2 m h1 h2)⟩
    · exact q.elim
  · exact q.elim
theorem cv_sorted : CallV X T (.builtin "sorted") bSorted := by
  intro pins s σ H Hf xs us ds Q Qv I r i b kt q
  unfold bSorted at q
  split at q
  · rename_i d
    obtain ⟨v, rfl, hb⟩ := br1 b
    split at q
    · rename_i xs
      cases e : intsOf xs with
      | none => rw [e] at q; exact q.elim
      | some is =>
        rw [e] at q
        obtain ⟨a, rfl, h⟩ := ints_at e i hb
        exact cr_sortedI pins s σ H _ us Qv I r ⟨a, is, rfl, h, fun os p h1 h2 hp => fin_l i hp (RepL.ints.mpr rfl) kt (q os h1 h2)⟩
    · exact q.elim
  · exact q.elim
theorem cv_any (hc : X.calm = true) : CallV X T (.builtin "any") bAny := by
  intro pins s σ H Hf xs us ds Q Qv I r i b kt q
  unfold bAny at q
  split at q
  · rename_i d
    obtain ⟨v, rfl, hb⟩ := br1 b
    split at q
    · rename_i xs
      cases e : blsOf xs with
      | none => rw [e] at q; exact q.elim
      | some is =>
        rw [e] at q
        obtain ⟨a, rfl, h⟩ := bls_at e i hb
        exact cr_any hc pins s σ H _ us Qv I r ⟨a, is, rfl, h, fin_b i kt q⟩
    · exact q.elim
  · exact q.elim
theorem cv_all (hc : X.calm = true) : CallV X T (.builtin "all") bAll := by
  intro pins s σ H Hf xs us ds Q Qv I r i b kt q
  unfold bAll at q
  split at q
  · rename_i d
    obtain ⟨v, rfl, hb⟩ := br1 b
    split at q
    · rename_i xs
      cases e : blsOf xs with
      | none => rw [e] at q; exact q.elim
      | some is =>
        rw [e] at q
        obtain ⟨a, rfl, h⟩ := bls_at e i hb
        exact cr_all hc pins s σ H _ us Qv I r ⟨a, is, rfl, h, fin_b i kt q⟩
    · exact q.elim
  · exact q.elim
end
end VL
end
section
set_option Elab.async false
set_option linter.all false
set_option maxRecDepth 100000
set_option maxHeartbeats 4000000
/-! VLs10: isinstance, subscripts, slices, f-strings. -/
namespace VL
open PySem PySem.Spec PyProof.Rows L2
section
variable {X : Cx} {T : Tab} {W : WX} {z : Hd} {k : Nat} {a b e o : Expr} {t ta tb : EW} {u v : BW} {x : Str} {pos p0 p1 p2 : Pos} {dn : Dun} {H Hf : Hp}
/-! ### isinstance -/
def D.tyN : D → String
  | .non => "NoneType"
  | .bl _ => "bool"
  | .int _ => "int"
  | .str _ => "str"
  | .lst _ => "list"
  | .scr _ => "list"
  | _ => "tuple"
theorem ty_at (lib : Lib T X.K) {d : D} {w : V} (hd : d.nocls = true) (i : Ex Hf H) (h : LRep T X.K Hf H d w) : (∃ c ds, d = .obj c ds ∧ c < T.n ∧ TyX X.K H w (.ref (T.cls c))) ∨ ((∀ c ds, d ≠ .obj c ds) ∧ TyX X.K H w (.type d.tyN)) := by
  cases d with
  | non => rw [h.b.non]; exact .inr ⟨fun _ _ e => (by cases e), .base .non⟩
  | bl c => rw [h.b.bl]; exact .inr ⟨fun _ _ e => (by cases e), .base (.bl _)⟩
  | int c => rw [h.b.int]; exact .inr ⟨fun _ _ e => (by cases e), .base (.int _)⟩
  | str c => rw [h.b.str]; exact .inr ⟨fun _ _ e => (by cases e), .base (.str _)⟩
  | lst ds =>
    obtain ⟨a, vs, rfl, e1, e2⟩ := h.b.lst i
    exact .inr ⟨fun _ _ e => (by cases e), .base (.lst e1)⟩
  | tup ds =>
    obtain ⟨a, vs, rfl, e1, e2⟩ := h.b.tup i
    exact .inr ⟨fun _ _ e => (by cases e), .base (.tup e1)⟩
  | obj c ds =>
    have r := h.rep (fun _ e => by cases e)
    obtain ⟨a, dx, fs, rfl, hc, e1, _⟩ := r.objU i
    have cf := lib.cl c hc
    exact .inl ⟨c, ds, rfl, hc, .base (.ins e1 cf.cl cf.ha cf.hn cf.htk cf.hm)⟩
  | cls c => cases hd
  | scr ns =>
    have r := h.rep (fun _ e => by cases e)
    unfold Rep at r
    obtain ⟨a, rfl, r⟩ := r
    rcases ex_l i r with (r | ⟨o, r⟩) | ⟨o, its, n, r1, r2, _⟩
    · exact .inr ⟨fun _ _ e => (by cases e), .base (.lst r)⟩
    · exact .inr ⟨fun _ _ e => (by cases e), .base (.frz r)⟩
    · exact .inr ⟨fun _ _ e => (by cases e), .kList r1 r2⟩
theorem ty_mem (ty : Ty) : ty.nm ∈ tyNames := by cases ty <;> decide
theorem tyN_mem (d : D) : d.tyN ∈ tyNames := by
  have h1 : "NoneType" ∈ tyNames := by decide
  have h2 : "bool" ∈ tyNames := by decide
  have h3 : "int" ∈ tyNames := by decide
  have h4 : "str" ∈ tyNames := by decide
  have h5 : "list" ∈ tyNames := by decide
  have h6 : "tuple" ∈ tyNames := by decide
  cases d <;> assumption
theorem kit_tt {ty : Ty} {d : D} (ho : ∀ c ds, d ≠ .obj c ds) (hd : d.nocls = true) : PySem.W.kitOne X.K (.type d.tyN) (.type ty.nm) = some (isT ty d) := by
  refine kit_ty ?_
  cases d with
  | obj c ds => exact absurd rfl (ho c ds)
  | cls c => cases hd
  | _ => cases ty <;> kernel_rfl
theorem ve_isT {ty : Ty} (lib : Lib T X.K) (hg : Gl X "isinstance") (hm : X.mg "isinstance" = none) (hg2 : Gl X x) (hm2 : X.mg x = none) (hv : bootBuiltins x = some (.type ty.nm)) (ha : VLr X T W z a u) (hn : x ≠ "__name__" := by decide) (hdb : (x == ("__debug__" : Str)) = false := by decide)
    (hs : starEach [a, .Name x p1] X.env = (false, eval a X.env) :: starEach [.Name x p1] X.env := by rfl) (hpl : (backTo pos (starEach [.Name x p1] X.env)).any (·.1) = false := by rfl) : VE X T W z (.Call (.Name "isinstance" p0) [a, .Name x p1] [] pos) (wIsT ty u) :=
  PE.imp (pe_callB call_isi hg hm PyProof.Rows.boot_isinstance (pa_cons ha (pa_cons (pe_bltn (v := .ty ty.nm) hg2 hm2 hv rfl hn hdb) pa_nil) hs) (by decide) (by decide) hs hpl) fun σ H Qv ⟨H0, Hf, δ, Q, Xq, st, xo, kt, q⟩ =>
    ⟨H0, Hf, δ, _, Xq, st, xo, fun w Hf' H' d S r hq => by
      refine (show rIsi X.K [w, .ty ty.nm] H' Qv from ?_)
      rcases ty_at lib hq.1 S.i r with ⟨c, ds, rfl, hc, ht⟩ | ⟨ho, ht⟩
      · refine ⟨w, .ty ty.nm, _, _, false, rfl, .ty _, ht, (lib.cl c hc).isT _ (ty_mem ty), ?_⟩
        have : isT ty (.obj c ds) = false := by cases ty <;> rfl
        rw [this] at hq
        exact kt _ Hf' H' (.fz (.bl false)) S (by unfold Res Rep; rfl) hq.2
      · exact ⟨w, .ty ty.nm, _, _, isT ty d, rfl, .ty _, ht, kit_tt ho hq.1, kt _ Hf' H' (.fz (.bl _)) S (by unfold Res Rep; rfl) hq.2⟩, q⟩
theorem ve_isC {c0 : Nat} (lib : Lib T X.K) (hc0 : c0 < T.n) (hg : Gl X "isinstance") (hm : X.mg "isinstance" = none) (hg2 : Gl X x) (hm2 : X.mg x = some (.ref (T.cls c0))) (ha : VLr X T W z a u) (hdb : (x == ("__debug__" : Str)) = false := by decide)
    (hs : starEach [a, .Name x p1] X.env = (false, eval a X.env) :: starEach [.Name x p1] X.env := by rfl) (hpl : (backTo pos (starEach [.Name x p1] X.env)).any (·.1) = false := by rfl) : VE X T W z (.Call (.Name "isinstance" p0) [a, .Name x p1] [] pos) (wIsC c0 u) :=
  PE.imp (pe_callB call_isi hg hm PyProof.Rows.boot_isinstance (pa_cons ha (pa_cons (pe_glob (v := .ref (T.cls c0)) hg2 hm2 rfl hdb) pa_nil) hs) (by decide) (by decide) hs hpl) fun σ H Qv ⟨H0, Hf, δ, Q, Xq, st, xo, kt, q⟩ =>
    ⟨H0, Hf, δ, _, Xq, st, xo, fun w Hf' H' d S r hq => by
      refine (show rIsi X.K [w, .ref (T.cls c0)] H' Qv from ?_)
      rcases ty_at lib hq.1 S.i r with ⟨c, ds, rfl, hc, ht⟩ | ⟨ho, ht⟩
      · exact ⟨w, .ref (T.cls c0), _, _, _, rfl, .own _, ht, lib.iss c c0 hc hc0, kt _ Hf' H' (.fz (.bl (c == c0))) S (by unfold Res Rep; rfl) hq.2⟩
      · refine ⟨w, .ref (T.cls c0), _, _, false, rfl, .own _, ht, (lib.cl c0 hc0).isO _ (tyN_mem d), ?_⟩
        have : isC c0 d = false := by
          cases d with
          | obj c ds => exact absurd rfl (ho c ds)
          | _ => rfl
        rw [this] at hq
        exact kt _ Hf' H' (.fz (.bl false)) S (by unfold Res Rep; rfl) hq.2, q⟩
/-! ### subscripts -/
theorem ix_at {ds : List D} {vs : List V} {i : Int} {d : D} (e : ixD ds i = some d) (r : RepL T X.K Hf ds vs) : ∃ v, atI vs i = some v ∧ Rep T X.K Hf d v := by
  unfold ixD at e
  unfold atI
  rw [r.length] at e
  change (match ixN vs.length i with | some j => ds[j]? | none => none) = some d at e
  cases h : ixN vs.length i with
  | none => rw [h] at e; cases e
  | some j =>
    rw [h] at e
    exact r.getD e
theorem ve_ix (ha : VLr X T W z a u) (hb : VE X T W z b tb) (hs : PlainIx b := by exact fun _ _ => rfl) : VE X T W z (.Subscript a b pos) (wBinB opIx u (bOf tb)) :=
  PE.imp (pe_ix ix_seq ha hb.toD hs) fun σ H Qv ⟨H0, Hf, δ, Q, Xq, st, xo, kt, q⟩ =>
    ⟨H0, Hf, δ, _, Xq, st, xo, fun w Hf1 H1 d S r (hq : bOf tb δ (fun e => opIx d e Q Xq) Xq) =>
      ⟨H0, Hf1, δ, fun e => opIx d e Q Xq, Xq, st.step S, xo.step S, fun w2 Hf2 H2 d2 S2 r2 hq => by
        have S12 := S.trans S2
        have kt2 : ∀ {d' : D} {v : V}, Rep T X.K Hf2 d' v → Q (.fz d') → Qv v H2 := fun {d' v} rr qq => kt _ Hf2 H2 (.fz d') S12 rr qq
        replace r := r.step S2
        change opIx d d2 Q Xq at hq
        unfold opIx at hq
        split at hq
        · rename_i xs i _
          unfold Rep at r2
          subst r2
          obtain ⟨p, vs, rfl, e1, e2⟩ := r.b.lst S2.i
          cases e : ixD xs i with
          | none => rw [e] at hq; exact hq.elim
          | some d' =>
            rw [e] at hq
            obtain ⟨v, e3, e4⟩ := ix_at e e2
            exact .inl ⟨p, vs, i, v, rfl, rfl, SqL.of e1, e3, kt2 e4 hq⟩
        · rename_i xs i _
          unfold Rep at r2
          subst r2
          obtain ⟨p, vs, rfl, e1, e2⟩ := r.b.tup S2.i
          cases e : ixD xs i with
          | none => rw [e] at hq; exact hq.elim
          | some d' =>
            rw [e] at hq
            obtain ⟨v, e3, e4⟩ := ix_at e e2
            exact .inr (.inl ⟨p, vs, i, v, rfl, rfl, SqT.of e1, e3, kt2 e4 hq⟩)
        · rename_i ns i _
          unfold Rep at r2
          subst r2
          have r9 := r.rep (fun _ e => by cases e)
          unfold Rep at r9
          obtain ⟨p, rfl, r9⟩ := r9
          cases e : ixD (ns.map D.int) i with
          | none => rw [e] at hq; exact hq.elim
          | some d' =>
            rw [e] at hq
            obtain ⟨v, e3, e4⟩ := ix_at (T := T) (X := X) (Hf := Hf2) e (RepL.ints.mpr rfl)
            exact .inl ⟨p, _, i, v, rfl, rfl, ex_l S2.i r9, e3, kt2 e4 hq⟩
        · rename_i zz i _
          unfold Rep at r2
          subst r2
          have r := r.rep (fun _ e => by cases e)
          unfold Rep at r
          subst r
          cases e : ixS zz i with
          | none => rw [e] at hq; exact hq.2.elim
          | some d' =>
            rw [e] at hq
            refine .inr (.inr ⟨zz, i, d', rfl, rfl, by rw [sizeLine_eq]; exact hq.1, ?_, kt2 (by unfold Rep; rfl) hq.2⟩)
            unfold ixS at e
            unfold atI
            change (match ixN zz.cps.toList.length i with | some j => zz.cps.toList[j]? | none => none) = some d' at e
            cases h : ixN zz.cps.toList.length i with
            | none => rw [h] at e; cases e
            | some j => rw [h] at e; exact e
        · exact hq.elim, hq⟩, q⟩
/-! ### slices -/
def rdO (T : Tab) (K : PySem.W.Frag) (W : WX) (z : Hd) (t : OW) : TO := fun σ H Qo => ∃ H0 Hf δ Q X, StOk T K z H0 Hf H σ δ ∧ XOk T K W σ Hf H X ∧ (∀ o Hf' H', Step Hf H Hf' H' → Q o → Qo o H') ∧ t δ Q X
def VO (X : Cx) (T : Tab) (W : WX) (z : Hd) (e : Option Expr) (t : OW) : Prop := PO X e (rdO T X.K W z t)
theorem PO.imp {e : Option Expr} {t t' : TO} (h : PO X e t) (i : ∀ σ H Q, t' σ H Q → t σ H Q) : PO X e t' := ⟨fun pins s σ H Q I q => h.run pins s σ H Q I (i _ _ _ q)⟩
theorem vo_none : VO X T W z none oNone := PO.imp po_none fun σ H Qo ⟨H0, Hf, δ, Q, Xq, st, xo, kt, q⟩ => kt none Hf H (Step.refl st.i) q
theorem vo_some (h : VE X T W z e t) : VO X T W z (some e) (oSome t) := PO.imp (po_some h.toD) fun σ H Qo ⟨H0, Hf, δ, Q, Xq, st, xo, kt, q⟩ =>
  ⟨H0, Hf, δ, fun d => (match d with | .int i => Q (some i) | _ => False), Xq, st, xo, fun w Hf' H' d S r hq => by
    cases d with
    | int i =>
      unfold Rep at r
      exact ⟨i, r, kt _ Hf' H' S hq⟩
    | _ => exact hq.elim, q⟩
theorem cutV_rep {ds : List D} {vs : List V} (lo hi : Option Int) (r : RepL T X.K Hf ds vs) : RepL T X.K Hf (cutD ds lo hi) (cutV vs lo hi) := by
  unfold cutD cutV
  rw [r.length]
  exact (r.drop _).take _
theorem ve_sl {lo hi : Option Expr} {tl th : OW} (he : VLr X T W z e u) (hl : VO X T W z lo tl) (hh : VO X T W z hi th) : VE X T W z (.Subscript e (.Slice lo hi none p2) pos) (wSl u tl th) :=
  PE.imp (pe_slice (SlR.or sl_list (SlR.or sl_tupA sl_str)) he hl hh) fun σ H Qv ⟨H0, Hf, δ, Q, Xq, st, xo, kt, q⟩ =>
    ⟨H0, Hf, δ, _, Xq, st, xo, fun w Hf1 H1 d S r hq => ⟨H0, Hf1, δ, _, Xq, st.step S, xo.step S, fun lo' Hf2 H2 S2 hq => ⟨H0, Hf2, δ, _, Xq, st.step (S.trans S2), xo.step (S.trans S2), fun hi' Hf3 H3 S3 hq => by
      have S13 := (S.trans S2).trans S3
      replace r := r.step (S2.trans S3)
      split at hq
      · obtain ⟨p, vs, rfl, e1, e2⟩ := r.b.lst S3.i
        exact .inl ⟨p, vs, rfl, SqL.of e1, fun l hl => fin_l S3.i hl (cutV_rep lo' hi' e2) (kont kt S13) hq⟩
      · have r' := r.rep (fun _ e => by cases e)
        obtain ⟨p, vs, rfl, e1, e2⟩ := r.b.tup S3.i
        refine .inr (.inl ⟨p, vs, rfl, SqT.of e1, fun hw => ?_, fun hw l hl => fin_t S3.i hl (cutV_rep lo' hi' e2) (kont kt S13) hq⟩)
        refine kt _ Hf3 H3 (.fz _) S13 ?_ hq
        have : ∀ {xs : List D}, xs.length = vs.length → cutD xs lo' hi' = xs := fun {xs} hx => by
          unfold cutD
          have h1 : sIx xs.length 0 lo' = 0 := by rw [hx]; exact hw.1
          have h2 : sIx xs.length xs.length hi' = xs.length := by rw [hx]; exact hw.2
          rw [h1, h2]
          simp
        rw [this e2.length]
        exact r'
      · have r' := r.rep (fun _ e => by cases e)
        unfold Rep at r'
        subst r'
        exact .inr (.inr ⟨_, rfl, by rw [sizeLine_eq]; exact hq.1, kt _ Hf3 H3 (.fz (.str _)) S13 (by unfold Res Rep; rfl) hq.2⟩)
      · exact hq.elim, hq⟩, hq⟩, q⟩
theorem ve_revL {kk : Nat} {p3 : Pos} (he : VLr X T W z e u) : VE X T W z (.Subscript e (.Slice none none (some (.UnaryOp .USub (.Constant (.int 1) kk p0) p1)) p2) pos) (wRevL u) :=
  PE.imp (pe_revL he) fun σ H Qv ⟨H0, Hf, δ, Q, Xq, st, xo, kt, q⟩ =>
    ⟨H0, Hf, δ, _, Xq, st, xo, fun w Hf1 H1 d S r hq => by
      split at hq
      · obtain ⟨p, vs, rfl, e1, e2⟩ := r.b.lst S.i
        refine ⟨p, vs, rfl, SqL.of e1, fun l hl => fin_l S.i hl ?_ (kont kt S) hq⟩
        clear hq e1 r
        rename_i xs
        induction xs generalizing vs with
        | nil => rw [repL_nil.mp e2]; exact RepL.nil
        | cons d ds ih =>
          obtain ⟨v, r, rfl, h1, h2⟩ := repL_cons.mp e2
          rw [List.reverse_cons, List.reverse_cons]
          exact (ih _ h2).append (RepL.cons h1 RepL.nil)
      · exact hq.elim, q⟩
end
end VL
end
section
set_option Elab.async false
set_option linter.all false
set_option maxRecDepth 100000
set_option maxHeartbeats 4000000
/-! VLs11: f-strings; statements, targets, loops. -/
namespace VL
open PySem PySem.Spec PyProof.Rows L2
section
variable {X : Cx} {T : Tab} {W : WX} {z : Hd} {k : Nat} {a b e o : Expr} {t ta tb : EW} {u v : BW} {x : Str} {pos p0 p1 p2 : Pos} {dn : Dun} {H Hf : Hp}
/-! ### f-strings -/
theorem ve_fmt (h : VE X T W z e t) : VE X T W z (.FormattedValue e (-1) none pos) (wFmt t) := PE.imp (pe_fmt h.toD) fun σ H Qv ⟨H0, Hf, δ, Q, Xq, st, xo, kt, q⟩ =>
  ⟨H0, Hf, δ, fun d => (match d with | .str y => y.length ≤ 16777216 ∧ Q (.fz (.str y)) | .int i => i.natAbs.log2 < 1920 ∧ Q (.fz (.str (toString i))) | _ => False), Xq, st, xo, fun w Hf' H' d S r hq => by
    cases d with
    | str y =>
      unfold Rep at r
      exact .inl ⟨y, r, by rw [sizeLine_eq]; exact hq.1, kt _ Hf' H' (.fz (.str y)) S (by unfold Res Rep; rfl) hq.2⟩
    | int i =>
      unfold Rep at r
      exact .inr ⟨i, r, hq.1, kt _ Hf' H' (.fz (.str _)) S (by unfold Res Rep; rfl) hq.2⟩
    | _ => exact hq.elim, q⟩
inductive VJ (X : Cx) (T : Tab) (W : WX) (z : Hd) : List Expr → List EW → Prop where
  | nil : VJ X T W z [] []
  | cons {e : Expr} {t : EW} {es : List Expr} {ts : List EW} (h : VE X T W z e t) (r : VJ X T W z es ts) : VJ X T W z (e :: es) (t :: ts)
theorem VJ.pj {es : List Expr} {ts : List EW} (h : VJ X T W z es ts) : PJ X es (ts.map fun t => rdD T X.K W z (bOf t)) := by
  induction h with
  | nil => exact .nil
  | cons h r ih => exact .cons h.toD ih
theorem tjs_of {σ : L2.St} {H0 : Hp} {δ : Fr} {Q : Str → Prop} {Xq : QX} {Qs : Str → Hp → Prop} : ∀ {ts : List EW} {acc : Str} {H Hf : Hp}, StOk T X.K z H0 Hf H σ δ → XOk T X.K W σ Hf H Xq → (∀ out Hf' H', Step Hf H Hf' H' → Q out → Qs out H') → wJs ts acc δ Q Xq → tJs (ts.map fun t => rdD T X.K W z (bOf t)) acc σ H Qs
  | [], acc, H, Hf, st, xo, kt, q => kt acc Hf H (Step.refl st.i) q
  | t :: ts, acc, H, Hf, st, xo, kt, q => ⟨H0, Hf, δ, fun d => (match d with | .str y => (acc ++ y).length ≤ 16777216 ∧ wJs ts (acc ++ y) δ Q Xq | _ => False), Xq, st, xo, fun w Hf' H' d S r hq => by
    cases d with
    | str y =>
      unfold Rep at r
      exact ⟨y, r, by rw [sizeLine_eq]; exact hq.1, tjs_of (st.step S) (xo.step S) (fun out Hf2 H2 S2 q2 => kt out Hf2 H2 (S.trans S2) q2) hq.2⟩
    | _ => exact hq.elim, q⟩
theorem ve_join {e1 e2 : Expr} {es : List Expr} {ts : List EW} (h : VJ X T W z (e1 :: e2 :: es) ts) : VE X T W z (.JoinedStr (e1 :: e2 :: es) pos) (wJoin ts) := PE.imp (pe_joined h.pj) fun σ H Qv ⟨H0, Hf, δ, Q, Xq, st, xo, kt, q⟩ =>
  tjs_of st xo (fun out Hf' H' S q => kt _ Hf' H' (.fz (.str out)) S (by unfold Res Rep; rfl) q) q
end

/-! ### statements -/
section
variable (T : Tab) (K : PySem.W.Frag) (W : WX) (z : Hd)
structure KS (H0 Hf0 : Hp) (k : Ko) (D : Ends) : Prop where
  nx : ∀ σ H Hf δ, Step Hf0 H0 Hf H → StOk T K z H0 Hf H σ δ → k.nx δ → D.nx σ H
  rt : ∀ v H Hf r, Step Hf0 H0 Hf H → Res T K Hf H H0 v r → k.rt r → D.rt v H
  bk : ∀ σ H Hf δ, Step Hf0 H0 Hf H → StOk T K z H0 Hf H σ δ → k.bk δ → D.bk σ H
  ct : ∀ σ H Hf δ, Step Hf0 H0 Hf H → StOk T K z H0 Hf H σ δ → k.ct δ → D.ct σ H
  xq : ∀ x cls d σ H Hf δ, Step Hf0 H0 Hf H → StOk T K z H0 Hf H σ δ → RepX T K Hf cls d x → k.xq x δ → W cls d σ H
def rdS (t : SW) : TS := fun D σ H => ∃ H0 Hf0 Hf δ k, Step Hf0 H0 Hf H ∧ StOk T K z H0 Hf H σ δ ∧ KS T K W z H0 Hf0 k D ∧ t k δ
end
def VS (X : Cx) (T : Tab) (W : WX) (z : Hd) (s : Stmt) (t : SW) : Prop := PS X s (rdS T X.K W z t)
def VSs (X : Cx) (T : Tab) (W : WX) (z : Hd) (s : List Stmt) (t : SW) : Prop := PSs X s (rdS T X.K W z t)
theorem PS.imp {X : Cx} {s : Stmt} {t t' : TS} (h : PS X s t) (i : ∀ D σ H, t' D σ H → t D σ H) : PS X s t' := ⟨fun pins s σ H D I q => h.run pins s σ H D I (i _ _ _ q)⟩
theorem PSs.imp {X : Cx} {s : List Stmt} {t t' : TS} (h : PSs X s t) (i : ∀ D σ H, t' D σ H → t D σ H) : PSs X s t' := ⟨fun pins s σ H D I q => h.run pins s σ H D I (i _ _ _ q)⟩
section
variable {T : Tab} {K : PySem.W.Frag} {W : WX} {z : Hd} {H0 Hf0 Hf H : Hp} {k : Ko} {En : Ends} {σ : L2.St} {δ : Fr}
theorem KS.xo (ks : KS T K W z H0 Hf0 k En) (s0 : Step Hf0 H0 Hf H) (st : StOk T K z H0 Hf H σ δ) : XOk T K W σ Hf H (fun x => k.xq x δ) := fun x cls d Hf' H' S r q => ks.xq x cls d σ H' Hf' δ (s0.trans S) (st.step S) r q
theorem Step.rebase {Hf1 H1 : Hp} (s1 : Step Hf0 H0 Hf1 H1) (s2 : Step Hf0 H0 Hf H) (e : Ex Hf1 Hf) : Step Hf1 H0 Hf H := ⟨e, s2.h, s2.i, fun a ha => by
  rcases s2.n a ha with h | h
  · left
    intro q
    cases e1 : Hf0 a with
    | none => exact h e1
    | some o =>
      rw [s1.f a o e1] at q
      cases q
  · exact .inr h⟩
theorem Step.unbase {Hf1 H1 : Hp} (s1 : Step Hf0 H0 Hf1 H1) (s2 : Step Hf1 H0 Hf H) : Step Hf0 H0 Hf H := ⟨s1.f.trans s2.f, s2.h, s2.i, fun a ha => by
  rcases s2.n a ha with h | h
  · exact s1.n a h
  · exact .inr h⟩
theorem KS.rebase {Hf1 H1 : Hp} (ks : KS T K W z H0 Hf0 k En) (s1 : Step Hf0 H0 Hf1 H1) : KS T K W z H0 Hf1 k En :=
  ⟨fun σ H Hf δ S => ks.nx σ H Hf δ (s1.unbase S), fun v H Hf r S => ks.rt v H Hf r (s1.unbase S), fun σ H Hf δ S => ks.bk σ H Hf δ (s1.unbase S), fun σ H Hf δ S => ks.ct σ H Hf δ (s1.unbase S), fun x cls d σ H Hf δ S => ks.xq x cls d σ H Hf δ (s1.unbase S)⟩
theorem KS.setNx (ks : KS T K W z H0 Hf0 k En) {M : Fr → Prop} {N : L2.St → Hp → Prop} (h : ∀ σ H Hf δ, Step Hf0 H0 Hf H → StOk T K z H0 Hf H σ δ → M δ → N σ H) : KS T K W z H0 Hf0 { k with nx := M } { En with nx := N } := ⟨h, ks.rt, ks.bk, ks.ct, ks.xq⟩
/-- a loop's body -/
theorem KS.loop (ks : KS T K W z H0 Hf0 k En) {M : Fr → Prop} {N : L2.St → Hp → Prop} (h : ∀ σ H Hf δ, Step Hf0 H0 Hf H → StOk T K z H0 Hf H σ δ → M δ → N σ H) : KS T K W z H0 Hf0 { k with nx := M, ct := M, bk := k.nx } { En with nx := N, ct := N, bk := En.nx } := ⟨h, ks.rt, ks.nx, h, ks.xq⟩
theorem join_set {α : Type} {l : List (Option α)} {i j : Nat} {v : Option α} : ((l.set i v)[j]?).join = if i = j ∧ j < l.length then v else (l[j]?).join := by
  rw [List.getElem?_set]
  by_cases h : i = j
  · subst h
    by_cases h2 : i < l.length
    · simp [h2]
    · simp [h2]
  · simp [h]
theorem StOk.set (st : StOk T K z H0 Hf H σ δ) {i : Nat} {v : V} {s : Sl} (h : SlOk T K z H0 Hf H (some v) (some s)) (hn : s.mine = true → ∀ j s', j ≠ i → δ[j]? = some (some s') → s'.mine = true → σ[j]? ≠ some (some v)) : StOk T K z H0 Hf H (σ.set i (some v)) (δ.set i (some s)) := by
  refine ⟨st.i, by rw [List.length_set, List.length_set]; exact st.len, fun j => ?_, fun j j' s1 s2 a e1 e2 m1 m2 e3 e4 => ?_⟩
  · rw [join_set, join_set, st.len]
    by_cases q : i = j ∧ j < σ.length
    · rw [if_pos q, if_pos q]
      exact h
    · rw [if_neg q, if_neg q]
      exact st.at_ j
  · by_cases q : j = i
    · by_cases q' : j' = i
      · rw [q, q']
      · exfalso
        subst q
        rw [List.getElem?_set_ne (Ne.symm q')] at e2 e4
        rw [List.getElem?_set] at e1 e3
        simp only [if_true] at e1 e3
        split at e1
        · split at e3
          · have e1' := Option.some.inj (Option.some.inj e1)
            have e3' := Option.some.inj (Option.some.inj e3)
            subst e1'
            exact hn m1 j' s2 q' e2 m2 (by rw [e3']; exact e4)
          · cases e3
        · cases e1
    · rw [List.getElem?_set_ne (Ne.symm q)] at e1 e3
      by_cases q' : j' = i
      · exfalso
        subst q'
        rw [List.getElem?_set] at e2 e4
        simp only [if_true] at e2 e4
        split at e2
        · split at e4
          · have e2' := Option.some.inj (Option.some.inj e2)
            have e4' := Option.some.inj (Option.some.inj e4)
            subst e2'
            exact hn m2 j s1 q e1 m1 (by rw [e4']; exact e3)
          · cases e4
        · cases e2
      · rw [List.getElem?_set_ne (Ne.symm q')] at e2 e4
        exact st.ne j j' s1 s2 a e1 e2 m1 m2 e3 e4
theorem StOk.setF (st : StOk T K z H0 Hf H σ δ) {i : Nat} {v : V} {d : D} (h : Rep T K Hf d v) : StOk T K z H0 Hf H (σ.set i (some v)) (δ.set i (some (.fz d))) := st.set h fun e => by cases e
theorem slot_at (st : StOk T K z H0 Hf H σ δ) {i : Nat} {s : Sl} (e : δ[i]? = some (some s)) : ∃ v, σ[i]? = some (some v) ∧ SlOk T K z H0 Hf H (some v) (some s) := by
  have h := st.at_ i
  rw [e] at h
  cases e2 : σ[i]? with
  | none => rw [e2] at h; exact h.elim
  | some o =>
    cases o with
    | none => rw [e2] at h; exact h.elim
    | some v => rw [e2] at h; exact ⟨v, rfl, h⟩
/-- one's own list frozen -/
theorem frz_ok (s0 : Step Hf0 H0 Hf H) (st : StOk T K z H0 Hf H σ δ) (i : Nat) : ∃ Hf', Step Hf0 H0 Hf' H ∧ StOk T K z H0 Hf' H σ (δ.frz i) := by
  unfold Fr.frz
  split
  · rename_i xs e
    obtain ⟨v, ev, h⟩ := slot_at st e
    obtain ⟨a, vs, rfl, h1, h2, h3, h4⟩ := h
    have x1 : Ex Hf (upd Hf a (.lst vs)) := Ex.new h1
    have x2 : Ex (upd Hf a (.lst vs)) H := fun b u q => by
      by_cases hb : b = a
      · subst hb
        rw [upd_same] at q
        rw [← q]
        exact h3
      · rw [upd_ne hb] at q
        exact st.i b u q
    refine ⟨upd Hf a (.lst vs), ⟨s0.f.trans x1, s0.h, x2, fun b hb => ?_⟩, x2, by rw [List.length_set]; exact st.len, fun j => ?_, fun j j' s1 s2 b e1 e2 m1 m2 e3 e4 => ?_⟩
    · by_cases q : b = a
      · subst q
        exact .inr h2
      · rw [upd_ne q] at hb
        exact s0.n b hb
    · rw [join_set]
      by_cases q : i = j ∧ j < δ.length
      · rw [if_pos q]
        rw [← q.1, ev]
        show Rep T K _ _ _
        unfold Rep
        exact ⟨a, vs, rfl, upd_same, h4.mono x1⟩
      · rw [if_neg q]
        have h := st.at_ j
        cases ej : δ[j]? with
        | none => exact True.intro
        | some o =>
          cases o with
          | none => exact True.intro
          | some s =>
            rw [ej] at h
            obtain ⟨w, ew, h⟩ := slot_at st ej
            rw [ew]
            have hj : i ≠ j := fun z => q ⟨z, (List.getElem?_eq_some_iff.mp ej).1⟩
            cases s with
            | fz d => exact h.mono x1
            | own ds =>
              obtain ⟨b, ws, rfl, g1, g2, g3, g4⟩ := h
              refine ⟨b, ws, rfl, ?_, g2, g3, g4.mono x1⟩
              rw [upd_ne fun z => ?_]
              · exact g1
              · subst z
                exact hj (st.ne i j _ _ b e ej rfl rfl ev ew)
            | lent ds =>
              obtain ⟨b, ws, e1, g1, g2, g3⟩ := h
              exact ⟨b, ws, e1, g1, g2, g3.mono x1⟩
            | ob c ds =>
              obtain ⟨b, dx, fs, rfl, g1, g0, g2, g3, g4⟩ := h
              refine ⟨b, dx, fs, rfl, ?_, g0, g2, g3, g4.mono x1⟩
              rw [upd_ne fun z => ?_]
              · exact g1
              · subst z
                rw [h3] at g2
                cases g2
            | exc c ds =>
              obtain ⟨b, cls, d, e1, g1, g2⟩ := h
              exact ⟨b, cls, d, e1, g1, g2.mono x1⟩
    · have get : ∀ {l : Nat} {s3 : Sl}, (δ.set i (some (Sl.fz (.lst xs))))[l]? = some (some s3) → s3.mine = true → δ[l]? = some (some s3) := fun {l s3} h hm => by
        by_cases q : i = l
        · subst q
          rw [List.getElem?_set] at h
          simp only [if_true] at h
          split at h
          · cases h
            cases hm
          · cases h
        · rwa [List.getElem?_set_ne q] at h
      exact st.ne j j' s1 s2 b (get e1 m1) (get e2 m2) m1 m2 e3 e4
  · exact ⟨Hf, s0, st⟩
end
section
variable {X : Cx} {T : Tab} {W : WX} {z : Hd} {c a b e : Expr} {t ta tb : EW} {p : TW} {sa sb sc : SW} {x y : Str} {pos pos' p0 p1 p2 : Pos} {s : Stmt} {ss rest : List Stmt} {i j : Nat}
theorem vss_nil : VSs X T W z [] sNext := PSs.imp pss_nil fun D σ H ⟨H0, Hf0, Hf, δ, k, s0, st, ks, q⟩ => ks.nx σ H Hf δ s0 st q
theorem seq_imp {D : Ends} {σ : L2.St} {H : Hp} (h : rdS T X.K W z (sSeq sa sb) D σ H) : tSeq (rdS T X.K W z sa) (rdS T X.K W z sb) D σ H := by
  obtain ⟨H0, Hf0, Hf, δ, k, s0, st, ks, q⟩ := h
  exact ⟨H0, Hf0, Hf, δ, { k with nx := fun δ' => sb k δ' }, s0, st, ks.setNx fun σ' H' Hf' δ' S st' q' => ⟨H0, Hf0, Hf', δ', k, S, st', ks, q'⟩, q⟩
theorem vss_cons (h1 : VS X T W z s sa) (h2 : VSs X T W z rest sb) : VSs X T W z (s :: rest) (sSeq sa sb) := PSs.imp (pss_cons h1 h2) fun D σ H h => seq_imp h
theorem vss_one (h1 : VS X T W z s sa) : VSs X T W z [s] sa := pss_one h1
theorem vss_cut (h1 : VS X T W z s sa) (h2 : VSs X T W z rest sb) : VSs X T W z (s :: rest) (sCut sa sb) := PSs.imp (pss_cons h1 h2) fun D σ H ⟨H0, Hf0, Hf, δ, k, s0, st, ks, M, q1, q2⟩ =>
  ⟨H0, Hf0, Hf, δ, { k with nx := M }, s0, st, ks.setNx fun σ' H' Hf' δ' S st' q' => ⟨H0, Hf0, Hf', δ', k, S, st', ks, q2 δ' q'⟩, q1⟩
theorem vss_frz (h : VSs X T W z ss sa) : VSs X T W z ss (sFreeze i sa) := PSs.imp h fun D σ H ⟨H0, Hf0, Hf, δ, k, s0, st, ks, q⟩ => by
  obtain ⟨Hf', s1, st1⟩ := frz_ok s0 st i
  exact ⟨H0, Hf0, Hf', δ.frz i, k, s1, st1, ks, q⟩
theorem vss_never : VSs X T W z ss sNever := PSs.imp pss_never fun D σ H ⟨H0, Hf0, Hf, δ, k, s0, st, ks, q⟩ => q
theorem vs_never : VS X T W z s sNever := PS.imp ps_never fun D σ H ⟨H0, Hf0, Hf, δ, k, s0, st, ks, q⟩ => q
theorem vs_pass : VS X T W z (.Pass pos) sNext := PS.imp ps_pass fun D σ H ⟨H0, Hf0, Hf, δ, k, s0, st, ks, q⟩ => ks.nx σ H Hf δ s0 st q
theorem vs_break : VS X T W z (.Break pos) sBrk := PS.imp ps_break fun D σ H ⟨H0, Hf0, Hf, δ, k, s0, st, ks, q⟩ => ks.bk σ H Hf δ s0 st q
theorem vs_cont : VS X T W z (.Continue pos) sCont := PS.imp ps_continue fun D σ H ⟨H0, Hf0, Hf, δ, k, s0, st, ks, q⟩ => ks.ct σ H Hf δ s0 st q
theorem vs_doc {w : Str} {n : Nat} : VS X T W z (.Expr (.Constant (.str w) n pos) pos') sNext := PS.imp ps_doc fun D σ H ⟨H0, Hf0, Hf, δ, k, s0, st, ks, q⟩ => ks.nx σ H Hf δ s0 st q
theorem vs_set (hN : X.N.Nodup) (he : VE X T W z e t) (hi : X.N[i]? = some x := by rfl) (hx : Loc X.env.scope x := by first | exact Or.inl rfl | exact Or.inr rfl) (hs : swapsWith e (some (.Name x pos')) pos.line X.env = pure false := by rfl)
    (hf : X.fn x = true ∨ X.env.scope.names.lookup x = some .local := by first | exact .inl rfl | exact .inr rfl) : VS X T W z (.Assign [.Name x pos'] e pos) (sSet i t) := PS.imp (ps_set hN hi hx he.toD hs hf) fun D σ H ⟨H0, Hf0, Hf, δ, k, s0, st, ks, q⟩ =>
  ⟨H0, Hf, δ, fun d => k.nx (δ.set i (some (.fz d))), _, st, ks.xo s0 st, fun v Hf' H' d S r hq => ks.nx _ H' Hf' _ (s0.trans S) ((st.step S).setF r) hq, q⟩
theorem vs_own (hN : X.N.Nodup) (he : VE X T W z e t) (hi : X.N[i]? = some x := by rfl) (hx : Loc X.env.scope x := by first | exact Or.inl rfl | exact Or.inr rfl) (hs : swapsWith e (some (.Name x pos')) pos.line X.env = pure false := by rfl)
    (hf : X.fn x = true ∨ X.env.scope.names.lookup x = some .local := by first | exact .inl rfl | exact .inr rfl) : VS X T W z (.Assign [.Name x pos'] e pos) (sOwn i t) := PS.imp (ps_set hN hi hx he hs hf) fun D σ H ⟨H0, Hf0, Hf, δ, k, s0, st, ks, q⟩ =>
  ⟨H0, Hf, δ, fun r => k.nx (δ.set i (some r.s)), _, st, ks.xo s0 st, fun v Hf' H' r S rs hq => (by
    refine ks.nx _ H' Hf' _ (s0.trans S) ?_ hq
    cases r with
    | fz d => exact (st.step S).setF rs
    | own ds =>
      obtain ⟨a, vs, rfl, h1, h2, h3, h4⟩ := rs
      refine (st.step S).set ⟨a, vs, rfl, h1, s0.h.fresh h2, h3, h4⟩ fun _ j s' hj ej hm e2 => ?_
      obtain ⟨w, ew, hw⟩ := slot_at st ej
      rw [ew] at e2
      cases e2
      cases s' with
      | own es =>
        obtain ⟨b, ws, e, g1, g2, g3, g4⟩ := hw
        cases e
        rw [h2] at g3
        cases g3
      | ob c es =>
        obtain ⟨b, dx, fs, e, g1, g0, g3, g4, g5⟩ := hw
        cases e
        rw [h2] at g3
        cases g3
      | _ => cases hm), q⟩
theorem vs_expr (he : VE X T W z e t) (hs : swapsWith e none pos.line X.env = pure false := by rfl) : VS X T W z (.Expr e pos) (sDrop t) := PS.imp (ps_expr he hs) fun D σ H ⟨H0, Hf0, Hf, δ, k, s0, st, ks, q⟩ =>
  ⟨H0, Hf, δ, fun _ => k.nx δ, _, st, ks.xo s0 st, fun v Hf' H' r S rs hq => ks.nx _ H' Hf' _ (s0.trans S) (st.step S) hq, q⟩
theorem res_base {Hf H Hb H1 Hf1 : Hp} {K : PySem.W.Frag} {v : V} {r : R} (e : Ex Hb H1) (h : Res T K Hf H H1 v r) : Res T K Hf H Hb v r := by
  cases r with
  | fz d => exact h
  | own ds =>
    obtain ⟨a, vs, e1, h1, h2, h3, h4⟩ := h
    exact ⟨a, vs, e1, h1, e.fresh h2, h3, h4⟩
theorem vs_ret (he : VE X T W z e t) : VS X T W z (.Return (some e) pos) (sRet t) := PS.imp (ps_ret he) fun D σ H ⟨H0, Hf0, Hf, δ, k, s0, st, ks, q⟩ =>
  ⟨H0, Hf, δ, k.rt, _, st, ks.xo s0 st, fun v Hf' H' r S rs hq => ks.rt v H' Hf' r (s0.trans S) (res_base (Hf1 := Hf) s0.h rs) hq, q⟩
theorem vs_retN : VS X T W z (.Return none pos) sRetN := PS.imp ps_retN fun D σ H ⟨H0, Hf0, Hf, δ, k, s0, st, ks, q⟩ => ks.rt .non H Hf (.fz .non) s0 (by unfold Res Rep; rfl) q
theorem vs_retO (hN : X.N[i]? = some x := by rfl) (hv : Vis X.env.scope x := by first | exact Or.inl rfl | exact Or.inr (Or.inl rfl) | exact Or.inr (Or.inr rfl)) (hd : (x == ("__debug__" : Str)) = false := by decide)
    (hcd : (x == ("__classdict__" : Str)) = false := by decide) : VS X T W z (.Return (some (.Name x pos)) pos') (sRetO i) := PS.imp (ps_ret (pe_var hN hv hd hcd)) fun D σ H ⟨H0, Hf0, Hf, δ, k, s0, st, ks, q⟩ => by
  unfold sRetO at q
  split at q
  · rename_i xs e
    obtain ⟨v, ev, h⟩ := slot_at st e
    exact ⟨v, ev, ks.rt v H Hf (.own xs) s0 h q⟩
  · rename_i d e
    obtain ⟨v, ev, h⟩ := slot_at st e
    exact ⟨v, ev, ks.rt v H Hf (.fz d) s0 h q⟩
  · exact q.elim
theorem vs_if {aa bb : List Stmt} (hc : VT X T W z c p) (ha : VSs X T W z aa sa) (hb : VSs X T W z bb sb) : VS X T W z (.If c aa bb pos) (sIf p sa sb) := PS.imp (ps_if hc ha hb) fun D σ H ⟨H0, Hf0, Hf, δ, k, s0, st, ks, q⟩ =>
  ⟨H0, Hf, δ, _, _, st, ks.xo s0 st, fun bq Hf' H' S (hq : if bq = true then sa k δ else sb k δ) => by
    cases bq with
    | true => exact ⟨H0, Hf0, Hf', δ, k, s0.trans S, st.step S, ks, hq⟩
    | false => exact ⟨H0, Hf0, Hf', δ, k, s0.trans S, st.step S, ks, hq⟩, q⟩
theorem vs_par {px py pt : Pos} {kt k2 pt2} (hc : X.calm = true) (hN : X.N.Nodup) (ha : VE X T W z a ta) (hb : VE X T W z b tb) (hi : X.N[i]? = some x := by rfl) (hj : X.N[j]? = some y := by rfl) (hij : i ≠ j := by decide)
    (hx : X.env.scope.names.lookup x = some .local := by rfl) (hy : X.env.scope.names.lookup y = some .local := by rfl)
    (hw : swappedStores [.Tuple [.Name x px, .Name y py] kt pt] (.Tuple [a, b] k2 pt2) X.env = pure (some [x, y]) := by rfl)
    (hs : swapsWithSole [.Tuple [.Name x px, .Name y py] kt pt] (.Tuple [a, b] k2 pt2) pos.line X.env = pure false := by rfl)
    (hst : starEach [a, b] X.env = (false, eval a X.env) :: starEach [b] X.env := by rfl) (hst2 : starEach [b] X.env = (false, eval b X.env) :: starEach [] X.env := by rfl) :
    VS X T W z (.Assign [.Tuple [.Name x px, .Name y py] kt pt] (.Tuple [a, b] k2 pt2) pos) (sPar i j ta tb) :=
  PS.imp (ps_par hc hN hi hj hij hx hy (va_cons ha (va_cons hb va_nil hst2) hst) hw hs) fun D σ H ⟨H0, Hf0, Hf, δ, k, s0, st, ks, q⟩ =>
    ⟨H0, Hf, δ, fun ds => ∃ d e, ds = [d, e] ∧ k.nx ((δ.set i (some (.fz d))).set j (some (.fz e))), _, st, ks.xo s0 st, fun vs Hf' H' ds S r ⟨d, e, ed, hq⟩ => by
      subst ed
      obtain ⟨d1, dr, v1, vr, e1, rfl, h1, d2, dr2, v2, vr2, e2, rfl, h2, e3, rfl⟩ := r
      cases e1
      cases e2
      exact ⟨v1, v2, rfl, ks.nx _ H' Hf' _ (s0.trans S) (((st.step S).setF h1).setF h2) hq⟩, by
      unfold sPar at q
      show ta δ (fun r => tb δ (fun s => ∃ d e, [r.d, s.d] = [d, e] ∧ _) _) _
      have : (fun (r : R) => tb δ (fun s => ∃ d e, [r.d, s.d] = [d, e] ∧ k.nx ((δ.set i (some (.fz d))).set j (some (.fz e)))) (fun x => k.xq x δ)) = (fun r => tb δ (fun s => k.nx ((δ.set i (some (.fz r.d))).set j (some (.fz s.d)))) (fun x => k.xq x δ)) := by
        funext r
        congr 1
        funext s
        apply propext
        constructor
        · rintro ⟨d, e, h, q⟩
          cases h
          exact q
        · intro q
          exact ⟨_, _, rfl, q⟩
      rw [this]
      exact q⟩
end
end VL
end
section
set_option Elab.async false
set_option linter.all false
set_option maxRecDepth 100000
set_option maxHeartbeats 4000000
/-! VLs12: op=, targets, loops, lists that change, fields of self. -/
namespace VL
open PySem PySem.Spec PyProof.Rows L2
/-! ### op= of instances -/
section
variable {X : Cx} {T : Tab} {W : WX} {z : Hd} {k : Nat} {dn : Dun}
theorem opv_inp (o : OpC X T W k dn) {m : Dn} {op : Operator} (hm : m.ms = [false, false]) (hnm : PySem.dunder op.info.2 = m.nm) (hop : op.info.2 ∈ opNames) {fo ro : Option Value} (h1 : ∀ K, PySem.W.findIn K (.type "int") (PySem.dunder op.info.2) = some fo)
    (h2 : ∀ K, PySem.W.findIn K (.type "int") (dunderR op.info.2) = some ro) : OpV X T W (inplaceOp op) (opObj dn m) := by
  intro pins s σ H Hf x y u v dx dy Q Xq Qv I rx ry i hx hy xo kt q
  have go : ∀ {c : Nat} {xs : List D}, Rep T X.K Hf (.obj c xs) x → objL dn m c xs dy Q Xq → ((∃ j, dy = .int j) ∨ ∃ ys, dy = .obj c ys) → wpAny (model X.prog X.w) X.A (inplaceOp op u v) (EP X pins σ Qv) X.xe s := fun {c xs} hx q hd => by
    obtain ⟨a, dx', fs, e1, hc, hH, _⟩ := hx.objU i
    subst e1
    obtain rfl : u = Value.ref a := rx
    obtain ⟨od, J, _⟩ := inst_at I hH
    obtain ⟨cd, hcd, hn⟩ := (o.lib.cl c hc).ni _ hop
    exact PySem.W.vl_inp J.type (PySem.W.vl_fillsI I.kIn hcd hn) (bin_objL (v := .ref a) o hm hnm hop (h1 _) (h2 _) I i rfl hx ry hy xo kt q hd)
  unfold opObj at q
  split at q
  · exact go hx q (.inl ⟨_, rfl⟩)
  · rename_i c xs c' ys
    obtain ⟨e, q⟩ := q
    subst e
    exact go hx q (.inr ⟨_, rfl⟩)
  · exact q.elim
theorem opv_iadd (o : OpC X T W k dn) : OpV X T W (inplaceOp .Add) (opObj dn .add) := opv_inp o rfl dun_add (by decide) (fun _ => rfl) (fun _ => rfl)
theorem opv_isub (o : OpC X T W k dn) : OpV X T W (inplaceOp .Sub) (opObj dn .sub) := opv_inp o rfl dun_sub (by decide) (fun _ => rfl) (fun _ => rfl)
theorem opv_imul (o : OpC X T W k dn) : OpV X T W (inplaceOp .Mult) (opObj dn .mul) := opv_inp o rfl dun_mul (by decide) (fun _ => rfl) (fun _ => rfl)
theorem opv_imod (o : OpC X T W k dn) : OpV X T W (inplaceOp .Mod) (opObj dn .mod) := opv_inp o rfl dun_mod (by decide) (fun _ => rfl) (fun _ => rfl)
theorem opv_ifdiv (o : OpC X T W k dn) : OpV X T W (inplaceOp .FloorDiv) (opObj dn .fdiv) := opv_inp o rfl dun_fdiv (by decide) (fun _ => rfl) (fun _ => rfl)
theorem opv_ibor (o : OpC X T W k dn) : OpV X T W (inplaceOp .BitOr) (opObj dn .bor) := opv_inp o rfl dun_bor (by decide) (fun _ => rfl) (fun _ => rfl)
theorem opv_iband (o : OpC X T W k dn) : OpV X T W (inplaceOp .BitAnd) (opObj dn .band) := opv_inp o rfl dun_band (by decide) (fun _ => rfl) (fun _ => rfl)
theorem opv_ilsh (o : OpC X T W k dn) : OpV X T W (inplaceOp .LShift) (opObj dn .lsh) := opv_inp o rfl dun_lsh (by decide) (fun _ => rfl) (fun _ => rfl)
theorem opv_irsh (o : OpC X T W k dn) : OpV X T W (inplaceOp .RShift) (opObj dn .rsh) := opv_inp o rfl dun_rsh (by decide) (fun _ => rfl) (fun _ => rfl)
end
section
variable {X : Cx} {T : Tab} {W : WX} {z : Hd} {c a b e o : Expr} {t ta tb : EW} {p : TW} {sa sb sc : SW} {x y : Str} {pos pos' p0 p1 p2 : Pos} {s : Stmt} {ss rest : List Stmt} {i j : Nat} {w2 : Op2}
theorem vs_aug {op : Operator} (hN : X.N.Nodup) (ho : OpV X T W (inplaceOp op) w2) (he : VE X T W z e t) (hi : X.N[i]? = some x := by rfl) (hx : Loc X.env.scope x := by first | exact Or.inl rfl | exact Or.inr rfl)
    (hf : X.fn x = true ∨ X.env.scope.names.lookup x = some .local := by first | exact .inl rfl | exact .inr rfl) : VS X T W z (.AugAssign (.Name x pos') op e pos) (sAug i w2 t) := by
  refine ⟨fun pins s σ H En I ⟨H0, Hf0, Hf, δ, k, s0, st, ks, q⟩ => ?_⟩
  unfold sAug at q
  split at q
  · rename_i d ed
    obtain ⟨v, ev, hv⟩ := slot_at st ed
    obtain ⟨m, hn, hl⟩ := I.loc
    have vis : Vis X.env.scope x := by rcases hx with k | k; exact .inl k; exact .inr (.inl k)
    obtain ⟨u, r, l⟩ := hl i x v hi ev vis
    refine wpAny_AugAssign_Name ?_
    have go : wpAny (model X.prog X.w) X.A (eval e X.env) (fun w s₂ => wpAny (model X.prog X.w) X.A (inplaceOp op u w) (fun r s₃ => wpAny (model X.prog X.w) X.A (storeName X.env x r) (fun _ => SP X pins En .next) X.xe s₃) X.xe s₂) X.xe s := by
      refine thn (he.toD.one (Q2 := fun d' => w2 d d' (fun z => k.nx (δ.set i (some (.fz z.d)))) (fun x => k.xq x δ)) I st (ks.xo s0 st) q) fun w s1 ⟨y, H1, Hf1, d1, I1, r1, S1, rp1, q1⟩ => ?_
      have hv1 : Rep T X.K Hf1 d v := Rep.mono S1.f hv
      refine thn (ho pins s1 σ H1 Hf1 v y u w d d1 _ _ (fun v' H' => ∃ Hf' d', Step Hf1 H1 Hf' H' ∧ Rep T X.K Hf' d' v' ∧ k.nx (δ.set i (some (.fz d')))) I1 r r1 S1.i hv1 rp1 ((ks.xo s0 st).step S1) (fun v' Hf' H' r' S rs hq => ?_) q1) fun zv s2 ⟨v', H2, I2, r2, Hf2, d', S2, rp2, q2⟩ => ?_
      · obtain ⟨Hf2, S2, rp⟩ := rs.freeze S
        exact ⟨Hf2, r'.d, S2, rp, hq⟩
      · have S12 := S1.trans S2
        exact store_ok I2 hN hi hx r2 (fun s3 I3 => ⟨_, H2, I3, ks.nx _ H2 Hf2 _ (s0.trans S12) ((st.step S12).setF rp2) q2⟩) hf
    rcases l with ⟨hk, hm⟩ | ⟨hk, c, hc, hcell⟩
    · exact wpAny_loadName_local I.ok.kind hk hn hm go
    · rcases hk with hk | hk
      · exact wpAny_loadName_cell I.ok.kind hk hc hcell go
      · rcases hx with k | k
        · have : X.env.scope.names.lookup x = some .free := hk
          rw [k] at this; cases this
        · have : X.env.scope.names.lookup x = some .free := hk
          rw [k] at this; cases this
  · exact q.elim
end
/-! ### targets -/
def rdG (T : Tab) (K : PySem.W.Frag) (z : Hd) (g : Tg) : TG := fun v σ H Q => ∃ H0 Hf δ d, ∃ Qd : Fr → Prop, StOk T K z H0 Hf H σ δ ∧ Rep T K Hf d v ∧ (∀ σ' δ', StOk T K z H0 Hf H σ' δ' → Qd δ' → Q σ' H) ∧ g.go d δ Qd
def rdGs (T : Tab) (K : PySem.W.Frag) (z : Hd) (gs : List Tg) : TGs := fun vs σ H Q => ∃ H0 Hf δ ds, ∃ Qd : Fr → Prop, StOk T K z H0 Hf H σ δ ∧ RepL T K Hf ds vs ∧ (∀ σ' δ', StOk T K z H0 Hf H σ' δ' → Qd δ' → Q σ' H) ∧ (match Tg.puts gs ds δ with | some δ' => Qd δ' | none => False)
def VG (X : Cx) (T : Tab) (z : Hd) (e : Expr) (g : Tg) : Prop := PG X e (rdG T X.K z g)
def VGs (X : Cx) (T : Tab) (z : Hd) (es : List Expr) (gs : List Tg) : Prop := PGs X es (rdGs T X.K z gs)
theorem PG.imp {X : Cx} {e : Expr} {t t' : TG} (h : PG X e t) (i : ∀ v σ H Q, t' v σ H Q → t v σ H Q) : PG X e t' := ⟨fun pins s σ H v u Q I r q => h.run pins s σ H v u Q I r (i _ _ _ _ q)⟩
theorem PGs.imp {X : Cx} {e : List Expr} {t t' : TGs} (h : PGs X e t) (i : ∀ v σ H Q, t' v σ H Q → t v σ H Q) : PGs X e t' := ⟨fun pins s σ H v u Q I r q => h.run pins s σ H v u Q I r (i _ _ _ _ q)⟩
section
variable {X : Cx} {T : Tab} {W : WX} {z : Hd} {e iter : Expr} {es : List Expr} {g : Tg} {gs : List Tg} {x : Str} {pos : Pos} {i : Nat}
theorem vg_nm (hN : X.N.Nodup) (hi : X.N[i]? = some x := by rfl) (hx : Loc X.env.scope x := by first | exact Or.inl rfl | exact Or.inr rfl) (hf : X.fn x = true ∨ X.env.scope.names.lookup x = some .local := by first | exact .inl rfl | exact .inr rfl) : VG X T z (.Name x pos) (.nm i) :=
  PG.imp (pg_name hN hi hx hf) fun v σ H Q ⟨H0, Hf, δ, d, Qd, st, r, kt, q⟩ => kt _ _ (st.setF r) (by unfold Tg.go Tg.put at q; exact q)
theorem vgs_nil : VGs X T z [] [] := PGs.imp pgs_nil fun vs σ H Q ⟨H0, Hf, δ, ds, Qd, st, r, kt, q⟩ => by
  cases ds with
  | nil =>
    rw [repL_nil.mp r]
    unfold Tg.puts at q
    exact ⟨rfl, kt _ _ st q⟩
  | cons d ds =>
    unfold Tg.puts at q
    exact q.elim
theorem vgs_cons (h1 : VG X T z e g) (h2 : VGs X T z es gs) (hs : (assignEach (e :: es) X.env).map (·.2) = assign e X.env :: (assignEach es X.env).map (·.2) := by rfl) : VGs X T z (e :: es) (g :: gs) :=
  PGs.imp (pgs_cons h1 h2 hs) fun vs σ H Q ⟨H0, Hf, δ, ds, Qd, st, r, kt, q⟩ => by
    cases ds with
    | nil =>
      unfold Tg.puts at q
      exact q.elim
    | cons d ds =>
      obtain ⟨v, w, rfl, r1, r2⟩ := repL_cons.mp r
      unfold Tg.puts at q
      cases e1 : g.put d δ with
      | none => rw [e1] at q; exact q.elim
      | some δ1 =>
        rw [e1] at q
        refine ⟨v, w, rfl, H0, Hf, δ, d, fun δ' => δ' = δ1, st, r1, fun σ' δ' st' ed => ?_, by unfold Tg.go; rw [e1]⟩
        subst ed
        exact ⟨H0, Hf, δ', ds, Qd, st', r2, kt, q⟩
theorem vg_tup {k : Nat} (hc : X.calm = true) (h : VGs X T z es gs) (hn : (assignEach es X.env).length = gs.length := by rfl) (hst : (assignEach es X.env).findIdx? (·.1) = none := by rfl) : VG X T z (.Tuple es k pos) (.tp gs) :=
  PG.imp (pg_tup hc h hn hst) fun v σ H Q ⟨H0, Hf, δ, d, Qd, st, r, kt, q⟩ => by
    cases d with
    | tup ds =>
      unfold Tg.go Tg.put at q
      unfold Rep at r
      obtain ⟨a, vs, e1, e2, e3⟩ := r
      refine ⟨a, vs, e1, SqT.of (st.i _ _ e2), ?_, H0, Hf, δ, ds, Qd, st, e3, kt, q⟩
      rw [← e3.length]
      have : ∀ {gs : List Tg} {ds : List D} {δ δ' : Fr}, Tg.puts gs ds δ = some δ' → ds.length = gs.length := fun {gs} => by
        induction gs with
        | nil =>
          intro ds δ δ' h
          cases ds with
          | nil => rfl
          | cons d ds => unfold Tg.puts at h; cases h
        | cons g gs ih =>
          intro ds δ δ' h
          cases ds with
          | nil => unfold Tg.puts at h; cases h
          | cons d ds =>
            unfold Tg.puts at h
            cases e1 : g.put d δ with
            | none => rw [e1] at h; cases h
            | some δ1 =>
              rw [e1] at h
              rw [List.length_cons, List.length_cons, ih h]
      cases e5 : Tg.puts gs ds δ with
      | none => rw [e5] at q; exact q.elim
      | some δ' => exact this e5
    | _ => unfold Tg.go Tg.put at q; exact q.elim
end
/-! ### what is walked -/
def ItOk (T : Tab) (K : PySem.W.Frag) (Hf : Hp) (J : It) (items : List D) : Prop := ∀ Hf1 H1, Ex Hf Hf1 → Ex Hf1 H1 → (∀ i d, items[i]? = some d → J.go i H1 ∧ ∀ x H2, J.yld i H1 x H2 → ∃ Hf2, Step Hf1 H1 Hf2 H2 ∧ Rep T K Hf2 d x) ∧ J.stop items.length H1
def rdI (T : Tab) (K : PySem.W.Frag) (W : WX) (z : Hd) (t : IW) : TI := fun σ H R => ∃ H0 Hf δ Q X, StOk T K z H0 Hf H σ δ ∧ XOk T K W σ Hf H X ∧ (∀ J Hf' H' items, Step Hf H Hf' H' → ItOk T K Hf' J items → Q items → R J H') ∧ t δ Q X
def VI (X : Cx) (T : Tab) (W : WX) (z : Hd) (tg iter : Expr) (t : IW) : Prop := PI X tg iter (rdI T X.K W z t)
theorem PI.imp {X : Cx} {tg e : Expr} {t t' : TI} (h : PI X tg e t) (i : ∀ σ H R, t' σ H R → t σ H R) : PI X tg e t' := ⟨fun pins s σ H R I q => h.run pins s σ H R I (i _ _ _ q)⟩
section
variable {X : Cx} {T : Tab} {W : WX} {z : Hd} {e iter tg a b : Expr} {t ta tb : EW} {es : List Expr} {g : Tg} {gs : List Tg} {x : Str} {pos p0 : Pos} {i : Nat} {ti : IW} {sb : SW} {p : TW} {c : Expr}
theorem itl_ok {Hf : Hp} {p : Addr} {ds : List D} {vs : List V} (e1 : Hf p = some (.lst vs)) (e2 : RepL T X.K Hf ds vs) : ItOk T X.K Hf (Itl X.K p) ds := fun Hf1 H1 x1 x2 => by
  have q := SqL.of (K := X.K) (x2 _ _ (x1 _ _ e1))
  refine ⟨fun i d ed => ?_, ⟨vs, q, by rw [e2.length]; exact Nat.le_refl _⟩⟩
  obtain ⟨v, ev, rv⟩ := e2.getD ed
  refine ⟨⟨vs, v, q, ev⟩, fun x H2 ⟨h1, h2⟩ => ?_⟩
  subst h1
  have := h2 vs q
  rw [ev] at this
  cases this
  exact ⟨Hf1, Step.refl x2, rv.mono x1⟩
theorem itt_ok {Hf : Hp} {p : Addr} {ds : List D} {vs : List V} (e1 : Hf p = some (.tup vs)) (e2 : RepL T X.K Hf ds vs) : ItOk T X.K Hf (Itt X.K p) ds := fun Hf1 H1 x1 x2 => by
  have q := SqT.of (K := X.K) (x2 _ _ (x1 _ _ e1))
  refine ⟨fun i d ed => ?_, ⟨vs, q, by rw [e2.length]; exact Nat.le_refl _⟩⟩
  obtain ⟨v, ev, rv⟩ := e2.getD ed
  refine ⟨⟨vs, v, q, ev⟩, fun x H2 ⟨h1, h2⟩ => ?_⟩
  subst h1
  have := h2 vs q
  rw [ev] at this
  cases this
  exact ⟨Hf1, Step.refl x2, rv.mono x1⟩
theorem ints_len (lo : Int) (n : Nat) : (intsFrom lo n).length = n := by simp [intsFrom]
theorem ints_get {lo : Int} {n i : Nat} {d : D} (h : (intsFrom lo n)[i]? = some d) : i < n ∧ d = .int (lo + (i : Int)) := by
  unfold intsFrom at h
  rw [List.getElem?_map] at h
  have hi : i < n := by
    by_cases q : i < n
    · exact q
    · rw [List.getElem?_eq_none_iff.mpr (by rw [List.length_range]; omega)] at h
      cases h
  rw [List.getElem?_range hi] at h
  exact ⟨hi, (Option.some.inj h).symm⟩
theorem itr_ok {Hf : Hp} {lo : Int} {n : Nat} : ItOk T X.K Hf (Itr lo n) (intsFrom lo n) := fun Hf1 H1 x1 x2 => by
  refine ⟨fun i d ed => ?_, show n ≤ _ by rw [ints_len]; exact Nat.le_refl _⟩
  obtain ⟨hi, rfl⟩ := ints_get ed
  refine ⟨hi, fun x H2 ⟨h1, h2⟩ => ?_⟩
  subst h1 h2
  exact ⟨Hf1, Step.refl x2, by unfold Rep; rfl⟩
theorem vi_seq (he : VE X T W z e t) : VI X T W z tg e (iSeq t) := by
  refine ⟨fun pins s σ H R I ⟨H0, Hf, δ, Q, Xq, st, xo, kt, q⟩ => ?_⟩
  refine thn (he.toD.one (Q2 := fun d => match seqOf d with | some ds => Q ds | none => False) I st xo q) fun v s1 ⟨w, H1, Hf1, d, I1, r1, S, rp, hq⟩ => ?_
  cases d with
  | lst ds =>
    unfold Rep at rp
    obtain ⟨p, vs, rfl, e1, e2⟩ := rp
    cases r1
    obtain ⟨its, rv, pl, hz⟩ := I1.list (SqL.of (S.i _ _ e1))
    refine wpAny_pyIter_list pl.isList ?_
    refine ⟨s1.heap.objs.size, [s1.heap.objs.size], _, _, H1, rfl, I1.kept (t' := s1.toks) fun b o e => Heap.get?_push_of_some _ e, turn_list p _, ⟨_, Heap.get?_push_size _ rfl, rfl, rfl⟩, fun b hb => ?_, kt _ Hf1 H1 ds S (itl_ok e1 e2) hq⟩
    have e : b = s1.heap.objs.size := by simpa using hb
    subst e
    exact I1.fpOk (Nat.le_refl _) (I1.hok.fresh (Nat.le_refl _))
  | tup ds =>
    unfold Rep at rp
    obtain ⟨p, vs, rfl, e1, e2⟩ := rp
    cases r1
    obtain ⟨its, rv, pl, hz⟩ := I1.tuple (SqT.of (S.i _ _ e1))
    refine wpAny_pyIter_tuple (show s1.heap.IsTuple p its.toArray from pl) ?_
    refine ⟨s1.heap.objs.size, [s1.heap.objs.size], _, _, H1, rfl, I1.kept (t' := s1.toks) fun b o e => Heap.get?_push_of_some _ e, turn_tuple p _, ⟨_, Heap.get?_push_size _ rfl, rfl, rfl⟩, fun b hb => ?_, kt _ Hf1 H1 ds S (itt_ok e1 e2) hq⟩
    have e : b = s1.heap.objs.size := by simpa using hb
    subst e
    exact I1.fpOk (Nat.le_refl _) (I1.hok.fresh (Nat.le_refl _))
  | _ => exact hq.elim
theorem vi_rng1 (hg : Gl X "range") (hm : X.mg "range" = none) (ha : VE X T W z a ta) (hs : starEach [a] X.env = [(false, eval a X.env)] := by rfl) : VI X T W z tg (.Call (.Name "range" p0) [a] [] pos) (iRng1 ta) :=
  PI.imp (pi_range1 hg hm (va_cons ha va_nil hs) hs) fun σ H R ⟨H0, Hf, δ, Q, Xq, st, xo, kt, q⟩ =>
    ⟨H0, Hf, δ, fun ds => (match ds with | [d] => (match d with | .int n => small62 n ∧ Q (intsFrom 0 n.toNat) | _ => False) | _ => False), Xq, st, xo, fun vs Hf' H' ds S r hq => by
      simp only [] at hq
      split at hq
      · split at hq
        · have r := r.rep rfl
          obtain ⟨v, w, rfl, r1, r2⟩ := repL_cons.mp r
          unfold Rep at r1
          subst r1
          rw [repL_nil.mp r2]
          exact ⟨_, rfl, hq.1.1, hq.1.2, kt _ Hf' H' _ S itr_ok hq.2⟩
        · exact hq.elim
      · exact hq.elim, q⟩
theorem vi_rng2 (hg : Gl X "range") (hm : X.mg "range" = none) (ha : VE X T W z a ta) (hb : VE X T W z b tb) (hs : starEach [a, b] X.env = [(false, eval a X.env), (false, eval b X.env)] := by rfl) (hs2 : starEach [b] X.env = [(false, eval b X.env)] := by rfl) :
    VI X T W z tg (.Call (.Name "range" p0) [a, b] [] pos) (iRng2 ta tb) :=
  PI.imp (pi_range2 hg hm (va_cons ha (va_cons hb va_nil hs2) (by rw [hs, hs2])) hs hs2) fun σ H R ⟨H0, Hf, δ, Q, Xq, st, xo, kt, q⟩ =>
    ⟨H0, Hf, δ, fun ds => (match ds with | [d, e] => (match d, e with | .int lo, .int hi => (small62 lo ∧ small62 hi) ∧ Q (intsFrom lo (hi - lo).toNat) | _, _ => False) | _ => False), Xq, st, xo, fun vs Hf' H' ds S r hq => by
      simp only [] at hq
      split at hq
      · split at hq
        · have r := r.rep rfl
          obtain ⟨v, w, rfl, r1, r2⟩ := repL_cons.mp r
          obtain ⟨v2, w2, rfl, r3, r4⟩ := repL_cons.mp r2
          unfold Rep at r1 r3
          subst r1 r3
          rw [repL_nil.mp r4]
          exact ⟨_, _, rfl, ⟨hq.1.1.1, hq.1.1.2, hq.1.2.1, hq.1.2.2⟩, kt _ Hf' H' _ S itr_ok hq.2⟩
        · exact hq.elim
      · exact hq.elim, q⟩
/-! ### loops -/
variable {ss : List Stmt}
theorem vs_for (hp : PassesOwn (model X.prog X.w) X.A X.env X.xe) (hc : X.calm = true) (hi : VI X T W z tg iter ti) (hg : VG X T z tg g) (hb : VSs X T W z ss sb) (hs : ∀ x, foldedSetIterable iter X.env x = pure x := by intro _; rfl) :
    VS X T W z (.For tg iter ss [] pos) (sFor g ti sb) := PS.imp (ps_for hp hc hi hg hb hs) fun En σ H ⟨H0, Hf0, Hf, δ, k, s0, st, ks, q⟩ =>
  ⟨H0, Hf, δ, _, _, st, ks.xo s0 st, fun J Hf1 H1 items S1 ok (hq : loopI g sb items k δ) => by
    obtain ⟨Wv, w0, step, done⟩ := hq
    have ks1 := ks.rebase (s0.trans S1)
    have s1 : Step Hf1 H0 Hf1 H1 := (s0.trans S1).rebase (s0.trans S1) (Ex.refl _)
    let Pv : Nat → L2.St → Hp → Prop := fun i σ' H' => ∃ Hf' δ', Step Hf1 H0 Hf' H' ∧ StOk T X.K z H0 Hf' H' σ' δ' ∧ Wv i δ'
    refine ⟨fun i m σ' H' => m = items.length - i ∧ i ≤ items.length ∧ Pv i σ' H', ⟨items.length, by simp, Nat.zero_le _, Hf1, δ, s1, st.step S1, w0⟩, ?_⟩
    rintro i m σ' H' ⟨rfl, hi, Hf', δ', S', st', w'⟩
    obtain ⟨gos, stop⟩ := ok Hf' H' S'.f S'.i
    by_cases hlt : i < items.length
    · have ed : items[i]? = some items[i] := by simp [hlt]
      obtain ⟨go, yld⟩ := gos i _ ed
      refine .inr ⟨go, Pv (i + 1), fun σ2 H2 p2 => ⟨items.length - (i + 1), by omega, rfl, hlt, p2⟩, fun v H2 hy => ?_⟩
      obtain ⟨Hf2, S2, rp⟩ := yld v H2 hy
      have hst := step i _ δ' ed w'
      refine ⟨H0, Hf2, δ', _, fun δ2 => sb { k with nx := Wv (i + 1), ct := Wv (i + 1), bk := k.nx } δ2, st'.step S2, rp, fun σ3 δ3 st3 q3 => ?_, hst⟩
      exact ⟨H0, Hf1, Hf2, δ3, _, S'.trans S2, st3, ks1.loop fun σ4 H4 Hf4 δ4 S4 st4 m4 => ⟨Hf4, δ4, S4, st4, m4⟩, q3⟩
    · have e : i = items.length := by omega
      subst e
      exact .inl ⟨stop, ks1.nx σ' H' Hf' δ' S' st' (done δ' w')⟩, q⟩
theorem vs_while (hp : PassesOwn (model X.prog X.w) X.A X.env X.xe) (hc : VT X T W z c p) (hb : VSs X T W z ss sb) : VS X T W z (.While c ss [] pos) (sWhile p sb) := PS.imp (ps_while hp hc hb) fun En σ H ⟨H0, Hf0, Hf, δ, k, s0, st, ks, q⟩ => by
  obtain ⟨Wv, ⟨m0, w0⟩, step⟩ := q
  refine ⟨fun m σ' H' => ∃ Hf' δ', Step Hf0 H0 Hf' H' ∧ StOk T X.K z H0 Hf' H' σ' δ' ∧ Wv m δ', ⟨m0, Hf, δ, s0, st, w0⟩, ?_⟩
  rintro m σ' H' ⟨Hf', δ', S', st', w'⟩
  refine ⟨H0, Hf', δ', _, _, st', ks.xo S' st', fun b Hf2 H2 S2 hq => ?_, step m δ' w'⟩
  cases b with
  | true =>
    rw [if_pos rfl] at hq ⊢
    refine ⟨fun σ3 H3 => ∃ m', m' < m ∧ ∃ Hf3 δ3, Step Hf0 H0 Hf3 H3 ∧ StOk T X.K z H0 Hf3 H3 σ3 δ3 ∧ Wv m' δ3, fun _ _ h => h, ?_⟩
    exact ⟨H0, Hf0, Hf2, δ', _, S'.trans S2, st'.step S2, ks.loop fun σ4 H4 Hf4 δ4 S4 st4 ⟨m', hm, w4⟩ => ⟨m', hm, Hf4, δ4, S4, st4, w4⟩, hq⟩
  | false =>
    rw [if_neg Bool.false_ne_true] at hq ⊢
    exact ks.nx σ' H2 Hf2 δ' (S'.trans S2) (st'.step S2) hq
/-- targets = a value -/
theorem vs_unp (he : VE X T W z e t) (hg : VG X T z tg g) (hs : swapsWithSole [tg] e pos.line X.env = pure false := by rfl) (hw : swappedStores [tg] e X.env = pure none := by rfl)
    (h1 : (assignEach [tg] X.env).map (·.2) = [assign tg X.env] := by rfl) : VS X T W z (.Assign [tg] e pos) (sUnp g t) := PS.imp (ps_asg he.toD hg hs hw h1) fun En σ H ⟨H0, Hf0, Hf, δ, k, s0, st, ks, q⟩ =>
  ⟨H0, Hf, δ, fun d => g.go d δ k.nx, _, st, ks.xo s0 st, fun v Hf' H' d S r hq => ⟨H0, Hf', δ, d, k.nx, st.step S, r, fun σ' δ' st' q' => ks.nx σ' H' Hf' δ' (s0.trans S) st' q', hq⟩, q⟩
end
end VL
end
section
set_option Elab.async false
set_option linter.all false
set_option maxRecDepth 100000
set_option maxHeartbeats 4000000
/-! VLs13: lists that change, fields of self. -/
namespace VL
open PySem PySem.Spec PyProof.Rows L2
section
variable {T : Tab} {K : PySem.W.Frag} {W : WX} {z : Hd} {H0 Hf0 Hf H : Hp} {k : Ko} {En : Ends} {σ : L2.St} {δ : Fr}
theorem Step.mutL (s0 : Step Hf0 H0 Hf H) {a : Addr} {o : HO} (h1 : Hf a = none) (h2 : H0 a = none) : Step Hf0 H0 Hf (upd H a o) := ⟨s0.f, Ex.mut s0.h h2, Ex.mut s0.i h1, s0.n⟩
theorem StOk.mutL (st : StOk T K z H0 Hf H σ δ) {i : Nat} {a : Addr} {ds ys : List D} {ws ws' : List V} (ed : δ[i]? = some (some (.own ds))) (es : σ[i]? = some (some (.ref a))) (h1 : Hf a = none) (h2 : H0 a = none) (h3 : H a = some (.lst ws)) (r : RepL T K Hf ys ws') :
    StOk T K z H0 Hf (upd H a (.lst ws')) σ (δ.set i (some (.own ys))) := by
  refine ⟨Ex.mut st.i h1, by rw [List.length_set]; exact st.len, fun j => ?_, fun j j' d1 d2 b e1 e2 m1 m2 e3 e4 => ?_⟩
  · rw [join_set]
    by_cases q : i = j ∧ j < δ.length
    · rw [if_pos q, ← q.1, es]
      exact ⟨a, ws', rfl, h1, h2, upd_same, r⟩
    · rw [if_neg q]
      have h := st.at_ j
      cases ej : δ[j]? with
      | none => exact True.intro
      | some o =>
        cases o with
        | none => exact True.intro
        | some s =>
          obtain ⟨w, ew, h⟩ := slot_at st ej
          rw [ew]
          have hj : i ≠ j := fun z => q ⟨z, (List.getElem?_eq_some_iff.mp ej).1⟩
          cases s with
          | fz d => exact h
          | own es' =>
            obtain ⟨b, ws2, rfl, g1, g2, g3, g4⟩ := h
            refine ⟨b, ws2, rfl, g1, g2, ?_, g4⟩
            rw [upd_ne fun z => ?_]
            · exact g3
            · subst z
              exact hj (st.ne i j _ _ b ed ej rfl rfl es ew)
          | lent es' =>
            obtain ⟨b, ws2, e1, g1, g2, g3⟩ := h
            refine ⟨b, ws2, e1, g1, ?_, g3⟩
            rw [upd_ne fun z => ?_]
            · exact g2
            · subst z
              exact g1 h2
          | ob c es' =>
            obtain ⟨b, dx, fs, rfl, g1, g0, g2, g3, g4⟩ := h
            refine ⟨b, dx, fs, rfl, g1, g0, ?_, g3, g4⟩
            rw [upd_ne fun z => ?_]
            · exact g2
            · subst z
              rw [h3] at g2
              cases g2
          | exc c es' => exact h
  · have get : ∀ {l : Nat} {s3 : Sl}, (δ.set i (some (Sl.own ys)))[l]? = some (some s3) → s3.mine = true → ∃ s4, δ[l]? = some (some s4) ∧ s4.mine = true := fun {l s3} h hm => by
      by_cases q : i = l
      · subst q
        exact ⟨_, ed, rfl⟩
      · rw [List.getElem?_set_ne q] at h
        exact ⟨s3, h, hm⟩
    obtain ⟨x1, f1, g1⟩ := get e1 m1
    obtain ⟨x2, f2, g2⟩ := get e2 m2
    exact st.ne j j' x1 x2 b f1 f2 g1 g2 e3 e4
/-- the instance that is being made gets a field -/
theorem StOk.mutO (st : StOk T K z H0 Hf H σ δ) {i : Nat} {a dx : Addr} {c : Nat} {ds ys : List D} {fs fs' : List (Str × V)} (ed : δ[i]? = some (some (.ob c ds))) (es : σ[i]? = some (some (.ref a))) (h1 : Hf a = none) (hme : z.me = some a) (h0 : H0 a = none) (hc : c < T.n) (h3 : H a = some (.ins (T.cls c) dx fs))
    (hn : fs'.map (·.1) = (T.flds c).take ys.length) (r : RepL T K Hf ys (fs'.map (·.2))) :
    StOk T K z H0 Hf (upd H a (.ins (T.cls c) dx fs')) σ (δ.set i (some (.ob c ys))) := by
  refine ⟨Ex.mut st.i h1, by rw [List.length_set]; exact st.len, fun j => ?_, fun j j' d1 d2 b e1 e2 m1 m2 e3 e4 => ?_⟩
  · rw [join_set]
    by_cases q : i = j ∧ j < δ.length
    · rw [if_pos q, ← q.1, es]
      exact ⟨a, dx, fs', rfl, h1, ⟨⟨hme, h0⟩, hc⟩, upd_same, hn, r⟩
    · rw [if_neg q]
      have h := st.at_ j
      cases ej : δ[j]? with
      | none => exact True.intro
      | some o =>
        cases o with
        | none => exact True.intro
        | some s =>
          obtain ⟨w, ew, h⟩ := slot_at st ej
          rw [ew]
          have hj : i ≠ j := fun z => q ⟨z, (List.getElem?_eq_some_iff.mp ej).1⟩
          cases s with
          | fz d => exact h
          | own es' =>
            obtain ⟨b, ws2, rfl, g1, g2, g3, g4⟩ := h
            refine ⟨b, ws2, rfl, g1, g2, ?_, g4⟩
            rw [upd_ne fun z => ?_]
            · exact g3
            · subst z
              rw [h3] at g3
              cases g3
          | lent es' =>
            obtain ⟨b, ws2, e1, g1, g2, g3⟩ := h
            refine ⟨b, ws2, e1, g1, ?_, g3⟩
            rw [upd_ne fun z => ?_]
            · exact g2
            · subst z
              rw [h3] at g2
              cases g2
          | ob c' es' =>
            obtain ⟨b, dx', fs2, rfl, g1, g0, g2, g3, g4⟩ := h
            refine ⟨b, dx', fs2, rfl, g1, g0, ?_, g3, g4⟩
            rw [upd_ne fun z => ?_]
            · exact g2
            · subst z
              exact hj (st.ne i j _ _ b ed ej rfl rfl es ew)
          | exc c es' => exact h
  · have get : ∀ {l : Nat} {s3 : Sl}, (δ.set i (some (Sl.ob c ys)))[l]? = some (some s3) → s3.mine = true → ∃ s4, δ[l]? = some (some s4) ∧ s4.mine = true := fun {l s3} h hm => by
      by_cases q : i = l
      · subst q
        exact ⟨_, ed, rfl⟩
      · rw [List.getElem?_set_ne q] at h
        exact ⟨s3, h, hm⟩
    obtain ⟨x1, f1, g1⟩ := get e1 m1
    obtain ⟨x2, f2, g2⟩ := get e2 m2
    exact st.ne j j' x1 x2 b f1 f2 g1 g2 e3 e4
end
/-- a list's method that changes it -/
def MutOk (X : Cx) (T : Tab) (id : String) (f : MF) : Prop := MtR X id (fun x vs H Qv => ∃ Hf a ws ds es, ∃ Q : List D → Prop, Ex Hf H ∧ x = .ref a ∧ Hf a = none ∧ H a = some (.lst ws) ∧ RepL T X.K Hf ds ws ∧ RepL T X.K Hf es vs ∧
  (∀ ys ws', RepL T X.K Hf ys ws' → Q ys → Qv .non (upd H a (.lst ws'))) ∧ f ds es Q)
section
variable {X : Cx} {T : Tab} {W : WX} {z : Hd} {c a b e o : Expr} {t ta tb : EW} {x : Str} {pos apos p0 p1 p2 cpos : Pos} {es : List Expr} {i j : Nat} {f : MF} {name : Str} {id : String} {ms : List Bool} {ar : AW}
theorem mu_append : MutOk X T "list.append" mAppend := by
  intro pins s σ H x vs v us Q I rx rv ⟨Hf, a, ws, ds, es, Q', i, ex, h1, h2, r1, r2, kt, q⟩
  unfold mAppend at q
  split at q
  · obtain ⟨y, r, rfl, r3, r4⟩ := repL_cons.mp r2
    rw [repL_nil.mp r4] at rv
    exact mt_append pins s σ H x _ v us Q I rx rv ⟨a, ws, y, ex, rfl, h2, by rw [← r1.length, sizeLine_eq]; exact q.1, kt _ _ (r1.append (RepL.cons r3 RepL.nil)) q.2⟩
  · exact q.elim
theorem mu_insert : MutOk X T "list.insert" mInsert := by
  intro pins s σ H x vs v us Q I rx rv ⟨Hf, a, ws, ds, es, Q', i, ex, h1, h2, r1, r2, kt, q⟩
  unfold mInsert at q
  split at q
  · split at q
    · obtain ⟨y, r, rfl, r3, r4⟩ := repL_cons.mp r2
      obtain ⟨y2, r5, rfl, r6, r7⟩ := repL_cons.mp r4
      rw [repL_nil.mp r7] at rv
      unfold Rep at r3
      subst r3
      exact mt_insert pins s σ H x _ v us Q I rx rv ⟨a, ws, _, y2, ex, rfl, h2, by rw [← r1.length, sizeLine_eq]; exact q.1.1, q.1.2.1, q.1.2.2, kt _ _ (((r1.take _).append (RepL.cons r6 RepL.nil)).append (r1.drop _)) q.2⟩
    · exact q.elim
  · exact q.elim
theorem mu_extend : MutOk X T "list.extend" mExtend := by
  intro pins s σ H x vs v us Q I rx rv ⟨Hf, a, ws, ds, es, Q', i, ex, h1, h2, r1, r2, kt, q⟩
  unfold mExtend at q
  split at q
  · split at q
    · obtain ⟨y, r, rfl, r3, r4⟩ := repL_cons.mp r2
      rw [repL_nil.mp r4] at rv
      unfold Rep at r3
      obtain ⟨b, zs, rfl, g1, g2⟩ := r3
      exact mt_extend pins s σ H x _ v us Q I rx rv ⟨a, b, ws, zs, ex, rfl, h2, i _ _ g1, by rw [← r1.length, ← g2.length, sizeLine_eq]; exact q.1, kt _ _ (r1.append g2) q.2⟩
    · exact q.elim
  · exact q.elim
theorem repL_rev {Hf : Hp} : ∀ {ds : List D} {vs : List V}, RepL T X.K Hf ds vs → RepL T X.K Hf ds.reverse vs.reverse
  | [], vs, h => by rw [repL_nil.mp h]; exact RepL.nil
  | d :: ds, vs, h => by
    obtain ⟨v, r, rfl, h1, h2⟩ := repL_cons.mp h
    rw [List.reverse_cons, List.reverse_cons]
    exact (repL_rev h2).append (RepL.cons h1 RepL.nil)
theorem mu_reverse : MutOk X T "list.reverse" mReverse := by
  intro pins s σ H x vs v us Q I rx rv ⟨Hf, a, ws, ds, es, Q', i, ex, h1, h2, r1, r2, kt, q⟩
  unfold mReverse at q
  split at q
  · rw [repL_nil.mp r2] at rv
    exact mt_reverse pins s σ H x _ v us Q I rx rv ⟨a, ws, ex, rfl, h2, kt _ _ (repL_rev r1) q⟩
  · exact q.elim
def rMut (T : Tab) (K : PySem.W.Frag) (f : MF) : V → List V → Hp → VK → Prop := fun x vs H Qv => ∃ Hf a ws ds es, ∃ Q : List D → Prop, Ex Hf H ∧ x = .ref a ∧ Hf a = none ∧ H a = some (.lst ws) ∧ RepL T K Hf ds ws ∧ RepL T K Hf es vs ∧ (∀ ys ws', RepL T K Hf ys ws' → Q ys → Qv .non (upd H a (.lst ws'))) ∧ f ds es Q
/-- what is there when the arguments have been looked at -/
theorem mut_at {H0 Hf0 Hf H Hf' H' : Hp} {k : Ko} {En : Ends} {σ : L2.St} {δ : Fr} {a : Addr} {xs : List D} {ws : List V} {ds : List D} (s0 : Step Hf0 H0 Hf H) (st : StOk T X.K z H0 Hf H σ δ) (ks : KS T X.K W z H0 Hf0 k En) (ed : δ[i]? = some (some (.own xs))) (ev : σ[i]? = some (some (.ref a)))
    (S : Step Hf H Hf' H') (r : RepL T X.K Hf' ds ws) (q : f xs ds (fun ys => k.nx (δ.set i (some (.own ys))))) : rMut T X.K f (.ref a) ws H' (fun _ H'' => En.nx σ H'') := by
  obtain ⟨v, ev', h⟩ := slot_at (st.step S) ed
  rw [ev] at ev'
  cases ev'
  obtain ⟨b, us, e, h1, h2, h3, h4⟩ := h
  cases e
  exact ⟨Hf', a, us, xs, ds, _, S.i, rfl, h1, h3, h4, r, fun ys ws' r' q' => ks.nx σ _ Hf' _ ((s0.trans S).mutL h1 h2) ((st.step S).mutL ed ev h1 h2 h3 r') q', q⟩
theorem vs_meth (mu : MutOk X T id f) (slot : Slot "list" name id) (hty : typeOf (.builtin id) = pure (.type "method_descriptor")) (ha : VA X T W z ms (e :: es) ar) (hN : X.N[i]? = some x := by rfl) (hv : Vis X.env.scope x := by first | exact Or.inl rfl | exact Or.inr (Or.inl rfl) | exact Or.inr (Or.inr rfl))
    (hm : allF ms = true := by rfl) (hd : (x == ("__debug__" : Str)) = false := by decide) (hcd : (x == ("__classdict__" : Str)) = false := by decide)
    (hbase : attributeBase (.Name x p0) name X.env (eval (.Name x p0) X.env) = eval (.Name x p0) X.env := by rfl)
    (hfew : ((backTo cpos (starEach (e :: es) X.env)).all (fun x => !x.1) && (backToKw cpos (keywordEach [] X.env)).all (fun x => x.1.isSome)
      && decide ((e :: es).length + ([] : List Keyword).length + (if ([] : List Keyword).isEmpty then 0 else 1) < 30)) = true := by rfl)
    (hline : (apos.endLine == cpos.line) = true := by rfl) (hs : starEach (e :: es) X.env = (false, eval e X.env) :: starEach es X.env := by rfl) (hplain : (backTo cpos (starEach es X.env)).any (·.1) = false := by rfl)
    (hsw : swapsWith (.Call (.Attribute (.Name x p0) name apos) (e :: es) [] cpos) none pos.line X.env = pure false := by rfl) : VS X T W z (.Expr (.Call (.Attribute (.Name x p0) name apos) (e :: es) [] cpos) pos) (sMeth i f ar) :=
  PS.imp (ps_expr (pe_bm PySem.F.plainAttrs_list slot hty (r := rMut T X.K f) mu (pe_var hN hv hd hcd) ha hbase hfew hline hs hplain) hsw) fun En σ H ⟨H0, Hf0, Hf, δ, k, s0, st, ks, q⟩ => by
    unfold sMeth at q
    split at q
    · rename_i xs ed
      obtain ⟨v, ev, h⟩ := slot_at st ed
      obtain ⟨a, us, rfl, h1, h2, h3, h4⟩ := h
      refine ⟨.ref a, ev, .inl ⟨rfl, us, SqL.of h3⟩, H0, Hf, δ, _, _, st, ks.xo s0 st, fun vs Hf' H' ds S r hq => ?_, q⟩
      exact mut_at s0 st ks ed ev S (r.rep hm) hq
    · exact q.elim
theorem vs_meth0 (mu : MutOk X T id f) (slot : Slot "list" name id) (hty : typeOf (.builtin id) = pure (.type "method_descriptor")) (hN : X.N[i]? = some x := by rfl) (hv : Vis X.env.scope x := by first | exact Or.inl rfl | exact Or.inr (Or.inl rfl) | exact Or.inr (Or.inr rfl))
    (hd : (x == ("__debug__" : Str)) = false := by decide) (hcd : (x == ("__classdict__" : Str)) = false := by decide)
    (hbase : attributeBase (.Name x p0) name X.env (eval (.Name x p0) X.env) = eval (.Name x p0) X.env := by rfl) (hline : (apos.endLine == cpos.line) = true := by rfl)
    (hsw : swapsWith (.Call (.Attribute (.Name x p0) name apos) [] [] cpos) none pos.line X.env = pure false := by rfl) : VS X T W z (.Expr (.Call (.Attribute (.Name x p0) name apos) [] [] cpos) pos) (sMeth i f aNil) :=
  PS.imp (ps_expr (pe_bm0 PySem.F.plainAttrs_list slot hty (r := rMut T X.K f) mu (pe_var hN hv hd hcd) hbase hline) hsw) fun En σ H ⟨H0, Hf0, Hf, δ, k, s0, st, ks, q⟩ => by
    unfold sMeth at q
    split at q
    · rename_i xs ed
      obtain ⟨v, ev, h⟩ := slot_at st ed
      obtain ⟨a, us, rfl, h1, h2, h3, h4⟩ := h
      refine ⟨.ref a, ev, .inl ⟨rfl, us, SqL.of h3⟩, ?_⟩
      exact mut_at s0 st ks ed ev (Step.refl st.i) RepL.nil q
    · exact q.elim
/-- xs[j] = e -/
theorem vs_setIx {jx : Expr} {tj : EW} {tpos : Pos} (he : VE X T W z e t) (hj : VE X T W z jx tj) (hN : X.N[i]? = some x := by rfl) (hv : Vis X.env.scope x := by first | exact Or.inl rfl | exact Or.inr (Or.inl rfl) | exact Or.inr (Or.inr rfl))
    (hd : (x == ("__debug__" : Str)) = false := by decide) (hcd : (x == ("__classdict__" : Str)) = false := by decide)
    (ha : ∀ v, assign (.Subscript (.Name x p0) jx tpos) X.env v = (do
      let ov ← holding [v] (eval (.Name x p0) X.env)
      let iv ← holding [v, ov] (eval jx X.env)
      standAt tpos
      holding [v, ov, iv] (setItem ov iv v)
      release [v, ov, iv] []) := by intro _; rfl)
    (hs : swapsWithSole [.Subscript (.Name x p0) jx tpos] e pos.line X.env = pure false := by rfl) (hw : swappedStores [.Subscript (.Name x p0) jx tpos] e X.env = pure none := by rfl)
    (h1 : (assignEach [.Subscript (.Name x p0) jx tpos] X.env).map (·.2) = [assign (.Subscript (.Name x p0) jx tpos) X.env] := by rfl) : VS X T W z (.Assign [.Subscript (.Name x p0) jx tpos] e pos) (sSetIx i tj t) :=
  PS.imp (ps_asg he.toD (pg_sub (pe_var hN hv hd hcd) hj.toD set_list ha) hs hw h1) fun En σ H ⟨H0, Hf0, Hf, δ, k, s0, st, ks, q⟩ => by
    unfold sSetIx at q
    split at q
    · rename_i xs ed
      refine ⟨H0, Hf, δ, fun d => tj δ (fun s => match s.d with | .int n => (match ixOf xs.length n with | some j => k.nx (δ.set i (some (.own (xs.set j d)))) | none => False) | _ => False) (fun x => k.xq x δ), _, st, ks.xo s0 st, fun v Hf1 H1 d1 S1 r1 hq => ?_, q⟩
      obtain ⟨u, ev, h⟩ := slot_at (st.step S1) ed
      refine ⟨u, ev, H0, Hf1, δ, fun d => (match d with | .int n => (match ixOf xs.length n with | some j => k.nx (δ.set i (some (.own (xs.set j d1)))) | none => False) | _ => False), _, st.step S1, (ks.xo s0 st).step S1, fun w Hf2 H2 d2 S2 r2 hq => ?_, hq⟩
      cases d2 with
      | int n =>
        simp only [] at hq
        have S12 := S1.trans S2
        obtain ⟨u', ev', h'⟩ := slot_at (st.step S12) ed
        rw [ev] at ev'
        cases ev'
        obtain ⟨a, us, rfl, g1, g2, g3, g4⟩ := h'
        unfold Rep at r2
        subst r2
        cases e5 : ixOf xs.length n with
        | none => rw [e5] at hq; exact hq.elim
        | some j =>
          rw [e5] at hq
          have e6 : ixN us.length n = some j := by rw [← g4.length]; exact e5
          exact ⟨a, us, n, j, rfl, rfl, g3, e6, ks.nx σ _ Hf2 _ ((s0.trans S12).mutL g1 g2) ((st.step S12).mutL ed ev g1 g2 g3 (g4.set j (r1.mono S2.f))) hq⟩
      | _ => exact hq.elim
    · exact q.elim
theorem putF_new {g : Str} {v : V} : ∀ {fs : List (Str × V)}, g ∉ fs.map (·.1) → putF g v fs = fs ++ [(g, v)]
  | [], _ => rfl
  | (k, x) :: r, h => by
    simp only [List.map_cons, List.mem_cons, not_or] at h
    show (if k = g then (k, v) :: r else (k, x) :: putF g v r) = _
    rw [if_neg (Ne.symm h.1), putF_new h.2]
    rfl
/-- self.f = e, self an instance that is being made: its next field -/
theorem vs_fldI {c n : Nat} {fld : Str} (lib : Lib T X.K) (he : VE X T W z e t) (hfl : (T.flds c)[n]? = some fld := by rfl) (hN : X.N[i]? = some x := by rfl) (hv : Vis X.env.scope x := by first | exact Or.inl rfl | exact Or.inr (Or.inl rfl) | exact Or.inr (Or.inr rfl))
    (hd : (x == ("__debug__" : Str)) = false := by decide) (hcd : (x == ("__classdict__" : Str)) = false := by decide) (hs : swapsWith e (some (.Attribute (.Name x p0) fld apos)) pos.line X.env = pure false := by rfl) :
    VS X T W z (.Assign [.Attribute (.Name x p0) fld apos] e pos) (sFldI i c n t) :=
  PS.imp (ps_fld (pe_var hN hv hd hcd) he.toD hs) fun En σ H ⟨H0, Hf0, Hf, δ, k, s0, st, ks, q⟩ => by
    unfold sFldI at q
    split at q
    · rename_i c' xs ed
      obtain ⟨⟨rfl, rfl⟩, q⟩ := q
      refine ⟨H0, Hf, δ, fun d => k.nx (δ.set i (some (.ob c' (xs ++ [d])))), _, st, ks.xo s0 st, fun v Hf' H' d S r hq => ?_, q⟩
      obtain ⟨u, ev, h⟩ := slot_at (st.step S) ed
      obtain ⟨a, dx, fs, rfl, g1, g0, g2, g3, g4⟩ := h
      obtain ⟨⟨hme, h0⟩, g0⟩ := g0
      have st' := st.step S
      have hl : (T.flds c').length < 1000 := lib.nl c' g0
      have hxl : xs.length < (T.flds c').length := (List.getElem?_eq_some_iff.mp hfl).1
      have hfs : fs.length = xs.length := by
        have := congrArg List.length g3
        rw [List.length_map, List.length_take] at this
        omega
      have hnew : fld ∉ fs.map (·.1) := by
        rw [g3]
        intro hm
        obtain ⟨m, hm1, hm2⟩ := List.getElem_of_mem hm
        rw [List.length_take] at hm1
        rw [List.getElem_take] at hm2
        have e1 : (T.flds c')[xs.length] = fld := (List.getElem?_eq_some_iff.mp hfl).2
        have := (List.getElem_inj (lib.nd c' g0)).mp (hm2.trans e1.symm)
        omega
      refine ⟨.ref a, ev, a, T.cls c', dx, fs, rfl, g2, (lib.cl c' g0).cl, lib.na c' g0 _ (List.mem_of_getElem? hfl), by omega, ?_⟩
      rw [putF_new hnew]
      refine ks.nx σ _ Hf' _ ⟨(s0.trans S).f, Ex.mut (s0.trans S).h h0, Ex.mut (s0.trans S).i g1, (s0.trans S).n⟩ (st'.mutO ed ev g1 hme h0 g0 g2 ?_ ?_) hq
      · rw [List.map_append, g3, List.length_append]
        show _ ++ [fld] = List.take (xs.length + 1) _
        rw [List.take_succ, hfl]
        rfl
      · rw [List.map_append]
        exact g4.append (RepL.cons r RepL.nil)
    · exact q.elim
end
end VL
end
section
set_option Elab.async false
set_option linter.all false
set_option maxRecDepth 100000
set_option maxHeartbeats 4000000
/-! VLs14: a def whose body is read keeps its spec. -/
namespace VL
open PySem PySem.Spec PyProof.Rows L2
/-- outside an except clause, outside an __init__ -/
def z0 : Hd := ⟨none, none⟩
/-- in an __init__ of the instance at a -/
def zI (a : Addr) : Hd := ⟨none, some a⟩
theorem slots_at {T : Tab} {K : PySem.W.Frag} {z : Hd} {Hf H : Hp} (i : Ex Hf H) : ∀ {ms : List Bool} {ds : List D} {vs : List V}, ArgsOk T K Hf H ms ds vs → ∀ j : Nat, SlOk T K z H Hf H ((vs.map some)[j]?.join) ((slotsOf ms ds)[j]?.join)
  | [], ds, vs, h, j => by
    obtain ⟨rfl, rfl⟩ := h
    simp [slotsOf, SlOk]
  | m :: ms, ds, vs, h, j => by
    obtain ⟨d, dr, v, vr, rfl, rfl, e3, e4⟩ := h
    cases j with
    | succ j =>
      simp only [slotsOf, List.map_cons, List.getElem?_cons_succ]
      exact slots_at i e4 j
    | zero =>
      simp only [slotsOf, List.map_cons, List.getElem?_cons_zero, Option.join_some]
      cases m with
      | false => exact e3
      | true =>
        simp only [if_true] at e3
        cases d with
        | lst xs =>
          rcases e3 with e3 | ⟨a, vs', ds', e, rfl, e5, e6⟩
          · unfold Rep at e3
            obtain ⟨a, vs', rfl, e5, e6⟩ := e3
            refine ⟨a, vs', rfl, ?_, i _ _ e5, e6⟩
            rw [i _ _ e5]
            simp
          · cases e
            refine ⟨a, vs', rfl, ?_, e5, e6⟩
            rw [e5]
            simp
        | _ =>
          rcases e3 with e3 | ⟨a, vs', ds', e, _⟩
          · exact e3
          · cases e
theorem slots_len : ∀ {ms : List Bool} {ds : List D}, ds.length = ms.length → (slotsOf ms ds).length = ds.length
  | [], [], _ => rfl
  | m :: ms, d :: ds, h => by
    simp only [slotsOf, List.length_cons]
    rw [slots_len (by simpa using h)]
  | [], d :: ds, h => by cases h
  | m :: ms, [], h => by cases h
theorem slots_mine : ∀ {ms : List Bool} {ds : List D} {j : Nat} {s : Sl}, (slotsOf ms ds)[j]? = some (some s) → s.mine = false
  | [], ds, j, s, h => by
    cases ds <;> simp [slotsOf] at h
  | m :: ms, [], j, s, h => by simp [slotsOf] at h
  | m :: ms, d :: ds, j, s, h => by
    cases j with
    | succ j =>
      simp only [slotsOf, List.getElem?_cons_succ] at h
      exact slots_mine h
    | zero =>
      simp only [slotsOf, List.getElem?_cons_zero, Option.some.injEq] at h
      subst h
      unfold slotOf
      split <;> rfl
theorem app_none {α : Type} {l : List (Option α)} {n j : Nat} : ((l ++ List.replicate n none)[j]?).join = (l[j]?).join := by
  by_cases h : j < l.length
  · rw [List.getElem?_append_left h]
  · rw [List.getElem?_append_right (by omega), List.getElem?_eq_none_iff.mpr (by omega : l.length ≤ j)]
    rw [List.getElem?_replicate]
    split <;> rfl
theorem app_some {α : Type} {l : List (Option α)} {n j : Nat} {s : α} (h : (l ++ List.replicate n none)[j]? = some (some s)) : l[j]? = some (some s) := by
  by_cases q : j < l.length
  · rwa [List.getElem?_append_left q] at h
  · rw [List.getElem?_append_right (by omega), List.getElem?_replicate] at h
    split at h <;> cases h
theorem start_ok {T : Tab} {K : PySem.W.Frag} {z : Hd} {Hf H : Hp} {N : List Str} {ms : List Bool} {ds : List D} {vs : List V} (i : Ex Hf H) (h : ArgsOk T K Hf H ms ds vs) : StOk T K z H Hf H (L2.start N vs) (startD N.length ms ds) := by
  have hl := h.len
  refine ⟨i, ?_, fun j => ?_, fun j j' s s' a e1 _ m1 _ _ _ => ?_⟩
  · unfold L2.start startD
    rw [List.length_append, List.length_append, List.length_replicate, List.length_replicate, List.length_map, slots_len (by rw [hl.1]), hl.1, hl.2]
  · unfold L2.start startD
    rw [app_none, app_none]
    exact slots_at i h j
  · have := slots_mine (app_some e1)
    rw [m1] at this
    cases this
section
variable {P : Program} {w : World} {K : PySem.W.Frag} {mg : Str → Option Value} {base : Heap} {T : Tab} {x qual : Str} {params : Arguments} {body : List Stmt} {scope : Scope} {dvs : List V} {kws : List (Str × V)} {f : Addr} {fd : FuncData} {N ps : List Str} {k : Nat} {sp : FS} {ms : List Bool} {t : SW}
/-- THE RULE -/
theorem fnV (F : FunD K x qual params body scope dvs kws f fd) (S : FnScope N ps scope) (hl : ms.length = ps.length)
    (hb : ∀ (cdv : Value) (A : Around) (outer : List Env) (s : Shared) (H : Hp) (E : XK), Room k (A.deeper (envOfC qual scope s.heap.objs.size f cdv)) → VSs (cxOf (L2.CX P w) P w K mg base N qual scope f cdv A outer s H E) T (fun cls d _ H => E cls d H) z0 body t)
    (hs : ∀ ds Q X, ds.length = ms.length → sp ds Q X → runBody t (startD N.length ms ds) Q X) : FnOk P w K mg base (L2.CX P w) (k + 1) f fd ps (SpV T K ms sp) := by
  refine F.ok S (fun vs H Q E ⟨Hf, ds, Q', X', i, ha, _⟩ => by rw [ha.len.2, hl]) fun cdv A outer s H vs Q E hr ⟨Hf, ds, Q', X', i, ha, kt, kx, q⟩ => ⟨_, hb cdv A outer s H E hr, ?_⟩
  refine ⟨H, Hf, Hf, startD N.length ms ds, { nx := fun _ => Q' (.fz .non), rt := Q', xq := fun x _ => X' x }, Step.refl i, start_ok i ha, ⟨?_, ?_, fun _ _ _ _ _ _ h => h.elim, fun _ _ _ _ _ _ h => h.elim, ?_⟩, hs ds Q' X' ha.len.1 q⟩
  · exact fun σ H' Hf' δ S _ q => kt .non Hf' H' (.fz .non) S (by unfold Res Rep; rfl) q
  · exact fun v H' Hf' r S rs q => kt v Hf' H' r S rs q
  · exact fun x cls d σ H' Hf' δ S _ rx q => kx x cls d Hf' H' S rx q
/-- a class's __init__ -/
theorem fnI {c n : Nat} (F : FunD K x qual params body scope dvs kws f fd) (S : FnScope N ps scope) (hl : ms.length + 1 = ps.length) (hc : c < T.n) (hn : (T.flds c).length = n)
    (hb : ∀ (a : Addr) (cdv : Value) (A : Around) (outer : List Env) (s : Shared) (H : Hp) (E : XK), Room k (A.deeper (envOfC qual scope s.heap.objs.size f cdv)) → VSs (cxOf (L2.CX P w) P w K mg base N qual scope f cdv A outer s H E) T (fun cls d _ H => E cls d H) (zI a) body t)
    (hs : ∀ ds Q X, ds.length = ms.length → sp ds Q X → runInit t c n (startI N.length c ms ds) Q X) : FnOk P w K mg base (L2.CX P w) (k + 1) f fd ps (SpI T K c ms sp) := by
  refine F.ok S (fun vs H Q E ⟨Hf, H1, a, dx, ds, vs', Q', X', e, _, _, _, _, _, ha, _⟩ => by rw [e, List.length_cons, ha.len.2, hl]) fun cdv A outer s H vs Q E hr ⟨Hf, H1, a, dx, ds, vs', Q', X', e, h1, h2, h3, eH, i, ha, kt, kx, q⟩ => ⟨_, hb a cdv A outer s H E hr, ?_⟩
  subst e eH
  have x1 : Ex H1 (upd (upd H1 dx (.own a)) a (.ins (T.cls c) dx [])) := (Ex.new h2).trans (Ex.new (by rw [upd_ne (Ne.symm h3)]; exact h1))
  have hfa : Hf a = none := i.fresh h1
  have s0 : Step Hf H1 Hf (upd (upd H1 dx (.own a)) a (.ins (T.cls c) dx [])) := ⟨Ex.refl _, x1, i.trans x1, fun _ h => .inl h⟩
  refine ⟨H1, Hf, Hf, startI N.length c ms ds, { nx := initEnd c n Q', rt := fun _ => False, xq := fun x _ => X' x }, s0, ?_, ⟨?_, fun _ _ _ _ _ _ h => h.elim, fun _ _ _ _ _ _ h => h.elim, fun _ _ _ _ _ _ h => h.elim, ?_⟩, hs ds Q' X' ha.len.1 q⟩
  · have hll := ha.len
    refine ⟨s0.i, ?_, fun j => ?_, fun j j' s s' b e1 e2 m1 m2 e3 e4 => ?_⟩
    · unfold L2.start startI
      rw [List.length_append, List.length_cons, List.length_append, List.length_replicate, List.length_replicate, List.length_map, slots_len (by rw [hll.1]), hll.1, List.length_cons, hll.2]
      omega
    · unfold L2.start startI
      rw [app_none]
      cases j with
      | zero =>
        simp only [List.map_cons, List.getElem?_cons_zero, Option.join_some]
        refine ⟨a, dx, [], rfl, hfa, ⟨⟨rfl, h1⟩, hc⟩, upd_same, by simp, RepL.nil⟩
      | succ j =>
        simp only [List.map_cons, List.getElem?_cons_succ]
        rw [app_none]
        have h := slots_at (z := zI a) i ha j
        cases eo : ((slotsOf ms ds)[j]?).join with
        | none => exact True.intro
        | some s =>
          rw [eo] at h
          have hm : s.mine = false := by
            cases e6 : (slotsOf ms ds)[j]? with
            | none => rw [e6] at eo; cases eo
            | some o =>
              rw [e6] at eo
              cases o with
              | none => cases eo
              | some s' =>
                cases eo
                exact slots_mine e6
          cases ev : ((vs'.map some)[j]?).join with
          | none => rw [ev] at h; exact h.elim
          | some v =>
            rw [ev] at h
            cases s with
            | fz d => exact h
            | own es => cases hm
            | ob c' es => cases hm
            | lent es =>
              obtain ⟨b, ws, rfl, g1, g2, g3⟩ := h
              exact ⟨b, ws, rfl, g1, x1 _ _ g2, g3⟩
            | exc c' es =>
              obtain ⟨b, cls, d, g1, _⟩ := h
              cases g1
    · have only : ∀ {l : Nat} {s3 : Sl}, (startI N.length c ms ds)[l]? = some (some s3) → s3.mine = true → l = 0 := fun {l s3} h hm => by
        cases l with
        | zero => rfl
        | succ l =>
          unfold startI at h
          simp only [List.getElem?_cons_succ] at h
          have := slots_mine (app_some h)
          rw [hm] at this
          cases this
      rw [only e1 m1, only e2 m2]
  · intro σ H' Hf' δ' S st q
    change initEnd c n Q' δ' at q
    unfold initEnd at q
    split at q
    · rename_i c' xs e0
      obtain ⟨⟨rfl, hn'⟩, q⟩ := q
      obtain ⟨v, ev, b, dx', fs, rfl, g1, g0, g2, g3, g4⟩ := slot_at st e0
      have hb : b = a := (Option.some.inj g0.1.1).symm
      subst hb
      -- frozen now
      have x2 : Ex Hf' (upd Hf' b (.ins (T.cls c') dx' fs)) := Ex.new g1
      refine kt (upd Hf' b (.ins (T.cls c') dx' fs)) H' (.fz (.obj c' xs)) ⟨S.f.trans x2, S.h, fun d u e => ?_, fun d hd => ?_⟩ ?_ q
      · by_cases hd : d = b
        · subst hd
          rw [upd_same] at e
          rw [← e]
          exact g2
        · rw [upd_ne hd] at e
          exact S.i d u e
      · by_cases hd' : d = b
        · subst hd'
          exact .inr h1
        · rw [upd_ne hd'] at hd
          exact S.n d hd
      · unfold Res Rep
        refine ⟨b, dx', fs, rfl, g0.2, upd_same, ?_, g4.mono x2⟩
        rw [g3, hn', ← hn, List.take_length]
    · exact q.elim
  · exact fun x cls d σ H' Hf' δ S _ rx q => kx x cls d Hf' H' S rx q
end
end VL
end
section
set_option Elab.async false
set_option linter.all false
set_option maxRecDepth 100000
set_option maxHeartbeats 4000000
/-! VLs15: raise, try, the handled exception. -/
namespace VL
open PySem PySem.Spec PyProof.Rows L2
/-- an own exception class without fields of its own -/
structure RaiseF (T : Tab) (K : PySem.W.Frag) (c : Nat) : Prop where
  ei : PySem.W.excIn K (T.cls c) [.type "ValueError", .type "Exception", .type "BaseException", .type "object"] "ValueError.__new__" = true
  kp : PySem.W.keepIn K (.ref (T.cls c)) = true
  sb : PySem.W.subIn K (.ref (T.cls c)) (.type "BaseException") = some true
  ty : PySem.W.typeIn K (.ref (T.cls c)) = some (.type "type")
  fl : T.flds c = []
/-- one that may be handled -/
structure ExcF (T : Tab) (K : PySem.W.Frag) (c : Nat) : Prop where
  cl : (PySem.W.clsIn K (T.cls c)).isSome = true
  ex : ExcC K (T.cls c)
section
variable {X : Cx} {T : Tab} {W : WX} {z : Hd} {e a b : Expr} {t ta tb : EW} {x n : Str} {pos pos' p0 p1 p2 np : Pos} {es : List Expr} {i j c : Nat} {sb ss : SW} {body suite : List Stmt} {b₀ : Stmt} {ms : List Bool} {ar : AW}
theorem vs_raise {m : Str} {jj : Nat} (R : RaiseF T X.K c) (hc : X.calm = true) (tk : Takes X W) (hg : Gl X x) (hm : X.mg x = some (.ref (T.cls c))) (hdb : (x == ("__debug__" : Str)) = false := by decide) :
    VS X T W z (.Raise (some (.Call (.Name x p0) [.Constant (.str m) jj p1] [] pos)) none pos') (sRaise c aNil) :=
  PS.imp (ps_raise hc tk (pmk_own PySem.F.excBase_ValueError R.ei hm R.kp (raises_own R.sb R.ty) hg hdb)) fun En σ H ⟨H0, Hf0, Hf, δ, k, s0, st, ks, q⟩ =>
    ks.xq ⟨c, []⟩ _ none σ H Hf δ s0 st ⟨rfl, .inl ⟨rfl, R.fl, rfl⟩⟩ q
theorem vs_raiseA (R : RaiseF T X.K c) (hc : X.calm = true) (tk : Takes X W) (hg : Gl X x) (hm : X.mg x = some (.ref (T.cls c))) (ha : VA X T W z ms (e :: es) ar) (hl : ms.length ≤ 16777216 := by decide) (hdb : (x == ("__debug__" : Str)) = false := by decide)
    (he : starEach (e :: es) X.env = (false, eval e X.env) :: starEach es X.env := by rfl) (hpl : (backTo pos (starEach es X.env)).any (·.1) = false := by rfl) :
    VS X T W z (.Raise (some (.Call (.Name x p0) (e :: es) [] pos)) none pos') (sRaise c ar) :=
  PS.imp (ps_raise hc tk (pmk_ownA PySem.F.excBase_ValueError R.ei hm R.kp (raises_own R.sb R.ty) hg ha hdb he hpl)) fun En σ H ⟨H0, Hf0, Hf, δ, k, s0, st, ks, q⟩ =>
    ⟨H0, Hf, δ, _, _, st, ks.xo s0 st, fun vs Hf' H' ds S r hq => ⟨by rw [r.len.2, sizeLine_eq]; exact hl, ks.xq ⟨c, []⟩ _ none σ H' Hf' δ (s0.trans S) (st.step S) ⟨rfl, .inl ⟨rfl, R.fl, rfl⟩⟩ hq⟩, q⟩
/-! ### try -/
theorem StOk.toZ {K : PySem.W.Frag} {me : Option Addr} {o : Option (Addr × Value × Option Addr)} {H0 Hf H : Hp} {σ : L2.St} {δ : Fr} (st : StOk T K ⟨none, me⟩ H0 Hf H σ δ) : StOk T K ⟨o, me⟩ H0 Hf H σ δ :=
  ⟨st.i, st.len, fun j => by
    have h := st.at_ j
    cases e1 : (δ[j]?).join with
    | none => exact True.intro
    | some s =>
      rw [e1] at h
      cases e2 : (σ[j]?).join with
      | none => rw [e2] at h; exact h.elim
      | some v =>
        rw [e2] at h
        cases s with
        | exc c ds =>
          obtain ⟨a, cls, d, e, _⟩ := h
          cases e
        | _ => exact h, st.ne⟩
theorem noExc_at {δ : Fr} (h : noExc δ = true) {j : Nat} {s : Sl} (e : (δ[j]?).join = some s) : ∀ c ds, s ≠ .exc c ds := fun c ds es => by
  subst es
  cases e1 : δ[j]? with
  | none => rw [e1] at e; cases e
  | some o =>
    rw [e1] at e
    cases o with
    | none => cases e
    | some s =>
      cases e
      have := List.all_eq_true.mp h _ (List.mem_of_getElem? e1)
      exact absurd this Bool.false_ne_true
theorem StOk.ofZ {K : PySem.W.Frag} {me : Option Addr} {o : Option (Addr × Value × Option Addr)} {H0 Hf H : Hp} {σ : L2.St} {δ : Fr} (st : StOk T K ⟨o, me⟩ H0 Hf H σ δ) (hn : noExc δ = true) : StOk T K ⟨none, me⟩ H0 Hf H σ δ :=
  ⟨st.i, st.len, fun j => by
    have h := st.at_ j
    cases e1 : (δ[j]?).join with
    | none => exact True.intro
    | some s =>
      rw [e1] at h
      cases e2 : (σ[j]?).join with
      | none => rw [e2] at h; exact h.elim
      | some v =>
        rw [e2] at h
        cases s with
        | exc c ds => exact absurd rfl (noExc_at hn e1 c ds)
        | _ => exact h, st.ne⟩
/-- a name goes -/
theorem StOk.gone {K : PySem.W.Frag} {H0 Hf H : Hp} {σ : L2.St} {δ : Fr} (st : StOk T K z H0 Hf H σ δ) (i : Nat) : StOk T K z H0 Hf H (σ.set i none) (δ.set i none) :=
  ⟨st.i, by rw [List.length_set, List.length_set]; exact st.len, fun j => by
    rw [join_set, join_set, st.len]
    by_cases q : i = j ∧ j < σ.length
    · rw [if_pos q, if_pos q]
      exact True.intro
    · rw [if_neg q, if_neg q]
      exact st.at_ j, fun j j' s s' b e1 e2 m1 m2 e3 e4 => by
    have get : ∀ {l : Nat} {s3 : Sl}, (δ.set i none)[l]? = some (some s3) → δ[l]? = some (some s3) ∧ l ≠ i := fun {l s3} h => by
      by_cases q : i = l
      · subst q
        rw [List.getElem?_set] at h
        simp only [if_true] at h
        split at h <;> cases h
      · rw [List.getElem?_set_ne q] at h
        exact ⟨h, Ne.symm q⟩
    obtain ⟨f1, n1⟩ := get e1
    obtain ⟨f2, n2⟩ := get e2
    rw [List.getElem?_set_ne (Ne.symm n1)] at e3
    rw [List.getElem?_set_ne (Ne.symm n2)] at e4
    exact st.ne j j' s s' b f1 f2 m1 m2 e3 e4⟩
theorem vs_tryAs {me : Option Addr} {cv : Value} {ct : Nat → Option Bool} (hs : X.stack = X.env :: X.outer) (hf : X.env.frame = some X.env.locals) (hN : X.N.Nodup) (hcl : Names X x cv) (tk : Takes X W) (hct : ∀ c b, ct c = some b → PySem.W.exmOne X.K (.ref (T.cls c)) cv = some b)
    (hb : ∀ (W : WX) (pn : List (Addr × Obj)) (xe : Value → Shared → Prop), Takes (X.tr pn xe) W → PassesOwn (model X.prog X.w) X.A X.env xe → VSs (X.tr pn xe) T W ⟨none, me⟩ body sb)
    (hsu : ∀ (a : Addr) (oe : Obj) (cls : Value) (d : Option Addr) (pn : List (Addr × Obj)), Zc cls d oe → (∃ vs, oe.data = .fields vs) → VSs (X.suite a ((a, oe) :: pn)) T (fun _ _ _ _ => False) ⟨some (a, cls, d), me⟩ (b₀ :: suite) ss)
    (hi : X.N[i]? = some n := by rfl) (hln : X.env.kindOf n = some .local := by rfl) :
    VS X T W ⟨none, me⟩ (.Try body [.ExceptHandler (some (.Name x np)) (some n) (b₀ :: suite) pos'] [] [] pos) (sTryAs i ct sb ss) :=
  PS.imp (ps_try_as (tb := fun W => rdS T X.K W ⟨none, me⟩ sb) (ts := fun a cls d => rdS T X.K (fun _ _ _ _ => False) ⟨some (a, cls, d), me⟩ ss) hs hf hN hi hln hcl tk (fun W pn xe tk' po => hb W pn xe tk' po) hsu) fun En σ H ⟨H0, Hf0, Hf, δ, k, s0, st, ks, q⟩ => by
    refine ⟨H0, Hf0, Hf, δ, { k with xq := xAs i ct ss k }, s0, st, ⟨ks.nx, ks.rt, ks.bk, ks.ct, ?_⟩, q⟩
    intro xd cls d σ' H' Hf' δ' S st' rx hq
    obtain ⟨ecls, rx2⟩ := id rx
    change xAs i ct ss k xd δ' at hq
    unfold xAs at hq
    cases e1 : ct xd.c with
    | none => rw [e1] at hq; exact hq.elim
    | some b =>
      rw [e1] at hq
      refine ⟨b, by rw [ecls]; exact hct _ _ e1, fun hbt a ha => ?_, fun hbf => ?_⟩
      · subst hbt
        simp only [if_true] at hq
        refine ⟨H0, Hf0, Hf', δ'.set i (some (.exc xd.c xd.xs)), kSuite i k, S, (st'.toZ).set ⟨a, cls, d, rfl, rfl, rx⟩ (fun e => by cases e), ⟨?_, ks.rt, ?_, ?_, fun _ _ _ _ _ _ _ _ _ _ (h : False) => h.elim⟩, hq⟩
        · exact fun σ2 H2 Hf2 δ2 S2 st2 q2 => ks.nx _ H2 Hf2 _ S2 ((st2.gone i).ofZ q2.1) q2.2
        · exact fun σ2 H2 Hf2 δ2 S2 st2 q2 => ks.bk _ H2 Hf2 _ S2 ((st2.gone i).ofZ q2.1) q2.2
        · exact fun σ2 H2 Hf2 δ2 S2 st2 q2 => ks.ct _ H2 Hf2 _ S2 ((st2.gone i).ofZ q2.1) q2.2
      · subst hbf
        simp only [Bool.false_eq_true, if_false] at hq
        exact ks.xq xd cls d σ' H' Hf' δ' S st' rx hq
theorem vs_try {me : Option Addr} {cv : Value} {ct : Nat → Option Bool} (hs : X.stack = X.env :: X.outer) (hf : X.env.frame = some X.env.locals) (hcl : Names X x cv) (tk : Takes X W) (hct : ∀ c b, ct c = some b → PySem.W.exmOne X.K (.ref (T.cls c)) cv = some b)
    (hb : ∀ (W : WX) (pn : List (Addr × Obj)) (xe : Value → Shared → Prop), Takes (X.tr pn xe) W → PassesOwn (model X.prog X.w) X.A X.env xe → VSs (X.tr pn xe) T W ⟨none, me⟩ body sb)
    (hsu : ∀ (a : Addr) (oe : Obj) (cls : Value) (d : Option Addr) (pn : List (Addr × Obj)), Zc cls d oe → (∃ vs, oe.data = .fields vs) → VSs (X.suite a ((a, oe) :: pn)) T (fun _ _ _ _ => False) ⟨none, me⟩ (b₀ :: suite) ss) :
    VS X T W ⟨none, me⟩ (.Try body [.ExceptHandler (some (.Name x np)) none (b₀ :: suite) pos'] [] [] pos) (sTry ct sb ss) :=
  PS.imp (ps_try_many (tb := fun W => rdS T X.K W ⟨none, me⟩ sb) hs hf tk (fun W pn xe tk' po => hb W pn xe tk' po) (HdsOk.cons (ts := fun a cls d => rdS T X.K (fun _ _ _ _ => False) ⟨none, me⟩ ss) hcl hsu HdsOk.nil)) fun En σ H ⟨H0, Hf0, Hf, δ, k, s0, st, ks, q⟩ => by
    refine ⟨H0, Hf0, Hf, δ, { k with xq := xTry ct ss k }, s0, st, ⟨ks.nx, ks.rt, ks.bk, ks.ct, ?_⟩, q⟩
    intro xd cls d σ' H' Hf' δ' S st' rx hq
    obtain ⟨ecls, rx2⟩ := id rx
    change xTry ct ss k xd δ' at hq
    unfold xTry at hq
    cases e1 : ct xd.c with
    | none => rw [e1] at hq; exact hq.elim
    | some b =>
      rw [e1] at hq
      refine ⟨b, by rw [ecls]; exact hct _ _ e1, fun hbt a ha => ?_, fun hbf => ?_⟩
      · subst hbt
        simp only [if_true] at hq
        exact ⟨H0, Hf0, Hf', δ', kQuiet k, S, st', ⟨ks.nx, ks.rt, ks.bk, ks.ct, fun _ _ _ _ _ _ _ _ _ _ (h : False) => h.elim⟩, hq⟩
      · subst hbf
        simp only [Bool.false_eq_true, if_false] at hq
        exact ks.xq xd cls d σ' H' Hf' δ' S st' rx hq
/-! ### the handled exception -/
/-- the classes that a table speaks of -/
theorem ve_isX {aa : Addr} {oe : Obj} {cls : Value} {d : Option Addr} {pn : List (Addr × Obj)} {me : Option Addr} {W' : WX} {cvV : V} {cv : Value} {sbt : Nat → Option Bool} (hz : Zc cls d oe) (hf : ∃ vs, oe.data = .fields vs) (hcl : ∀ u, RelV cvV u → u = cv)
    (hX : ∀ c b, sbt c = some b → ExcF T X.K c ∧ PySem.W.kitOne X.K (.ref (T.cls c)) cv = some b) (hg : Gl X "isinstance") (hm : X.mg "isinstance" = none) (hn2 : PE (X.suite aa ((aa, oe) :: pn)) (.Name x p1) (tC cvV))
    (hN : X.N[i]? = some n := by rfl) (hv : Vis X.env.scope n := by first | exact Or.inl rfl | exact Or.inr (Or.inl rfl) | exact Or.inr (Or.inr rfl)) (hd : (n == ("__debug__" : Str)) = false := by decide) (hcd : (n == ("__classdict__" : Str)) = false := by decide)
    (hs : starEach [.Name n p2, .Name x p1] X.env = (false, eval (.Name n p2) X.env) :: starEach [.Name x p1] X.env := by rfl) (hpl : (backTo pos (starEach [.Name x p1] X.env)).any (·.1) = false := by rfl) :
    VE (X.suite aa ((aa, oe) :: pn)) T W' ⟨some (aa, cls, d), me⟩ (.Call (.Name "isinstance" p0) [.Name n p2, .Name x p1] [] pos) (wIsX i sbt) := by
  let X' := X.suite aa ((aa, oe) :: pn)
  have main : CallR X' (.builtin "isinstance") (fun xs H Q => ∃ c b, xs = [.ref aa, cvV] ∧ cls = .ref (T.cls c) ∧ sbt c = some b ∧ Q (.bl b) H ∧ ((d = none) ∨ ∃ dd fs, d = some dd ∧ H dd = some (.xd fs))) := by
    intro pins s σ H xs us Q I r ⟨c, b, ex, ec, eb, q, hdd⟩
    subst ex
    obtain ⟨u1, u2, rfl, r1, r2⟩ := vals2 r
    cases r1
    have ec2 := hcl _ r2
    subst ec2
    obtain ⟨EF, hk⟩ := hX c b eb
    obtain ⟨hget, _⟩ := I.pin (aa, oe) (List.mem_append.mpr (.inl List.mem_cons_self))
    obtain ⟨vs, hv⟩ := hf
    have J : ∃ od, PySem.W.InstAt s.heap aa oe (T.cls c) od := by
      obtain ⟨oc, od, oda, osl⟩ := oe
      obtain ⟨h1, h2⟩ := hz
      dsimp only at h1 h2 hv
      subst h1 hv
      rcases hdd with e | ⟨dd, fs, e, hdd⟩
      · subst e h2
        exact ⟨none, hget, ec, rfl, trivial⟩
      · subst e h2
        obtain ⟨mA, hns, hr⟩ := (show ObjOk X.prog X.w H s.heap dd (.xd fs) from I.hok dd _ hdd)
        obtain ⟨od, ho, _⟩ := lookIn_ns hns
        exact ⟨some od, hget, ec, rfl, ho⟩
    obtain ⟨od, J⟩ := J
    exact PySem.W.kia_one (PySem.W.kitx_exc EF.cl EF.ex.hg EF.ex.hk EF.ex.hs EF.ex.ha EF.ex.hn EF.ex.ht EF.ex.hm) I.kIn J hk (fun z => nomatch z) fun tk => ⟨.bl b, H, I.kept (t' := tk) fun _ _ z => z, rfl, q⟩
  have hpe : PE X' (.Name n p2) (tVar i) := pe_var (X := X') hN hv hd hcd
  refine PE.imp (pe_callB (X := X') main hg hm PyProof.Rows.boot_isinstance (pa_cons (X := X') hpe (pa_cons (X := X') hn2 pa_nil) hs) (by decide) (by decide) hs hpl) fun σ H Qv ⟨H0, Hf, δ, Q, Xq, st, xo, kt, q⟩ => ?_
  unfold wIsX at q
  split at q
  · rename_i c xs ed
    obtain ⟨v, ev, a', cls', d', e1, rfl, rx⟩ := slot_at st ed
    cases e1
    obtain ⟨ec, hdd⟩ := rx
    cases eb : sbt c with
    | none => rw [eb] at q; exact q.elim
    | some b =>
      rw [eb] at q
      refine ⟨_, ev, c, b, rfl, ec, eb, kt _ Hf H (.fz (.bl b)) (Step.refl st.i) (by unfold Res Rep; rfl) q, ?_⟩
      rcases hdd with ⟨e, _⟩ | ⟨dd, fs, vs, e, h1, _⟩
      · exact .inl e
      · exact .inr ⟨dd, fs, e, st.i _ _ h1⟩
  · exact q.elim
end
end VL
end
section
set_option Elab.async false
set_option linter.all false
set_option maxRecDepth 100000
set_option maxHeartbeats 4000000
/-! VLhk: what the head tells of classes and defs. -/
namespace VL
open PySem PySem.Spec PyProof.Rows L2 He
/-- a def: where it stands, its name, qualified name, parameters, body, scope, defaults -/
structure DV where
  ad : PySem.W.Frag → Addr
  name : Str
  qual : Str
  params : Arguments
  body : List Stmt
  scope : Scope
  dfl : List Dv := []
def fnA (K : PySem.W.Frag) (a : Addr) : FnW := match K.lookup a with
  | some ⟨_, _, .func fd, _⟩ => some (fd.name, fd.qualname, fd.params, fd.body, fd.scope, fd.globals, fd.closure, fd.builtins)
  | _ => none
def DV.val (d : DV) : FnW := some (d.name, d.qual, d.params, .stmts d.body, d.scope, mainGlobals, [], builtinsNs)
def DV.dvs (K : PySem.W.Frag) (d : DV) : List V := d.dfl.map (Dv.v K)
def DV.ok (K : PySem.W.Frag) (d : DV) : Bool := PySem.W.keepIn K (.ref (d.ad K)) && (match K.lookup (d.ad K) with
  | some ⟨_, _, .func fd, _⟩ => PySem.W.codeIn K fd.code d.qual && dflB K fd.defaults (d.dvs K)
  | _ => false)
theorem DV.funD {K : PySem.W.Frag} {d : DV} (e : fnA K (d.ad K) = d.val) (c : d.ok K = true) : ∃ fd, FunD K d.name d.qual d.params d.body d.scope (d.dvs K) [] (d.ad K) fd := by
  obtain ⟨kp, c2⟩ := ba c
  unfold fnA at e
  cases q : K.lookup (d.ad K) with
  | none =>
    rw [q] at c2
    cases c2
  | some o =>
    obtain ⟨oc, od, dt, osl⟩ := o
    rw [q] at c2 e
    cases dt with
    | func fd =>
      obtain ⟨n1, n2, n3, n4, n5, n6, n7, n8, n9, n10, n11, n12, n13, n14, n15⟩ := fd
      have e2 : (some (n1, n2, n3, n4, n5, n6, n7, n15) : FnW) = some (d.name, d.qual, d.params, .stmts d.body, d.scope, mainGlobals, [], builtinsNs) := e
      simp only [Option.some.injEq, Prod.mk.injEq] at e2
      obtain ⟨h1, h2, h3, h4, h5, h6, h7, h8⟩ := e2
      subst h1 h2 h3 h4 h5 h6 h7 h8
      obtain ⟨k1, k2⟩ := ba (show (PySem.W.codeIn K n13 d.qual && dflB K n8 (d.dvs K)) = true from c2)
      exact ⟨_, ⟨oc, od, n8, n9, n10, n11, n12, n13, n14, osl, rfl, q, k1, dflB_ok k2, .inl rfl⟩, kp⟩
    | _ => cases c2
/-! ### the Hook -/
abbrev AlV : Type := Bool × List FnW
def obsV (ck : PySem.W.Frag → Bool) (fn : List DV) (K : PySem.W.Frag) : AlV := (ck K && fn.all fun d => d.ok K, fn.map fun d => fnA K (d.ad K))
def valV (fn : List DV) : AlV := (true, fn.map DV.val)
def SaysV (ck : PySem.W.Frag → Bool) (fn : List DV) (K : PySem.W.Frag) : Prop := obsV ck fn K = valV fn
def obsVG (n : Nat) (ck : PySem.W.Frag → Bool) (fn : List DV) (g : Addr → Option Obj) : AlV := obsV ck fn (frG g (asD g n))
def hookV (n : Nat) (ck : PySem.W.Frag → Bool) (fn : List DV) : PySem.W.Hook where
  α := AlV
  obs := fun s => obsVG n ck fn s.heap.get?
  val := fun _ => valV fn
  says := fun _ h => ∃ K : PySem.W.Frag, K.In h ∧ SaysV ck fn K
  of := fun _ _ e => ⟨_, frG_in, e⟩
  keeps := fun _ _ _ ⟨K, hK, c⟩ k => ⟨K, PySem.W.Frag.In.keeps hK k, c⟩
theorem obsVG_eq {n : Nat} {ck : PySem.W.Frag → Bool} {fn : List DV} {g : Addr → Option Obj} {s : Shared} (h : ∀ a, g a = s.heap.get? a) : obsVG n ck fn g = (hookV n ck fn).obs s := by
  have e : g = s.heap.get? := funext h
  rw [e] <;> rfl
section
variable {ck : PySem.W.Frag → Bool} {fn : List DV} {K : PySem.W.Frag}
theorem SaysV.chk (c : SaysV ck fn K) : ck K = true := (ba (show (ck K && fn.all fun d => d.ok K) = true from congrArg (fun z : AlV => z.1) c)).1
theorem SaysV.def_ (c : SaysV ck fn K) (i : Nat) {d : DV} (h : fn[i]? = some d := by rfl) : ∃ fd, FunD K d.name d.qual d.params d.body d.scope (d.dvs K) [] (d.ad K) fd := by
  have c2 := (ba (show (ck K && fn.all fun d => d.ok K) = true from congrArg (fun z : AlV => z.1) c)).2
  have e : fn.map (fun d => fnA K (d.ad K)) = fn.map DV.val := congrArg (fun z : AlV => z.2) c
  have e2 : (fn.map fun d => fnA K (d.ad K))[i]? = (fn.map DV.val)[i]? := by rw [e]
  rw [List.getElem?_map, List.getElem?_map, h] at e2
  exact DV.funD (Option.some.inj e2) (List.all_eq_true.mp c2 d (List.mem_of_getElem? h))
end
/-! ### addresses -/
/-- a property's getter -/
def pga (K : PySem.W.Frag) (p : Addr) : Addr := match PySem.W.recIn K p "property" with
  | some (.ref g :: _) => g
  | _ => 0
/-- the classes: the instances' first -/
def tabOf (cs : List (Str × List Str)) (n : Nat) (K : PySem.W.Frag) : Tab where
  n := n
  cls := fun c => match cs[c]? with
    | some p => ga K p.1
    | none => 0
  flds := fun c => match cs[c]? with
    | some p => p.2
    | none => []
/-! ### checks -/
def clsFB (K : PySem.W.Frag) (C : Addr) : Bool :=
  (PySem.W.plainGet K C Str.empty && (PySem.W.hasDictIn K C && (PySem.W.plainOver K C && eqO (PySem.W.findIn K (.ref C) "__setattr__") (some (some (.builtin "object.__setattr__")))))) &&
  ((PySem.W.selfFirst K C && (tyNames.all (fun t => decide (PySem.W.subIn K (.type t) (.ref C) = some false)) && decide (PySem.W.subIn K (.ref C) (.type "int") = some false))) &&
  ((eqO (PySem.W.findIn K (.ref C) "__ne__") (some (some (.builtin "object.__ne__"))) && (eqO (PySem.W.findIn K (.ref C) "__class__") (some (some (.builtin "object.__class__"))) && eqO (PySem.W.specialIn K (.builtin "object.__class__") "__get__") (some (some (.builtin "getset_descriptor.__get__"))))) &&
  ((decide (PySem.W.takesIn K (.builtin "object.__class__") = some true) && decide (PySem.W.mroIn K C (.type "object") = some true)) &&
  ((opNames.all (fun nm => match PySem.W.findIn K (.ref C) (dunderR nm) with
    | some none => true
    | some (some (.ref _)) => true
    | _ => false) && (tyNames.all (fun t => decide (PySem.W.kitOne K (.ref C) (.type t) = some false)) && tyNames.all (fun t => decide (PySem.W.kitOne K (.type t) (.ref C) = some false)))) &&
  opNames.all (fun nm => match PySem.W.clsIn K C with
    | some cd => cd.mro.all fun c => eqO (PySem.W.findIn K c (dunderI nm)) (some none)
    | none => false)))))
theorem clsFB_ok {K : PySem.W.Frag} {C : Addr} (h : clsFB K C = true) : ClsF K C := by
  unfold clsFB at h
  obtain ⟨h1, h⟩ := ba h
  obtain ⟨a1, h1⟩ := ba h1
  obtain ⟨a2, h1⟩ := ba h1
  obtain ⟨a3, a4⟩ := ba h1
  obtain ⟨h2, h⟩ := ba h
  obtain ⟨b1, h2⟩ := ba h2
  obtain ⟨b2, b3⟩ := ba h2
  obtain ⟨h3, h⟩ := ba h
  obtain ⟨c1, h3⟩ := ba h3
  obtain ⟨c2, c3⟩ := ba h3
  obtain ⟨h4, h⟩ := ba h
  obtain ⟨d1, d2⟩ := ba h4
  obtain ⟨h5, h6⟩ := ba h
  obtain ⟨e1, h5⟩ := ba h5
  obtain ⟨e2, e3⟩ := ba h5
  refine ⟨⟨a1, a2, a3, eqO_ok a4⟩, b1, fun t ht => of_decide_eq_true (List.all_eq_true.mp b2 t ht), of_decide_eq_true b3, eqO_ok c1, eqO_ok c2, eqO_ok c3, of_decide_eq_true d1, of_decide_eq_true d2, fun nm hn => ?_, fun t ht => of_decide_eq_true (List.all_eq_true.mp e2 t ht), fun t ht => of_decide_eq_true (List.all_eq_true.mp e3 t ht), fun nm hn => ?_⟩
  · have := List.all_eq_true.mp e1 nm hn
    cases e : PySem.W.findIn K (.ref C) (dunderR nm) with
    | none => rw [e] at this; cases this
    | some r =>
      cases r with
      | none => exact ⟨none, rfl, .inl rfl⟩
      | some v =>
        cases v with
        | ref g => exact ⟨_, rfl, .inr ⟨g, rfl⟩⟩
        | _ => rw [e] at this; cases this
  · have := List.all_eq_true.mp h6 nm hn
    cases e : PySem.W.clsIn K C with
    | none => rw [e] at this; cases this
    | some cd =>
      rw [e] at this
      exact ⟨cd, rfl, fun c hc => eqO_ok (List.all_eq_true.mp this c hc)⟩
def libB (T : Tab) (K : PySem.W.Frag) : Bool := (List.range T.n).all fun c => clsFB K (T.cls c) && (((List.range T.n).all fun c' => (decide (c = c') || (decide (PySem.W.subIn K (.ref (T.cls c')) (.ref (T.cls c)) = some false) && decide (T.cls c ≠ T.cls c'))) &&
  decide (PySem.W.kitOne K (.ref (T.cls c)) (.ref (T.cls c')) = some (c == c'))) && (decide (T.flds c).Nodup && ((T.flds c).all (fun f => eqO (PySem.W.findIn K (.ref (T.cls c)) f) (some none)) && decide ((T.flds c).length < 1000))))
theorem libB_ok {T : Tab} {K : PySem.W.Frag} (h : libB T K = true) : Lib T K := by
  have at_ : ∀ c, c < T.n → _ := fun c hc => ba (List.all_eq_true.mp h c (List.mem_range.mpr hc))
  have pr : ∀ c c', c < T.n → c' < T.n → _ := fun c c' hc hc' => ba (List.all_eq_true.mp (ba (at_ c hc).2).1 c' (List.mem_range.mpr hc'))
  refine ⟨fun c hc => clsFB_ok (at_ c hc).1, fun c c' hc hc' hn => ?_, fun c c' hc hc' he => ?_, fun c c' hc hc' => of_decide_eq_true (pr c c' hc hc').2, fun c hc => of_decide_eq_true (ba (ba (at_ c hc).2).2).1, fun c hc f hf => eqO_ok (List.all_eq_true.mp (ba (ba (ba (at_ c hc).2).2).2).1 f hf), fun c hc => of_decide_eq_true (ba (ba (ba (at_ c hc).2).2).2).2⟩
  · rcases Bool.or_eq_true_iff.mp (pr c c' hc hc').1 with e | e
    · exact absurd (of_decide_eq_true e) hn
    · exact of_decide_eq_true (ba e).1
  · rcases Bool.or_eq_true_iff.mp (pr c c' hc hc').1 with e | e
    · exact of_decide_eq_true e
    · exact absurd he (of_decide_eq_true (ba e).2)
def raiseB (T : Tab) (K : PySem.W.Frag) (c : Nat) : Bool := PySem.W.excIn K (T.cls c) veBase "ValueError.__new__" && (PySem.W.keepIn K (.ref (T.cls c)) && (decide (PySem.W.subIn K (.ref (T.cls c)) (.type "BaseException") = some true) && (decide (PySem.W.typeIn K (.ref (T.cls c)) = some (.type "type")) && (T.flds c).isEmpty)))
theorem raiseB_ok {T : Tab} {K : PySem.W.Frag} {c : Nat} (h : raiseB T K c = true) : RaiseF T K c := by
  obtain ⟨h1, h⟩ := ba h
  obtain ⟨h2, h⟩ := ba h
  obtain ⟨h3, h⟩ := ba h
  obtain ⟨h4, h5⟩ := ba h
  exact ⟨h1, h2, of_decide_eq_true h3, of_decide_eq_true h4, List.isEmpty_iff.mp h5⟩
def excFB (T : Tab) (K : PySem.W.Frag) (c : Nat) : Bool := (PySem.W.clsIn K (T.cls c)).isSome && (eqO (PySem.W.findIn K (.ref (T.cls c)) "__getattribute__") (some (some (.builtin "BaseException.__getattribute__"))) && (eqO (PySem.W.findIn K (.ref (T.cls c)) "__getattr__") (some none) && (decide (PySem.W.subIn K (.ref (T.cls c)) (.type "BaseException") = some true) &&
  (PySem.W.hasDictIn K (T.cls c) && (eqO (PySem.W.findIn K (.ref (T.cls c)) "__class__") (some (some (.builtin "object.__class__"))) && (eqO (PySem.W.specialIn K (.builtin "object.__class__") "__get__") (some (some (.builtin "getset_descriptor.__get__"))) && (decide (PySem.W.takesIn K (.builtin "object.__class__") = some true) && decide (PySem.W.mroIn K (T.cls c) (.type "object") = some true))))))))
theorem excFB_ok {T : Tab} {K : PySem.W.Frag} {c : Nat} (h : excFB T K c = true) : ExcF T K c := by
  obtain ⟨h0, h⟩ := ba h
  obtain ⟨h1, h⟩ := ba h
  obtain ⟨h2, h⟩ := ba h
  obtain ⟨h3, h⟩ := ba h
  obtain ⟨h4, h⟩ := ba h
  obtain ⟨h5, h⟩ := ba h
  obtain ⟨h6, h⟩ := ba h
  obtain ⟨h7, h8⟩ := ba h
  exact ⟨h0, eqO_ok h1, eqO_ok h2, of_decide_eq_true h3, h4, eqO_ok h5, eqO_ok h6, of_decide_eq_true h7, of_decide_eq_true h8⟩
/-- a table of the classes 0 .. m - 1 -/
def exmB (T : Tab) (K : PySem.W.Frag) (m : Nat) (ct : Nat → Option Bool) (cv : Value) : Bool := (List.range m).all fun c => match ct c with
  | some b => decide (PySem.W.exmOne K (.ref (T.cls c)) cv = some b)
  | none => true
theorem exmB_ok {T : Tab} {K : PySem.W.Frag} {m : Nat} {ct : Nat → Option Bool} {cv : Value} (h : exmB T K m ct cv = true) (hm : ∀ c b, ct c = some b → c < m) (c : Nat) (b : Bool) (e : ct c = some b) : PySem.W.exmOne K (.ref (T.cls c)) cv = some b := by
  have := List.all_eq_true.mp h c (List.mem_range.mpr (hm c b e))
  rw [e] at this
  exact of_decide_eq_true this
def isxB (T : Tab) (K : PySem.W.Frag) (m : Nat) (ct : Nat → Option Bool) (cv : Value) : Bool := (List.range m).all fun c => match ct c with
  | some b => excFB T K c && decide (PySem.W.kitOne K (.ref (T.cls c)) cv = some b)
  | none => true
theorem isxB_ok {T : Tab} {K : PySem.W.Frag} {m : Nat} {ct : Nat → Option Bool} {cv : Value} (h : isxB T K m ct cv = true) (hm : ∀ c b, ct c = some b → c < m) (c : Nat) (b : Bool) (e : ct c = some b) : ExcF T K c ∧ PySem.W.kitOne K (.ref (T.cls c)) cv = some b := by
  have := List.all_eq_true.mp h c (List.mem_range.mpr (hm c b e))
  rw [e] at this
  obtain ⟨h1, h2⟩ := ba this
  exact ⟨excFB_ok h1, of_decide_eq_true h2⟩
/-- an int constant of a class -/
def conB (T : Tab) (K : PySem.W.Frag) (f : Str) (c : Nat) (i : Int) : Bool := (match PySem.W.findIn K (.ref (T.cls c)) f with
  | some (some (.int j _)) => decide (j = i)
  | _ => false) && (!PySem.W.copiedNames.contains f && decide (f ∉ T.flds c))
theorem special_int {K : PySem.W.Frag} {j : Int} {t t' : Tok} : PySem.W.specialIn K (.int j t) "__get__" = PySem.W.specialIn K (.int j t') "__get__" := rfl
def conGet (K : PySem.W.Frag) : Bool := eqO (PySem.W.specialIn K (.int 0 0) "__get__") (some none)
theorem conB_ok {T : Tab} {K : PySem.W.Frag} {f : Str} {c : Nat} {i : Int} (g : conGet K = true) (h : conB T K f c i = true) : ConF T K f (c, .int i) := by
  obtain ⟨h1, h⟩ := ba h
  obtain ⟨h2, h3⟩ := ba h
  cases e : PySem.W.findIn K (.ref (T.cls c)) f with
  | none => rw [e] at h1; cases h1
  | some r =>
    cases r with
    | none => rw [e] at h1; cases h1
    | some v =>
      cases v with
      | int j t =>
        rw [e] at h1
        have ej : j = i := of_decide_eq_true h1
        subst ej
        exact ⟨⟨.int j, .int j t, ⟨e, ⟨t, rfl⟩, (show PySem.W.specialIn K (.int j t) "__get__" = some none from eqO_ok g), Bool.not_eq_true' _ |>.mp h2⟩, fun Hf => by unfold Rep; rfl⟩, of_decide_eq_true h3⟩
      | _ => rw [e] at h1; cases h1
def methB (T : Tab) (K : PySem.W.Frag) (c : Nat) (m : Str) : Bool := (eqO (PySem.W.findIn K (.ref (T.cls c)) m) (some (some (.ref (ma K (T.cls c) m)))) && (PySem.W.isFn K (.ref (ma K (T.cls c) m)) && PySem.W.keepIn K (.ref (ma K (T.cls c) m)))) && decide (m ∉ T.flds c)
theorem methB_ok {T : Tab} {K : PySem.W.Frag} {c : Nat} {m : Str} (h : methB T K c m = true) : MethF T K c m (ma K (T.cls c) m) := by
  obtain ⟨h1, h4⟩ := ba h
  obtain ⟨h1, h2⟩ := ba h1
  obtain ⟨h2, h3⟩ := ba h2
  exact ⟨⟨eqO_ok h1, h2, h3⟩, of_decide_eq_true h4⟩
def propB (K : PySem.W.Frag) (C : Addr) (f : Str) : Bool := eqO (PySem.W.findIn K (.ref C) f) (some (some (.ref (ma K C f)))) && (eqO (PySem.W.specialIn K (.ref (ma K C f)) "__get__") (some (some (.builtin "property.__get__"))) && (decide (PySem.W.takesIn K (.ref (ma K C f)) = some true) && (match PySem.W.recIn K (ma K C f) "property" with
  | some (.ref g :: _) => true
  | _ => false)))
theorem propB_ok {K : PySem.W.Frag} {C : Addr} {f : Str} (h : propB K C f = true) : PropOf K C f (ma K C f) (pga K (ma K C f)) := by
  obtain ⟨h1, h⟩ := ba h
  obtain ⟨h2, h⟩ := ba h
  obtain ⟨h3, h4⟩ := ba h
  refine ⟨eqO_ok h1, eqO_ok h2, of_decide_eq_true h3, ?_⟩
  unfold pga
  cases e : PySem.W.recIn K (ma K C f) "property" with
  | none => rw [e] at h4; cases h4
  | some l =>
    cases l with
    | nil => rw [e] at h4; cases h4
    | cons v r =>
      cases v with
      | ref g => exact ⟨r, rfl⟩
      | _ => rw [e] at h4; cases h4
end VL
end
section
set_option Elab.async false
set_option linter.all false
set_option maxRecDepth 100000
set_option maxHeartbeats 4000000
/-! VLasm: defs put together. -/
namespace VL
open PySem PySem.Spec PyProof.Rows L2 He
theorem chk_at {l : List Bool} (h : l.all id = true) (i : Nat) {b : Bool} (e : l[i]? = some b := by rfl) : b = true := List.all_eq_true.mp h b (List.mem_of_getElem? e)
section
variable {P : Program} {w : World} {K : PySem.W.Frag} {mg : Str → Option Value} {base : Heap} {T : Tab} {x qual : Str} {params : Arguments} {body : List Stmt} {scope : Scope} {dvs : List V} {kws : List (Str × V)} {f : Addr} {fd : FuncData} {N ps : List Str} {k : Nat} {sp : FS} {ms ms' : List Bool} {c : Nat} {dv : List D}
theorem mkFn0 (F : FunD K x qual params body scope [] [] f fd) (G : FnOk P w K mg base (L2.CX P w) k f fd ps (SpV T K ms sp))
    (h : ∀ (kV doc pm : Value) (an : Option Addr) (cdv ct : Value) (us : List Value), us.length = ps.length → bindArgs (PySem.W.fnOf x qual params body scope .none kV doc pm an cdv ct) ⟨us, []⟩ = pure (ps.zip us)) : FnV P w K mg base T k f ms [] sp :=
  ⟨⟨fd, ps, [], [], by rw [List.length_nil, List.replicate_zero, List.append_nil]; exact G, F.bindsN h, .nil, fun _ => RepL.nil⟩, F.kp⟩
theorem mkFnD (F : FunD K x qual params body scope dvs [] f fd) (G : FnOk P w K mg base (L2.CX P w) k f fd ps (SpV T K ms sp)) (n j : Nat) (hd : dvs ≠ []) (hn : n + (dvs.length - j) = ps.length)
    (h : ∀ (T : Addr) (kV doc pm : Value) (an : Option Addr) (cdv ct : Value) (us its : List Value), us.length = n → its.length = dvs.length →
      ∃ k, bindArgs (PySem.W.fnOf x qual params body scope (.ref T) kV doc pm an cdv ct) ⟨us, []⟩ = seqItems? (.ref T) >>= k ∧ k (some its.toArray) = pure (ps.zip (us ++ its.drop j)))
    (hm : ms = ms' ++ List.replicate dv.length false) (hr : ∀ H, RepL T K H dv (dvs.drop j)) : FnV P w K mg base T k f ms' dv sp := by
  obtain ⟨ds, h1, h2⟩ := F.binds1 n j hd hn h
  exact ⟨⟨fd, ps, ds, _, hm ▸ G, h2, h1, hr⟩, F.kp⟩
theorem mkMk0 (hlt : c < T.n) (M : Mk K (T.cls c) f) (F : FunD K x qual params body scope [] [] f fd) (G : FnOk P w K mg base (L2.CX P w) k f fd ps (SpI T K c ms sp))
    (h : ∀ (kV doc pm : Value) (an : Option Addr) (cdv ct : Value) (us : List Value), us.length = ps.length → bindArgs (PySem.W.fnOf x qual params body scope .none kV doc pm an cdv ct) ⟨us, []⟩ = pure (ps.zip us)) : MkV P w K mg base T k c ms [] sp :=
  ⟨⟨f, fd, ps, [], [], M, by rw [List.length_nil, List.replicate_zero, List.append_nil]; exact G, F.bindsN h, .nil, fun _ => RepL.nil⟩, hlt, M.kp⟩
theorem mkMkD (hlt : c < T.n) (M : Mk K (T.cls c) f) (F : FunD K x qual params body scope dvs [] f fd) (G : FnOk P w K mg base (L2.CX P w) k f fd ps (SpI T K c ms sp)) (n j : Nat) (hd : dvs ≠ []) (hn : n + (dvs.length - j) = ps.length)
    (h : ∀ (T : Addr) (kV doc pm : Value) (an : Option Addr) (cdv ct : Value) (us its : List Value), us.length = n → its.length = dvs.length →
      ∃ k, bindArgs (PySem.W.fnOf x qual params body scope (.ref T) kV doc pm an cdv ct) ⟨us, []⟩ = seqItems? (.ref T) >>= k ∧ k (some its.toArray) = pure (ps.zip (us ++ its.drop j)))
    (hm : ms = ms' ++ List.replicate dv.length false) (hr : ∀ H, RepL T K H dv (dvs.drop j)) : MkV P w K mg base T k c ms' dv sp := by
  obtain ⟨ds, h1, h2⟩ := F.binds1 n j hd hn h
  exact ⟨⟨f, fd, ps, ds, _, M, hm ▸ G, h2, h1, hr⟩, hlt, M.kp⟩
theorem MkV.mono {j : Nat} (F : MkV P w K mg base T j c ms dv sp) (h : j ≤ k) : MkV P w K mg base T k c ms dv sp := by
  obtain ⟨⟨f, fd, ps, ds, dvs, M, h1, h2⟩, h3, h4⟩ := F
  exact ⟨⟨f, fd, ps, ds, dvs, M, h1.mono h, h2⟩, h3, h4⟩
theorem DnOk.mk' {m : Dn} (M : MethF T K c m.nm f) (F : FnV P w K mg base T k f m.ms [] sp) : DnOk P w K mg base T k c m m.ms sp := ⟨⟨f, M.me.at_, M.me.fn, F⟩⟩
theorem DnOk.mono {m : Dn} {j : Nat} (F : DnOk P w K mg base T j c m ms sp) (h : j ≤ k) : DnOk P w K mg base T k c m ms sp := by
  obtain ⟨f, h1, h2, h3⟩ := F.ex
  exact ⟨⟨f, h1, h2, h3.mono h⟩⟩
theorem FunD.same {x' qual' : Str} {params' : Arguments} {body' : List Stmt} {scope' : Scope} {dvs' : List V} {kws' : List (Str × V)} {fd' : FuncData} (F : FunD K x qual params body scope dvs kws f fd) (F' : FunD K x' qual' params' body' scope' dvs' kws' f fd') : fd = fd' := by
  obtain ⟨_, _, _, _, _, _, _, _, _, _, _, h1, _⟩ := F.ex
  obtain ⟨_, _, _, _, _, _, _, _, _, _, _, h2, _⟩ := F'.ex
  rw [h1] at h2
  injection h2 with h2
  injection h2 with _ _ h2
  injection h2
end
/-- the law's end -/
theorem walk_V {l : PySem.W.OpenLaw} {k : Nat} {q : Program} {loose : List Str} {XP : (Str → Option Value) → Heap → Prop} {YP : World → Heap → Prop} {d : DefRec} (hn : l.most = some 63) (hdf : d.params.defaults = []) (hr : Room k callerA)
    (F : ∀ (w : World) (mg : Str → Option Value) (fa : Addr) (h : Heap), YP w h → h.Ns mainGlobals mg → mg d.name = some (.ref fa) → ∃ (K : PySem.W.Frag) (fd : FuncData) (T : Tab) (sp : FS), K.In h ∧ (∀ (s : Shared) (u : Value), BindsTo s fd ⟨[u], []⟩ [("script", u)]) ∧
      (∀ ns : List Int, ns.length ≤ 63 → (∀ z ∈ ns, Builtin.Int.intBits z ≤ 1048576) → sp [.scr ns] (fun r => r = .fz (.bl true)) fun _ => False) ∧ ∀ base : Heap, K.In base → base.Ns mainGlobals mg → FnOk l.prog w K mg base (L2.CX l.prog w) k fa fd ["script"] (SpV T K [false] sp)) :
    PySem.W.WalkO q loose XP YP l.row.toRowW d [] (fun f vs => PySem.call f vs) := by
  refine Att.attach_callB hn hdf fun w s₀ s₁ mg mb fa o pm cd doc a vs ns G Y ho hd hcd hmg hobj hints hlen hbits hg => ?_
  obtain ⟨K, fd, T, sp, KX, hb, hsp, hF⟩ := F w mg fa _ Y G.T.g hmg
  refine law_call KX G.T.g G.T.b G.T.builtins G.T.nolimit hg hobj hints (Nat.le_trans hlen (by decide)) hr hF hb (fun H _ hS => ?_) fun H e s' hc => ?_
  · refine ⟨H, [.scr ns], fun r => r = .fz (.bl true), fun _ => False, Ex.refl H, ⟨_, _, _, _, rfl, rfl, ?_, rfl, rfl⟩, fun v Hf' H' r S rs q => ?_, fun _ _ _ _ _ _ _ hx => hx.elim, hsp ns hlen hbits⟩
    · show Rep T K H (.scr ns) (.ref a)
      unfold Rep
      exact ⟨a, rfl, hS⟩
    · subst q
      unfold Res Rep at rs
      exact rs
  · obtain ⟨_, _, _, _, _, _, _, _, _, _, _, _, hc⟩ := hc
    exact hc
end VL
end
section
set_option linter.all false
/-! VLsim: the readings, unfolded step by step. -/
namespace VL
open PySem
section
variable {k : Ko} {δ : Fr} {Q : QR} {Qd : D → Prop} {Qb : Bool → Prop} {Qs : List D → Prop} {X : QX} {t u ta tb tc : EW} {b c : BW} {p q : TW} {ar : AW} {sa sb sc : SW} {i j n : Nat} {d e : D} {op op' : Op2} {o1 : Op1} {sp : FS} {dv : List D} {xs ys ds : List D} {r : R}
@[simp] theorem x_var_f (h : δ[i]? = some (some (.fz d))) : wVar i δ Q X = Q (.fz d) := by unfold wVar; rw [h]
@[simp] theorem x_lVar_f (h : δ[i]? = some (some (.fz d))) : lVar i δ Qd X = Qd d := by unfold lVar; rw [h]
@[simp] theorem x_lVar_o (h : δ[i]? = some (some (.own xs))) : lVar i δ Qd X = Qd (.lst xs) := by unfold lVar; rw [h]
@[simp] theorem x_lVar_l (h : δ[i]? = some (some (.lent xs))) : lVar i δ Qd X = Qd (.lst xs) := by unfold lVar; rw [h]
@[simp] theorem x_bVar : bVar i δ Qd X = (match δ[i]? with
  | some (some s) => (match s.b with
    | some d => Qd d
    | none => False)
  | _ => False) := rfl
@[simp] theorem x_b_f : Sl.b (.fz d) = some d := rfl
@[simp] theorem x_b_o : Sl.b (.own xs) = some (.lst xs) := rfl
@[simp] theorem x_b_l : Sl.b (.lent xs) = some (.lst xs) := rfl
@[simp] theorem x_b_b {c : Nat} : Sl.b (.ob c xs) = some (.obj c xs) := rfl
@[simp] theorem x_lit : wLit d δ Q X = Q (.fz d) := rfl
@[simp] theorem x_bOf : bOf t δ Qd X = t δ (fun r => Qd r.d) X := rfl
@[simp] theorem x_bin : wBin op ta tb δ Q X = ta δ (fun r => tb δ (fun s => op r.d s.d Q X) X) X := rfl
@[simp] theorem x_binB : wBinB op b c δ Q X = b δ (fun d => c δ (fun e => op d e Q X) X) X := rfl
@[simp] theorem x_un : wUn o1 ta δ Q X = ta δ (fun r => o1 r.d Q X) X := rfl
@[simp] theorem x_aNil : aNil δ Qs X = Qs [] := rfl
@[simp] theorem x_aCons : aCons ta ar δ Qs X = ta δ (fun r => ar δ (fun ds => Qs (r.d :: ds)) X) X := rfl
@[simp] theorem x_aConsB : aConsB b ar δ Qs X = b δ (fun d => (seqOf d).isSome = true ∧ ar δ (fun ds => Qs (d :: ds)) X) X := rfl
@[simp] theorem x_aConsR : aConsR b ar δ Qs X = b δ (fun d => ar δ (fun ds => Qs (d :: ds)) X) X := rfl
@[simp] theorem x_call : wCall sp dv ar δ Q X = ar δ (fun ds => sp (ds ++ dv) Q X) X := rfl
@[simp] theorem x_tup : wTup ar δ Q X = ar δ (fun ds => Q (.fz (.tup ds))) X := rfl
@[simp] theorem x_lst : wLst ar δ Q X = ar δ (fun ds => Q (.own ds)) X := rfl
@[simp] theorem x_fld {tb : List (Nat × Nat)} : wFld tb b δ Q X = b δ (fun d => match d with
  | .obj c xs => (match tb.lookup c with
    | some i => (match xs[i]? with
      | some v => Q (.fz v)
      | none => False)
    | none => False)
  | _ => False) X := rfl
@[simp] theorem x_con {tb : List (Nat × D)} : wCon tb b δ Q X = b δ (fun d => match d with
  | .obj c _ => (match tb.lookup c with
    | some v => Q (.fz v)
    | none => False)
  | _ => False) X := rfl
@[simp] theorem x_prop {c0 : Nat} : wProp c0 sp t δ Q X = t δ (fun r => match r.d with
  | .obj c xs => c = c0 ∧ sp [.obj c xs] Q (fun _ => False)
  | _ => False) X := rfl
@[simp] theorem x_meth {c0 : Nat} : wMeth c0 sp dv t ar δ Q X = t δ (fun r => match r.d with
  | .obj c xs => c = c0 ∧ ar δ (fun ds => sp (.obj c xs :: (ds ++ dv)) Q X) X
  | _ => False) X := rfl
@[simp] theorem x_cOfB : cOfB b δ Qb X = b δ (fun d => match tru d with
  | some b => d.short ∧ Qb b
  | none => False) X := rfl
@[simp] theorem x_cBl : cBl t δ Qb X = t δ (fun r => match r.d with
  | .bl b => Qb b
  | _ => False) X := rfl
@[simp] theorem x_cAnd : cAnd p q δ Qb X = p δ (fun b => if b = true then q δ Qb X else Qb false) X := rfl
@[simp] theorem x_cOr : cOr p q δ Qb X = p δ (fun b => if b = true then Qb true else q δ Qb X) X := rfl
@[simp] theorem x_cNot : cNot p δ Qb X = p δ (fun b => Qb (!b)) X := rfl
@[simp] theorem x_and : wAnd ta tb δ Q X = ta δ (fun r => match r.d with
  | .bl b => if b = true then tb δ Q X else Q (.fz (.bl false))
  | _ => False) X := rfl
@[simp] theorem x_or : wOr ta tb δ Q X = ta δ (fun r => match r.d with
  | .bl b => if b = true then Q (.fz (.bl true)) else tb δ Q X
  | _ => False) X := rfl
@[simp] theorem x_not : wNot ta δ Q X = ta δ (fun r => match r.d with
  | .bl b => Q (.fz (.bl (!b)))
  | _ => False) X := rfl
@[simp] theorem x_chain : wChain op op' ta tb tc δ Q X = ta δ (fun r => tb δ (fun s => op r.d s.d (fun z => match z.d with
  | .bl b => if b = true then tc δ (fun u => op' s.d u.d Q X) X else Q (.fz (.bl false))
  | _ => False) X) X) X := rfl
@[simp] theorem x_ite : wIte p ta tb δ Q X = p δ (fun b => if b = true then ta δ Q X else tb δ Q X) X := rfl
@[simp] theorem x_next : sNext k δ = k.nx δ := rfl
@[simp] theorem x_brk : sBrk k δ = k.bk δ := rfl
@[simp] theorem x_cont : sCont k δ = k.ct δ := rfl
@[simp] theorem x_never : sNever k δ = False := rfl
@[simp] theorem x_seq : sSeq sa sb k δ = sa { k with nx := fun δ' => sb k δ' } δ := rfl
@[simp] theorem x_set : sSet i t k δ = t δ (fun r => k.nx (δ.set i (some (.fz r.d)))) (fun x => k.xq x δ) := rfl
@[simp] theorem x_sOwn : sOwn i t k δ = t δ (fun r => k.nx (δ.set i (some r.s))) (fun x => k.xq x δ) := rfl
@[simp] theorem x_drop : sDrop t k δ = t δ (fun _ => k.nx δ) (fun x => k.xq x δ) := rfl
@[simp] theorem x_ret : sRet t k δ = t δ k.rt (fun x => k.xq x δ) := rfl
@[simp] theorem x_retN : sRetN k δ = k.rt (.fz .non) := rfl
@[simp] theorem x_retO_o (h : δ[i]? = some (some (.own xs))) : sRetO i k δ = k.rt (.own xs) := by unfold sRetO; rw [h]
@[simp] theorem x_retO_f (h : δ[i]? = some (some (.fz d))) : sRetO i k δ = k.rt (.fz d) := by unfold sRetO; rw [h]
@[simp] theorem x_if : sIf p sa sb k δ = p δ (fun b => if b = true then sa k δ else sb k δ) (fun x => k.xq x δ) := rfl
@[simp] theorem x_aug_f (h : δ[i]? = some (some (.fz d))) : sAug i op t k δ = t δ (fun r => op d r.d (fun z => k.nx (δ.set i (some (.fz z.d)))) (fun x => k.xq x δ)) (fun x => k.xq x δ) := by unfold sAug; rw [h]
@[simp] theorem x_fldI {c0 : Nat} : sFldI i c0 n t k δ = (match δ[i]? with
  | some (some (.ob c xs)) => (c = c0 ∧ xs.length = n) ∧ t δ (fun r => k.nx (δ.set i (some (.ob c (xs ++ [r.d]))))) (fun x => k.xq x δ)
  | _ => False) := rfl
@[simp] theorem x_par : sPar i j ta tb k δ = ta δ (fun r => tb δ (fun s => k.nx ((δ.set i (some (.fz r.d))).set j (some (.fz s.d)))) (fun x => k.xq x δ)) (fun x => k.xq x δ) := rfl
@[simp] theorem x_unp {g : Tg} : sUnp g t k δ = t δ (fun r => g.go r.d δ k.nx) (fun x => k.xq x δ) := rfl
@[simp] theorem x_go_nm {P : Fr → Prop} : Tg.go (.nm i) d δ P = P (δ.set i (some (.fz d))) := rfl
@[simp] theorem x_go_tp2 {a b : Nat} {P : Fr → Prop} : Tg.go (.tp [.nm a, .nm b]) (.tup [d, e]) δ P = P ((δ.set a (some (.fz d))).set b (some (.fz e))) := rfl
@[simp] theorem x_go_tp3 {a b c : Nat} {d3 : D} {P : Fr → Prop} : Tg.go (.tp [.nm a, .nm b, .nm c]) (.tup [d, e, d3]) δ P = P (((δ.set a (some (.fz d))).set b (some (.fz e))).set c (some (.fz d3))) := rfl
@[simp] theorem x_go_tp4 {a b c f : Nat} {d3 d4 : D} {P : Fr → Prop} : Tg.go (.tp [.nm a, .nm b, .nm c, .nm f]) (.tup [d, e, d3, d4]) δ P = P ((((δ.set a (some (.fz d))).set b (some (.fz e))).set c (some (.fz d3))).set f (some (.fz d4))) := rfl
@[simp] theorem x_for {g : Tg} {ti : IW} : sFor g ti sb k δ = ti δ (fun items => loopI g sb items k δ) (fun x => k.xq x δ) := rfl
@[simp] theorem x_iSeq {P : List D → Prop} : iSeq t δ P X = t δ (fun r => match seqOf r.d with
  | some ds => P ds
  | none => False) X := rfl
@[simp] theorem x_iRng1 {P : List D → Prop} : iRng1 t δ P X = t δ (fun r => match r.d with
  | .int n => small62 n ∧ P (intsFrom 0 n.toNat)
  | _ => False) X := rfl
@[simp] theorem x_iRng2 {P : List D → Prop} : iRng2 t u δ P X = t δ (fun r => u δ (fun s => match r.d, s.d with
  | .int lo, .int hi => (small62 lo ∧ small62 hi) ∧ P (intsFrom lo (hi - lo).toNat)
  | _, _ => False) X) X := rfl
@[simp] theorem x_mut {f : MF} (h : δ[i]? = some (some (.own xs))) : sMeth i f ar k δ = ar δ (fun ds => f xs ds (fun ys => k.nx (δ.set i (some (.own ys))))) (fun x => k.xq x δ) := by unfold sMeth; rw [h]
@[simp] theorem x_mAppend {P : List D → Prop} : mAppend xs [d] P = (xs.length < 16777216 ∧ P (xs ++ [d])) := rfl
@[simp] theorem x_raise {c : Nat} : sRaise c ar k δ = ar δ (fun _ => k.xq ⟨c, []⟩ δ) (fun x => k.xq x δ) := rfl
@[simp] theorem x_freeze : sFreeze i sa k δ = sa k (δ.frz i) := rfl
@[simp] theorem x_blt {bf : BF} : wBlt bf ar δ Q X = ar δ (fun ds => bf ds Q) X := rfl
@[simp] theorem x_isT {ty : Ty} : wIsT ty b δ Q X = b δ (fun d => d.nocls = true ∧ Q (.fz (.bl (isT ty d)))) X := rfl
@[simp] theorem x_isC {c : Nat} : wIsC c b δ Q X = b δ (fun d => d.nocls = true ∧ Q (.fz (.bl (isC c d)))) X := rfl
@[simp] theorem x_fmt : wFmt t δ Q X = t δ (fun r => match r.d with
  | .str y => y.length ≤ 16777216 ∧ Q (.fz (.str y))
  | .int i => i.natAbs.log2 < 1920 ∧ Q (.fz (.str (toString i)))
  | _ => False) X := rfl
@[simp] theorem x_join {ts : List EW} : wJoin ts δ Q X = wJs ts Str.empty δ (fun out => Q (.fz (.str out))) X := rfl
@[simp] theorem x_js_nil {acc : Str} {P : Str → Prop} : wJs [] acc δ P X = P acc := rfl
@[simp] theorem x_js_cons {ts : List EW} {acc : Str} {P : Str → Prop} : wJs (t :: ts) acc δ P X = t δ (fun r => match r.d with
  | .str y => (acc ++ y).length ≤ 16777216 ∧ wJs ts (acc ++ y) δ P X
  | _ => False) X := rfl
@[simp] theorem x_tryAs {ct : Nat → Option Bool} : sTryAs i ct sa sb k δ = sa { k with xq := xAs i ct sb k } δ := rfl
@[simp] theorem x_xAs {ct : Nat → Option Bool} {x : Xd} : xAs i ct sb k x δ = (match ct x.c with
  | some b => if b = true then sb (kSuite i k) (δ.set i (some (.exc x.c x.xs))) else k.xq x δ
  | none => False) := rfl
@[simp] theorem x_try {ct : Nat → Option Bool} : sTry ct sa sb k δ = sa { k with xq := xTry ct sb k } δ := rfl
@[simp] theorem x_xTry {ct : Nat → Option Bool} {x : Xd} : xTry ct sb k x δ = (match ct x.c with
  | some b => if b = true then sb (kQuiet k) δ else k.xq x δ
  | none => False) := rfl
@[simp] theorem x_su_nx : (kSuite i k).nx δ = (noExc (δ.set i none) = true ∧ k.nx (δ.set i none)) := rfl
@[simp] theorem x_su_rt : (kSuite i k).rt = k.rt := rfl
@[simp] theorem x_su_bk : (kSuite i k).bk δ = (noExc (δ.set i none) = true ∧ k.bk (δ.set i none)) := rfl
@[simp] theorem x_su_ct : (kSuite i k).ct δ = (noExc (δ.set i none) = true ∧ k.ct (δ.set i none)) := rfl
@[simp] theorem x_qu_nx : (kQuiet k).nx = k.nx := rfl
@[simp] theorem x_qu_rt : (kQuiet k).rt = k.rt := rfl
@[simp] theorem x_qu_bk : (kQuiet k).bk = k.bk := rfl
@[simp] theorem x_qu_ct : (kQuiet k).ct = k.ct := rfl
@[simp] theorem x_isX {st : Nat → Option Bool} : wIsX i st δ Q X = (match δ[i]? with
  | some (some (.exc c _)) => (match st c with
    | some b => Q (.fz (.bl b))
    | none => False)
  | _ => False) := rfl
/-! the functions on data -/
@[simp] theorem x_bAbs {dn : Dun} {a : Int} : bAbs dn [.int a] Q = Q (.fz (.int (if a < 0 then -a else a))) := rfl
@[simp] theorem x_bAbs_o {dn : Dun} {c : Nat} : bAbs dn [.obj c xs] Q = obj1 dn .abs c xs Q := rfl
@[simp] theorem x_bInt {a : Int} : bInt [.int a] Q = Q (.fz (.int a)) := rfl
@[simp] theorem x_bInt_b {a : Bool} : bInt [.bl a] Q = Q (.fz (.int (if a then 1 else 0))) := rfl
@[simp] theorem x_bBool {dn : Dun} {a : Int} : bBool dn [.int a] Q = Q (.fz (.bl (a != 0))) := rfl
@[simp] theorem x_bBool_b {dn : Dun} {a : Bool} : bBool dn [.bl a] Q = Q (.fz (.bl a)) := rfl
@[simp] theorem x_bBool_o {dn : Dun} {c : Nat} : bBool dn [.obj c xs] Q = obj1 dn .bool c xs (QR.bl Q) := rfl
@[simp] theorem x_bStr {dn : Dun} {a : Int} : bStr dn [.int a] Q = (a.natAbs.log2 < 1920 ∧ Q (.fz (.str (toString a)))) := rfl
@[simp] theorem x_bStr_s {dn : Dun} {a : Str} : bStr dn [.str a] Q = Q (.fz (.str a)) := rfl
@[simp] theorem x_bStr_o {dn : Dun} {c : Nat} : bStr dn [.obj c xs] Q = obj1 dn .str c xs (QR.st Q) := rfl
@[simp] theorem x_bLen {dn : Dun} : bLen dn [.lst xs] Q = Q (.fz (.int (xs.length : Int))) := rfl
@[simp] theorem x_bLen_t {dn : Dun} : bLen dn [.tup xs] Q = Q (.fz (.int (xs.length : Int))) := rfl
@[simp] theorem x_bLen_r {dn : Dun} {ns : List Int} : bLen dn [.scr ns] Q = Q (.fz (.int (ns.length : Int))) := rfl
@[simp] theorem x_bGcd {a b : Int} : bGcd [.int a, .int b] Q = Q (.fz (.int ((Nat.gcd a.natAbs b.natAbs : Nat) : Int))) := rfl
@[simp] theorem x_add {dn : Dun} {a b : Int} : opAdd dn (.int a) (.int b) Q X = Q (.fz (.int (a + b))) := rfl
@[simp] theorem x_add_s {dn : Dun} {a b : Str} : opAdd dn (.str a) (.str b) Q X = (a.length + b.length ≤ 16777216 ∧ Q (.fz (.str (a ++ b)))) := rfl
@[simp] theorem x_add_l {dn : Dun} : opAdd dn (.lst xs) (.lst ys) Q X = (xs.length + ys.length ≤ 16777216 ∧ Q (.own (xs ++ ys))) := rfl
@[simp] theorem x_add_oi {dn : Dun} {c : Nat} {a : Int} : opAdd dn (.obj c xs) (.int a) Q X = objL dn .add c xs (.int a) Q X := rfl
@[simp] theorem x_add_oo {dn : Dun} {c c' : Nat} : opAdd dn (.obj c xs) (.obj c' ys) Q X = (c' = c ∧ objL dn .add c xs (.obj c' ys) Q X) := rfl
@[simp] theorem x_add_io {dn : Dun} {c : Nat} {a : Int} : opAdd dn (.int a) (.obj c xs) Q X = ((dn c .add).isSome = true ∧ objL dn .radd c xs (.int a) Q X) := rfl
@[simp] theorem x_sub {dn : Dun} {a b : Int} : opSub dn (.int a) (.int b) Q X = Q (.fz (.int (a - b))) := rfl
@[simp] theorem x_sub_oi {dn : Dun} {c : Nat} {a : Int} : opSub dn (.obj c xs) (.int a) Q X = objL dn .sub c xs (.int a) Q X := rfl
@[simp] theorem x_sub_oo {dn : Dun} {c c' : Nat} : opSub dn (.obj c xs) (.obj c' ys) Q X = (c' = c ∧ objL dn .sub c xs (.obj c' ys) Q X) := rfl
@[simp] theorem x_sub_io {dn : Dun} {c : Nat} {a : Int} : opSub dn (.int a) (.obj c xs) Q X = ((dn c .sub).isSome = true ∧ objL dn .rsub c xs (.int a) Q X) := rfl
@[simp] theorem x_mul {dn : Dun} {a b : Int} : opMul dn (.int a) (.int b) Q X = (mulOk a b ∧ Q (.fz (.int (a * b)))) := rfl
@[simp] theorem x_mul_l {dn : Dun} {a : Int} : opMul dn (.lst xs) (.int a) Q X = ((-(2 ^ 63) ≤ a ∧ a < 2 ^ 63 ∧ xs.length * a.toNat ≤ 16777216) ∧ Q (.own (repN a xs))) := rfl
@[simp] theorem x_mul_oi {dn : Dun} {c : Nat} {a : Int} : opMul dn (.obj c xs) (.int a) Q X = objL dn .mul c xs (.int a) Q X := rfl
@[simp] theorem x_mul_oo {dn : Dun} {c c' : Nat} : opMul dn (.obj c xs) (.obj c' ys) Q X = (c' = c ∧ objL dn .mul c xs (.obj c' ys) Q X) := rfl
@[simp] theorem x_mul_io {dn : Dun} {c : Nat} {a : Int} : opMul dn (.int a) (.obj c xs) Q X = ((dn c .mul).isSome = true ∧ objL dn .rmul c xs (.int a) Q X) := rfl
@[simp] theorem x_fdiv {dn : Dun} {a b : Int} : opFdiv dn (.int a) (.int b) Q X = (divOk b ∧ Q (.fz (.int (a.fdiv b)))) := rfl
@[simp] theorem x_fdiv_oi {dn : Dun} {c : Nat} {a : Int} : opFdiv dn (.obj c xs) (.int a) Q X = objL dn .fdiv c xs (.int a) Q X := rfl
@[simp] theorem x_fdiv_oo {dn : Dun} {c c' : Nat} : opFdiv dn (.obj c xs) (.obj c' ys) Q X = (c' = c ∧ objL dn .fdiv c xs (.obj c' ys) Q X) := rfl
@[simp] theorem x_mod {dn : Dun} {a b : Int} : opMod dn (.int a) (.int b) Q X = (b ≠ 0 ∧ Q (.fz (.int (a.fmod b)))) := rfl
@[simp] theorem x_mod_oi {dn : Dun} {c : Nat} {a : Int} : opMod dn (.obj c xs) (.int a) Q X = objL dn .mod c xs (.int a) Q X := rfl
@[simp] theorem x_mod_oo {dn : Dun} {c c' : Nat} : opMod dn (.obj c xs) (.obj c' ys) Q X = (c' = c ∧ objL dn .mod c xs (.obj c' ys) Q X) := rfl
@[simp] theorem x_pow {dn : Dun} {a b : Int} : opPow dn (.int a) (.int b) Q X = (powOk a b ∧ Q (.fz (.int (a ^ b.toNat)))) := rfl
@[simp] theorem x_pow_oi {dn : Dun} {c : Nat} {a : Int} : opPow dn (.obj c xs) (.int a) Q X = objL dn .pow c xs (.int a) Q X := rfl
@[simp] theorem x_opObj_oi {dn : Dun} {m : Dn} {c : Nat} {a : Int} : opObj dn m (.obj c xs) (.int a) Q X = objL dn m c xs (.int a) Q X := rfl
@[simp] theorem x_opObj_oo {dn : Dun} {m : Dn} {c c' : Nat} : opObj dn m (.obj c xs) (.obj c' ys) Q X = (c' = c ∧ objL dn m c xs (.obj c' ys) Q X) := rfl
@[simp] theorem x_neg {dn : Dun} {a : Int} : opNeg dn (.int a) Q X = Q (.fz (.int (-a))) := rfl
@[simp] theorem x_neg_o {dn : Dun} {c : Nat} : opNeg dn (.obj c xs) Q X = (match dn c .neg with
  | some sp => sp [.obj c xs] Q X
  | none => False) := rfl
@[simp] theorem x_lt {dn : Dun} {a b : Int} : opLt dn (.int a) (.int b) Q X = Q (.fz (.bl (decide (a < b)))) := rfl
@[simp] theorem x_le {dn : Dun} {a b : Int} : opLe dn (.int a) (.int b) Q X = Q (.fz (.bl (decide (a ≤ b)))) := rfl
@[simp] theorem x_gt {dn : Dun} {a b : Int} : opGt dn (.int a) (.int b) Q X = Q (.fz (.bl (decide (b < a)))) := rfl
@[simp] theorem x_ge {dn : Dun} {a b : Int} : opGe dn (.int a) (.int b) Q X = Q (.fz (.bl (decide (b ≤ a)))) := rfl
@[simp] theorem x_lt_o {dn : Dun} {c c' : Nat} : opLt dn (.obj c xs) (.obj c' ys) Q X = (c' = c ∧ objL dn .lt c xs (.obj c' ys) Q X) := rfl
@[simp] theorem x_le_o {dn : Dun} {c c' : Nat} : opLe dn (.obj c xs) (.obj c' ys) Q X = (c' = c ∧ objL dn .le c xs (.obj c' ys) Q X) := rfl
@[simp] theorem x_gt_o {dn : Dun} {c c' : Nat} : opGt dn (.obj c xs) (.obj c' ys) Q X = (c' = c ∧ objL dn .gt c xs (.obj c' ys) Q X) := rfl
@[simp] theorem x_ge_o {dn : Dun} {c c' : Nat} : opGe dn (.obj c xs) (.obj c' ys) Q X = (c' = c ∧ objL dn .ge c xs (.obj c' ys) Q X) := rfl
@[simp] theorem x_eq_i {dn : Dun} {a b : Int} : opEq dn (.int a) (.int b) Q X = Q (.fz (.bl (a == b))) := by simp [opEq, D.flat, D.dep, D.eqv]
@[simp] theorem x_ne_i {dn : Dun} {a b : Int} : opNe dn (.int a) (.int b) Q X = Q (.fz (.bl (!(a == b)))) := by simp [opNe, D.flat, D.dep, D.eqv]
@[simp] theorem x_eq_o {dn : Dun} {c : Nat} : opEq dn (.obj c xs) d Q X = (d.val = true ∧ objL dn .eq c xs d (QR.bl Q) X) := by unfold opEq; rfl
@[simp] theorem x_ne_o {dn : Dun} {c : Nat} : opNe dn (.obj c xs) d Q X = (d.val = true ∧ objL dn .eq c xs d (QR.neg Q) X) := by unfold opNe; rfl
@[simp] theorem x_eq_io {dn : Dun} {c : Nat} {a : Int} : opEq dn (.int a) (.obj c xs) Q X = objL dn .eq c xs (.int a) (QR.bl Q) X := by unfold opEq; rfl
@[simp] theorem x_ne_io {dn : Dun} {c : Nat} {a : Int} : opNe dn (.int a) (.obj c xs) Q X = objL dn .eq c xs (.int a) (QR.neg Q) X := by unfold opNe; rfl
@[simp] theorem x_objL {dn : Dun} {m : Dn} {c : Nat} : objL dn m c xs d Q X = (match dn c m with
  | some sp => sp [.obj c xs, d] Q X
  | none => False) := rfl
@[simp] theorem x_obj1 {dn : Dun} {m : Dn} {c : Nat} : obj1 dn m c xs Q = (match dn c m with
  | some sp => sp [.obj c xs] Q (fun _ => False)
  | none => False) := rfl
@[simp] theorem x_qbl {b : Bool} : QR.bl Q (.fz (.bl b)) = Q (.fz (.bl b)) := rfl
@[simp] theorem x_qneg {b : Bool} : QR.neg Q (.fz (.bl b)) = Q (.fz (.bl (!b))) := rfl
@[simp] theorem x_qst {b : Str} : QR.st Q (.fz (.str b)) = Q (.fz (.str b)) := rfl
@[simp] theorem x_is_bb {a b : Bool} : opIs (.bl a) (.bl b) Q X = Q (.fz (.bl (a == b))) := rfl
@[simp] theorem x_is_nn : opIs .non .non Q X = Q (.fz (.bl true)) := rfl
@[simp] theorem x_isNot_bb {a b : Bool} : opIsNot (.bl a) (.bl b) Q X = Q (.fz (.bl (!(a == b)))) := rfl
@[simp] theorem x_ix_l {a : Int} : opIx (.lst xs) (.int a) Q X = (match ixD xs a with
  | some v => Q (.fz v)
  | none => False) := rfl
@[simp] theorem x_ix_t {a : Int} : opIx (.tup xs) (.int a) Q X = (match ixD xs a with
  | some v => Q (.fz v)
  | none => False) := rfl
@[simp] theorem x_ix_r {ns : List Int} {a : Int} : opIx (.scr ns) (.int a) Q X = (match ixD (ns.map D.int) a with
  | some v => Q (.fz v)
  | none => False) := rfl
@[simp] theorem x_seqOf_l : seqOf (.lst xs) = some xs := rfl
@[simp] theorem x_seqOf_t : seqOf (.tup xs) = some xs := rfl
@[simp] theorem x_tru_b {b : Bool} : tru (.bl b) = some b := rfl
@[simp] theorem x_tru_i {a : Int} : tru (.int a) = some (a != 0) := rfl
@[simp] theorem x_short_b {b : Bool} : D.short (.bl b) = True := rfl
@[simp] theorem x_short_i {b : Int} : D.short (.int b) = True := rfl
@[simp] theorem x_nocls_i {a : Int} : D.nocls (.int a) = true := rfl
@[simp] theorem x_nocls_o {c : Nat} : D.nocls (.obj c xs) = true := rfl
@[simp] theorem x_s_f : R.s (.fz d) = .fz d := rfl
@[simp] theorem x_s_o : R.s (.own xs) = .own xs := rfl
end
theorem ints_len' (lo : Int) (n : Nat) : (intsFrom lo n).length = n := by simp [intsFrom]
theorem ints_get' {lo : Int} {n i : Nat} {d : D} (h : (intsFrom lo n)[i]? = some d) : i < n ∧ d = .int (lo + (i : Int)) := by
  unfold intsFrom at h
  rw [List.getElem?_map] at h
  have hi : i < n := by
    by_cases q : i < n
    · exact q
    · rw [List.getElem?_eq_none_iff.mpr (by rw [List.length_range]; omega)] at h
      cases h
  rw [List.getElem?_range hi] at h
  exact ⟨hi, (Option.some.inj h).symm⟩
/-- for j in range(..) -/
theorem loop_ints {j : Nat} {tb : SW} {lo : Int} {n : Nat} {k : Ko} {δ : Fr} (W : Nat → Fr → Prop) (h0 : W 0 δ)
    (hs : ∀ (i : Nat) δ', i < n → W i δ' → tb { k with nx := W (i + 1), ct := W (i + 1), bk := k.nx } (δ'.set j (some (.fz (.int (lo + (i : Int))))))) (hd : ∀ δ', W n δ' → k.nx δ') : loopI (.nm j) tb (intsFrom lo n) k δ := by
  refine ⟨W, h0, fun i d δ' e w => ?_, fun δ' w => hd δ' (by rw [ints_len'] at w; exact w)⟩
  obtain ⟨hi, rfl⟩ := ints_get' e
  exact hs i δ' hi w
/-- for g in a list of whole numbers -/
theorem loop_map {j : Nat} {tb : SW} {ns : List Int} {k : Ko} {δ : Fr} (W : Nat → Fr → Prop) (h0 : W 0 δ)
    (hs : ∀ (i : Nat) (m : Int) δ', ns[i]? = some m → W i δ' → tb { k with nx := W (i + 1), ct := W (i + 1), bk := k.nx } (δ'.set j (some (.fz (.int m))))) (hd : ∀ δ', W ns.length δ' → k.nx δ') : loopI (.nm j) tb (ns.map D.int) k δ := by
  refine ⟨W, h0, fun i d δ' e w => ?_, fun δ' w => hd δ' (by rw [List.length_map] at w; exact w)⟩
  rw [List.getElem?_map] at e
  cases e1 : ns[i]? with
  | none => rw [e1] at e; cases e
  | some m =>
    rw [e1] at e
    cases e
    exact hs i m δ' e1 w
/-- while: a word W of the frame, a measure -/
theorem while_by {c : TW} {tb : SW} {k : Ko} {δ : Fr} (W : Nat → Fr → Prop) (m0 : Nat) (h0 : W m0 δ)
    (hs : ∀ m δ', W m δ' → c δ' (fun b => if b = true then tb { k with nx := fun δ2 => ∃ m', m' < m ∧ W m' δ2, ct := fun δ2 => ∃ m', m' < m ∧ W m' δ2, bk := k.nx } δ' else k.nx δ') (fun x => k.xq x δ')) : sWhile c tb k δ := ⟨W, ⟨m0, h0⟩, hs⟩
theorem ix_map {ns : List Int} {i : Nat} {m : Int} (h : ns[i]? = some m) : ixD (ns.map D.int) (i : Int) = some (.int m) := by
  have hi := (List.getElem?_eq_some_iff.mp h).1
  unfold ixD ixOf
  rw [if_pos (by omega), List.length_map, if_pos (by omega)]
  simp [h]
end VL
end
section
set_option linter.all false
set_option maxRecDepth 100000
set_option maxHeartbeats 0
namespace VL
open PySem
def ct_WatchError : Nat → Option Bool
  | 1 => some true
  | 2 => some true
  | 3 => some true
  | 4 => some true
  | _ => none
def ix_ZeroUnder : Nat → Option Bool
  | 1 => some false
  | 2 => some true
  | 3 => some false
  | 4 => some false
  | _ => none
def ix_ValueError : Nat → Option Bool
  | 1 => some true
  | 2 => some true
  | 3 => some true
  | 4 => some true
  | _ => none
def ix_BadNumber : Nat → Option Bool
  | 1 => some false
  | 2 => some false
  | 3 => some true
  | 4 => some false
  | _ => none
def ix_Refused : Nat → Option Bool
  | 1 => some false
  | 2 => some false
  | 3 => some false
  | 4 => some true
  | _ => none
/-! ### the specs -/
def rD (t u : Int) : D := .obj 0 [.int t, .int u]
/-- the normal form -/
def Nm (t u : Int) : Prop := 0 < u ∧ Nat.gcd t.natAbs u.natAbs = 1
def Sz (n : Nat) (i : Int) : Prop := i.natAbs < 2 ^ n
/-- a ratio, or a whole number as one -/
def RV (d : D) (t u : Int) : Prop := d = rD t u ∨ (d = .int t ∧ u = 1)
/-- any normal ratio of the worth a / b -/
def res (a b : Int) (n : Nat) (Q : QR) : Prop := ∀ T U, Nm T U → T * b = a * U → Sz n T → Sz n U → Q (.fz (rD T U))
def sp_Ratio___init__ : FS := fun ds Q X => ∃ a b n, ds = [.int a, .int b] ∧ (b = 0 → X ⟨2, []⟩) ∧ (b ≠ 0 → n ≤ 8000 ∧ Sz n a ∧ Sz n b ∧ res a b n Q)
def sp_Ratio_whole : FS := fun ds Q X => ∃ t u, ds = [rD t u] ∧ Q (.fz (.bl (u == 1)))
def sp_Ratio_floor : FS := fun ds Q X => ∃ t u, ds = [rD t u] ∧ 0 < u ∧ Sz 8000 u ∧ Q (.fz (.int (t.fdiv u)))
def sp_Ratio_ceiling : FS := fun ds Q X => ∃ t u, ds = [rD t u] ∧ 0 < u ∧ Sz 8000 u ∧ Q (.fz (.int (-((-t).fdiv u))))
/-- two operands -/
def Two (ds : List D) (t u t' u' : Int) (n : Nat) : Prop := ∃ e, ds = [rD t u, e] ∧ RV e t' u' ∧ Nm t u ∧ Nm t' u' ∧ n ≤ 2600 ∧ Sz n t ∧ Sz n u ∧ Sz n t' ∧ Sz n u'
def sp_Ratio_over : FS := fun ds Q X => ∃ t u t' u' n, Two ds t u t' u' n ∧ (t' = 0 → X ⟨2, []⟩) ∧ (t' ≠ 0 → res (t * u') (u * t') (2 * n) Q)
def sp_Ratio___add__ : FS := fun ds Q X => ∃ t u t' u' n, Two ds t u t' u' n ∧ res (t * u' + t' * u) (u * u') (2 * n + 1) Q
def sp_Ratio___sub__ : FS := fun ds Q X => ∃ t u t' u' n, Two ds t u t' u' n ∧ res (t * u' - t' * u) (u * u') (2 * n + 1) Q
def sp_Ratio___mul__ : FS := fun ds Q X => ∃ t u t' u' n, Two ds t u t' u' n ∧ res (t * t') (u * u') (2 * n) Q
def sp_Ratio___radd__ : FS := fun ds Q X => ∃ t u i n, Two ds t u i 1 n ∧ ds = [rD t u, .int i] ∧ res (t + i * u) u (2 * n + 1) Q
def sp_Ratio___rsub__ : FS := fun ds Q X => ∃ t u i n, Two ds t u i 1 n ∧ ds = [rD t u, .int i] ∧ res (i * u - t) u (2 * n + 1) Q
def sp_Ratio___rmul__ : FS := fun ds Q X => ∃ t u i n, Two ds t u i 1 n ∧ ds = [rD t u, .int i] ∧ res (t * i) u (2 * n) Q
def sp_Ratio___floordiv__ : FS := fun ds Q X => ∃ t u t' u' n, Two ds t u t' u' n ∧ (t' = 0 → X ⟨2, []⟩) ∧ (t' ≠ 0 → Q (.fz (.int ((t * u').fdiv (u * t')))))
def sp_Ratio___mod__ : FS := fun ds Q X => ∃ t u t' u' n, Two ds t u t' u' n ∧ n ≤ 600 ∧ (t' = 0 → X ⟨2, []⟩) ∧ (t' ≠ 0 → res (t * u' - t' * ((t * u').fdiv (u * t')) * u) (u * u') 6000 Q)
def sp_Ratio___pow__ : FS := fun ds Q X => ∃ t u k, ds = [rD t u, .int k] ∧ Nm t u ∧ 0 ≤ k ∧ k ≤ 64 ∧ Sz 41 t ∧ Sz 41 u ∧ res (t ^ k.toNat) (u ^ k.toNat) 2700 Q
def sp_Ratio___neg__ : FS := fun ds Q X => ∃ t u, ds = [rD t u] ∧ Nm t u ∧ Sz 8000 t ∧ Sz 8000 u ∧ Q (.fz (rD (-t) u))
def sp_Ratio___abs__ : FS := fun ds Q X => ∃ t u, ds = [rD t u] ∧ Nm t u ∧ Sz 8000 t ∧ Sz 8000 u ∧ Q (.fz (rD (if t < 0 then -t else t) u))
def sp_Ratio___bool__ : FS := fun ds Q X => ∃ t u, ds = [rD t u] ∧ Q (.fz (.bl (t != 0)))
def eqR (t u : Int) : D → Bool
  | .obj 0 [.int t', .int u'] => t == t' && u == u'
  | _ => false
/-- what may stand beside a ratio in == -/
def Cm : D → Prop
  | .obj c xs => c = 0 ∧ ∃ t u, xs = [.int t, .int u]
  | .cls _ => False
  | _ => True
def sp_Ratio___eq__ : FS := fun ds Q X => ∃ t u e, ds = [rD t u, e] ∧ Cm e ∧ Q (.fz (.bl (eqR t u e)))
def Cmp (p : Int → Int → Bool) : FS := fun ds Q X => ∃ t u t' u', ds = [rD t u, rD t' u'] ∧ Sz 4000 t ∧ Sz 4000 u ∧ Sz 4000 t' ∧ Sz 4000 u' ∧ Q (.fz (.bl (p (t * u') (t' * u))))
def sp_Ratio___lt__ : FS := Cmp fun a b => decide (a < b)
def sp_Ratio___le__ : FS := Cmp fun a b => decide (a ≤ b)
def sp_Ratio___gt__ : FS := Cmp fun a b => decide (b < a)
def sp_Ratio___ge__ : FS := Cmp fun a b => decide (b ≤ a)
def strR (t u : Int) : Str := if u = 1 then (toString t : Str) else ((Str.empty ++ (toString t : Str)) ++ ("/" : Str)) ++ (toString u : Str)
def sp_Ratio___str__ : FS := fun ds Q X => ∃ t u, ds = [rD t u] ∧ Sz 1900 t ∧ Sz 1900 u ∧ Q (.fz (.str (strR t u)))
def sp_as_ratio : FS := fun ds Q X => ∃ d t u, ds = [d] ∧ RV d t u ∧ Sz 8000 t ∧ Q (.fz (rD t u))
/-! the law's own -/
def sp__law_cell : FS := fun ds Q X => ∃ ns k, ds = [.scr ns, .int k] ∧ 0 ≤ k ∧ ∀ c : Int, 0 ≤ c → Q (.fz (.int c))
def Inm (menu out : List Int) : Prop := out.length = menu.length ∧ ∀ (i : Nat) (m o : Int), menu[i]? = some m → out[i]? = some o → 0 ≤ o ∧ o < m
def sp__law_draws : FS := fun ds Q X => ∃ cell salt menu, ds = [.int cell, .int salt, .lst (menu.map D.int)] ∧ 0 ≤ cell ∧ salt.natAbs < 1000 ∧ menu.length ≤ 100 ∧ (∀ m ∈ menu, 0 < m ∧ m < 2 ^ 60) ∧ ∀ out, Inm menu out → Q (.own (out.map D.int))
def sp__law_gcd : FS := fun ds Q X => ∃ a b, ds = [.int a, .int b] ∧ Q (.fz (.int ((Nat.gcd a.natAbs b.natAbs : Nat) : Int)))
def sp__law_is_int : FS := fun ds Q X => ∃ d, ds = [d] ∧ d.nocls = true ∧ Q (.fz (.bl (isT .int d && !isT .bool d)))
def sp__law_is_ratio : FS := fun ds Q X => ∃ t u, ds = [rD t u] ∧ Nm t u ∧ Q (.fz (.bl true))
def sp__law_digits : FS := fun ds Q X => ∃ cell salt, ds = [.int cell, .int salt] ∧ 0 ≤ cell ∧ salt.natAbs < 1000 ∧ ∀ n : Int, 0 ≤ n → n < 10 ^ 60 → Q (.fz (.int n))
def sp__law_numbers : FS := fun ds Q X => ∃ ns, ds = [.scr ns] ∧ ∀ a b, Sz 400 a → Sz 400 b → Q (.fz (.tup [.int a, .int b]))
/-- yes -/
def Yes (Q : QR) : Prop := Q (.fz (.bl true))
def sp__law_shows : FS := fun ds Q X => ∃ t u a b, ds = [rD t u, .int a, .int b] ∧ Nm t u ∧ t * b = a * u ∧ Sz 1800 t ∧ Sz 1800 u ∧ Sz 4000 a ∧ Sz 4000 b ∧ Yes Q
def sp__law_refused : FS := fun ds Q X => ∃ a, ds = [.int a] ∧ Yes Q
def sp__law_part_a : FS := fun ds Q X => ∃ ns, ds = [.scr ns] ∧ Yes Q
def sp__law_worth : FS := fun ds Q X => ∃ t u a b, ds = [rD t u, .int a, .int b] ∧ Nm t u ∧ t * b = a * u ∧ Sz 100000 t ∧ Sz 100000 u ∧ Sz 100000 a ∧ Sz 100000 b ∧ Yes Q
def sp__law_fraction : FS := fun ds Q X => ∃ ns k s, ds = [.scr ns, .int k, .int s] ∧ 0 ≤ k ∧ k < 100 ∧ ∀ a b, 0 ≤ a → a < 10 ^ 60 → 0 < b → b < 10 ^ 60 → (1 ≤ s → a < 10 ^ 12 ∧ b ≤ 10 ^ 12) → Q (.fz (.tup [.int a, .int b]))
def Pw (lo hi : Int) : FS := fun ds Q X => ∃ t u k, ds = [rD t u, .int k] ∧ Nm t u ∧ lo ≤ k ∧ k ≤ hi ∧ Sz 41 t ∧ Sz 41 u ∧ res (t ^ k.toNat) (u ^ k.toNat) 2700 Q
def sp__law_power_to_21 : FS := Pw 0 21
def sp__law_power_to_43 : FS := Pw 22 43
def sp__law_power_to_64 : FS := Pw 44 64
def sp__law_power : FS := Pw 0 64
/-- d is of the worth a / b, in normal form -/
def Wo (d : D) (a b : Int) (n : Nat) : Prop := ∃ t u, d = rD t u ∧ Nm t u ∧ t * b = a * u ∧ 0 < b ∧ Sz n t ∧ Sz n u ∧ Sz n a ∧ Sz n b
/-- .. or the whole number itself -/
def Wi (d : D) (a b : Int) (n : Nat) : Prop := Wo d a b n ∨ (d = .int a ∧ b = 1 ∧ Sz n a)
def sp__law_sums : FS := fun ds Q X => ∃ x y a b c d, ds = [x, y, .int a, .int b, .int c, .int d] ∧ Wi x a b 500 ∧ Wi y c d 500 ∧ (Wo x a b 500 ∨ Wo y c d 500) ∧ Yes Q
def sp__law_signs : FS := fun ds Q X => ∃ x a b, ds = [x, .int a, .int b] ∧ Wo x a b 500 ∧ Yes Q
def sp__law_powers : FS := fun ds Q X => ∃ t u p q n, ds = [rD t u, rD 0 1, .int p, .int q, .int n] ∧ Nm t u ∧ t * q = p * u ∧ 0 < q ∧ Sz 41 t ∧ Sz 41 u ∧ Sz 41 p ∧ Sz 41 q ∧ 0 ≤ n ∧ n ≤ 64 ∧ Yes Q
def sp__law_part_b : FS := fun ds Q X => ∃ ns, ds = [.scr ns] ∧ Yes Q
def sp__law_fraction_c : FS := fun ds Q X => ∃ ns k s, ds = [.scr ns, .int k, .int s] ∧ 0 ≤ k ∧ k < 100 ∧ ∀ a b, 0 ≤ a → a < 10 ^ 60 → 0 < b → b < 10 ^ 60 → Q (.fz (.tup [.int a, .int b]))
def sp__law_two_fractions : FS := fun ds Q X => ∃ ns, ds = [.scr ns] ∧ ∀ a b c d, Sz 500 a → 0 < b → Sz 500 b → Sz 500 c → 0 < d → Sz 500 d → Q (.fz (.tup [.int a, .int b, .int c, .int d]))
def sp__law_orders : FS := fun ds Q X => ∃ t u t' u' l r, ds = [rD t u, rD t' u', .int l, .int r] ∧ Nm t u ∧ Nm t' u' ∧ Sz 4000 t ∧ Sz 4000 u ∧ Sz 4000 t' ∧ Sz 4000 u' ∧ (l < r ↔ t * u' < t' * u) ∧ (l = r ↔ t * u' = t' * u) ∧ Yes Q
def sp__law_rounded : FS := fun ds Q X => ∃ x a b, ds = [x, .int a, .int b] ∧ Wo x a b 500 ∧ Yes Q
def sp__law_zero_refused : FS := fun ds Q X => ∃ t u e u' w, ds = [rD t u, e, .int w] ∧ RV e 0 u' ∧ Nm t u ∧ Nm 0 u' ∧ Sz 600 t ∧ Sz 600 u ∧ Sz 600 u' ∧ Yes Q
def sp__law_quotients : FS := fun ds Q X => ∃ x y a b c d, ds = [x, y, .int a, .int b, .int c, .int d] ∧ Wo x a b 500 ∧ Wi y c d 500 ∧ Yes Q
def sp__law_unlike : FS := fun ds Q X => ∃ t u a b, ds = [rD t u, .int a, .int b] ∧ Sz 1900 t ∧ Sz 1900 u ∧ Yes Q
def sp__law_near : FS := fun ds Q X => ∃ n : Int, ds = [.int n] ∧ 0 ≤ n ∧ Sz 500 n ∧ Yes Q
def sp__law_part_c : FS := fun ds Q X => ∃ ns, ds = [.scr ns] ∧ Yes Q
def sp_law : FS := fun ds Q X => ∃ ns, ds = [.scr ns] ∧ Yes Q

def dnN : Dun := fun _ _ => none
def dn1 : Dun
  | 0, .add => some sp_Ratio___add__
  | 0, .sub => some sp_Ratio___sub__
  | 0, .mul => some sp_Ratio___mul__
  | 0, .fdiv => some sp_Ratio___floordiv__
  | 0, .neg => some sp_Ratio___neg__
  | _, _ => none
@[simp] theorem dn1_Ratio___add__ : dn1 0 .add = some sp_Ratio___add__ := rfl
@[simp] theorem dn1_Ratio___sub__ : dn1 0 .sub = some sp_Ratio___sub__ := rfl
@[simp] theorem dn1_Ratio___mul__ : dn1 0 .mul = some sp_Ratio___mul__ := rfl
@[simp] theorem dn1_Ratio___floordiv__ : dn1 0 .fdiv = some sp_Ratio___floordiv__ := rfl
@[simp] theorem dn1_Ratio___neg__ : dn1 0 .neg = some sp_Ratio___neg__ := rfl
def dn : Dun
  | 0, .add => some sp_Ratio___add__
  | 0, .radd => some sp_Ratio___radd__
  | 0, .sub => some sp_Ratio___sub__
  | 0, .rsub => some sp_Ratio___rsub__
  | 0, .mul => some sp_Ratio___mul__
  | 0, .rmul => some sp_Ratio___rmul__
  | 0, .fdiv => some sp_Ratio___floordiv__
  | 0, .mod => some sp_Ratio___mod__
  | 0, .pow => some sp_Ratio___pow__
  | 0, .neg => some sp_Ratio___neg__
  | 0, .abs => some sp_Ratio___abs__
  | 0, .bool => some sp_Ratio___bool__
  | 0, .eq => some sp_Ratio___eq__
  | 0, .lt => some sp_Ratio___lt__
  | 0, .le => some sp_Ratio___le__
  | 0, .gt => some sp_Ratio___gt__
  | 0, .ge => some sp_Ratio___ge__
  | 0, .str => some sp_Ratio___str__
  | _, _ => none
@[simp] theorem dn_Ratio___add__ : dn 0 .add = some sp_Ratio___add__ := rfl
@[simp] theorem dn_Ratio___radd__ : dn 0 .radd = some sp_Ratio___radd__ := rfl
@[simp] theorem dn_Ratio___sub__ : dn 0 .sub = some sp_Ratio___sub__ := rfl
@[simp] theorem dn_Ratio___rsub__ : dn 0 .rsub = some sp_Ratio___rsub__ := rfl
@[simp] theorem dn_Ratio___mul__ : dn 0 .mul = some sp_Ratio___mul__ := rfl
@[simp] theorem dn_Ratio___rmul__ : dn 0 .rmul = some sp_Ratio___rmul__ := rfl
@[simp] theorem dn_Ratio___floordiv__ : dn 0 .fdiv = some sp_Ratio___floordiv__ := rfl
@[simp] theorem dn_Ratio___mod__ : dn 0 .mod = some sp_Ratio___mod__ := rfl
@[simp] theorem dn_Ratio___pow__ : dn 0 .pow = some sp_Ratio___pow__ := rfl
@[simp] theorem dn_Ratio___neg__ : dn 0 .neg = some sp_Ratio___neg__ := rfl
@[simp] theorem dn_Ratio___abs__ : dn 0 .abs = some sp_Ratio___abs__ := rfl
@[simp] theorem dn_Ratio___bool__ : dn 0 .bool = some sp_Ratio___bool__ := rfl
@[simp] theorem dn_Ratio___eq__ : dn 0 .eq = some sp_Ratio___eq__ := rfl
@[simp] theorem dn_Ratio___lt__ : dn 0 .lt = some sp_Ratio___lt__ := rfl
@[simp] theorem dn_Ratio___le__ : dn 0 .le = some sp_Ratio___le__ := rfl
@[simp] theorem dn_Ratio___gt__ : dn 0 .gt = some sp_Ratio___gt__ := rfl
@[simp] theorem dn_Ratio___ge__ : dn 0 .ge = some sp_Ratio___ge__ := rfl
@[simp] theorem dn_Ratio___str__ : dn 0 .str = some sp_Ratio___str__ := rfl
/-! ### the readings -/
def t_Ratio___init__ : SW := sSeq (sIf (cBl (wBin (opEq dnN) (wVar 2) (wLit (.int 0)))) (sRaise 2 aNil) (sNext))
  (sSeq (sSet 3 (wBlt bGcd (aConsR (lVar 1) (aConsR (lVar 2) (aNil)))))
  (sSeq (sIf (cBl (wBin (opLt dnN) (wVar 2) (wLit (.int 0)))) (sSet 3 (wUn (opNeg dnN) (wVar 3))) (sNext))
  (sSeq (sFldI 0 0 0 (wBin (opFdiv dnN) (wVar 1) (wVar 3)))
  (sFldI 0 0 1 (wBin (opFdiv dnN) (wVar 2) (wVar 3))))))
def t_Ratio_whole : SW := sRet (wBin (opEq dnN) (wFld [(0, 1)] (bVar 0)) (wLit (.int 1)))
def t_Ratio_floor : SW := sRet (wBin (opFdiv dnN) (wFld [(0, 0)] (bVar 0)) (wFld [(0, 1)] (bVar 0)))
def t_Ratio_ceiling : SW := sRet (wUn (opNeg dnN) (wBin (opFdiv dnN) (wUn (opNeg dnN) (wFld [(0, 0)] (bVar 0))) (wFld [(0, 1)] (bVar 0))))
def t_Ratio_over : SW := sSeq (sSet 2 (wCall sp_as_ratio [] (aCons (wVar 1) (aNil))))
  (sSeq (sIf (cBl (wBin (opEq dnN) (wFld [(0, 0)] (bVar 2)) (wLit (.int 0)))) (sRaise 2 aNil) (sNext))
  (sRet (wCall sp_Ratio___init__ [] (aCons (wBin (opMul dnN) (wFld [(0, 0)] (bVar 0)) (wFld [(0, 1)] (bVar 2))) (aCons (wBin (opMul dnN) (wFld [(0, 1)] (bVar 0)) (wFld [(0, 0)] (bVar 2))) (aNil))))))
def t_Ratio___add__ : SW := sSeq (sSet 2 (wCall sp_as_ratio [] (aCons (wVar 1) (aNil))))
  (sRet (wCall sp_Ratio___init__ [] (aCons (wBin (opAdd dnN) (wBin (opMul dnN) (wFld [(0, 0)] (bVar 0)) (wFld [(0, 1)] (bVar 2))) (wBin (opMul dnN) (wFld [(0, 0)] (bVar 2)) (wFld [(0, 1)] (bVar 0)))) (aCons (wBin (opMul dnN) (wFld [(0, 1)] (bVar 0)) (wFld [(0, 1)] (bVar 2))) (aNil)))))
def t_Ratio___radd__ : SW := sRet (wBin (opAdd dn1) (wVar 0) (wVar 1))
def t_Ratio___sub__ : SW := sSeq (sSet 2 (wCall sp_as_ratio [] (aCons (wVar 1) (aNil))))
  (sRet (wCall sp_Ratio___init__ [] (aCons (wBin (opSub dnN) (wBin (opMul dnN) (wFld [(0, 0)] (bVar 0)) (wFld [(0, 1)] (bVar 2))) (wBin (opMul dnN) (wFld [(0, 0)] (bVar 2)) (wFld [(0, 1)] (bVar 0)))) (aCons (wBin (opMul dnN) (wFld [(0, 1)] (bVar 0)) (wFld [(0, 1)] (bVar 2))) (aNil)))))
def t_Ratio___rsub__ : SW := sRet (wBin (opAdd dn1) (wUn (opNeg dn1) (wVar 0)) (wVar 1))
def t_Ratio___mul__ : SW := sSeq (sSet 2 (wCall sp_as_ratio [] (aCons (wVar 1) (aNil))))
  (sRet (wCall sp_Ratio___init__ [] (aCons (wBin (opMul dnN) (wFld [(0, 0)] (bVar 0)) (wFld [(0, 0)] (bVar 2))) (aCons (wBin (opMul dnN) (wFld [(0, 1)] (bVar 0)) (wFld [(0, 1)] (bVar 2))) (aNil)))))
def t_Ratio___rmul__ : SW := sRet (wBin (opMul dn1) (wVar 0) (wVar 1))
def t_Ratio___floordiv__ : SW := sSeq (sSet 2 (wCall sp_as_ratio [] (aCons (wVar 1) (aNil))))
  (sSeq (sIf (cBl (wBin (opEq dnN) (wFld [(0, 0)] (bVar 2)) (wLit (.int 0)))) (sRaise 2 aNil) (sNext))
  (sRet (wBin (opFdiv dnN) (wBin (opMul dnN) (wFld [(0, 0)] (bVar 0)) (wFld [(0, 1)] (bVar 2))) (wBin (opMul dnN) (wFld [(0, 1)] (bVar 0)) (wFld [(0, 0)] (bVar 2))))))
def t_Ratio___mod__ : SW := sSeq (sSet 2 (wCall sp_as_ratio [] (aCons (wVar 1) (aNil))))
  (sRet (wBin (opSub dn1) (wVar 0) (wBin (opMul dn1) (wVar 2) (wBin (opFdiv dn1) (wVar 0) (wVar 2)))))
def t_Ratio___pow__ : SW := sSeq (sIf (cNot (cBl (wChain (opLe dnN) (opLe dnN) (wLit (.int 0)) (wVar 1) (wCon [(0, .int 64)] (bVar 0))))) (sNever) (sNext))
  (sSeq (sSet 2 (wLit (.int 1)))
  (sSeq (sSet 3 (wLit (.int 1)))
  (sSeq (sFor (.nm 4) (iRng1 (wVar 1))
  (sSeq (sSet 2 (wBin (opMul dnN) (wVar 2) (wFld [(0, 0)] (bVar 0))))
  (sSet 3 (wBin (opMul dnN) (wVar 3) (wFld [(0, 1)] (bVar 0))))))
  (sRet (wCall sp_Ratio___init__ [] (aCons (wVar 2) (aCons (wVar 3) (aNil))))))))
def t_Ratio___neg__ : SW := sRet (wCall sp_Ratio___init__ [] (aCons (wUn (opNeg dnN) (wFld [(0, 0)] (bVar 0))) (aCons (wFld [(0, 1)] (bVar 0)) (aNil))))
def t_Ratio___abs__ : SW := sRet (wCall sp_Ratio___init__ [] (aCons (wBlt (bAbs dnN) (aConsR (bOf (wFld [(0, 0)] (bVar 0))) (aNil))) (aCons (wFld [(0, 1)] (bVar 0)) (aNil))))
def t_Ratio___bool__ : SW := sRet (wBlt (bBool dnN) (aConsR (bOf (wFld [(0, 0)] (bVar 0))) (aNil)))
def t_Ratio___eq__ : SW := sRet (wAnd (wIsC 0 (lVar 1)) (wAnd (wBin (opEq dnN) (wFld [(0, 0)] (bVar 0)) (wFld [(0, 0)] (bVar 1))) (wBin (opEq dnN) (wFld [(0, 1)] (bVar 0)) (wFld [(0, 1)] (bVar 1)))))
def t_Ratio___lt__ : SW := sSeq (sIf (cNot (cOfB (bOf (wIsC 0 (lVar 1))))) (sNever) (sNext))
  (sRet (wBin (opLt dnN) (wBin (opMul dnN) (wFld [(0, 0)] (bVar 0)) (wFld [(0, 1)] (bVar 1))) (wBin (opMul dnN) (wFld [(0, 0)] (bVar 1)) (wFld [(0, 1)] (bVar 0)))))
def t_Ratio___le__ : SW := sSeq (sIf (cNot (cOfB (bOf (wIsC 0 (lVar 1))))) (sNever) (sNext))
  (sRet (wBin (opLe dnN) (wBin (opMul dnN) (wFld [(0, 0)] (bVar 0)) (wFld [(0, 1)] (bVar 1))) (wBin (opMul dnN) (wFld [(0, 0)] (bVar 1)) (wFld [(0, 1)] (bVar 0)))))
def t_Ratio___gt__ : SW := sSeq (sIf (cNot (cOfB (bOf (wIsC 0 (lVar 1))))) (sNever) (sNext))
  (sRet (wBin (opGt dnN) (wBin (opMul dnN) (wFld [(0, 0)] (bVar 0)) (wFld [(0, 1)] (bVar 1))) (wBin (opMul dnN) (wFld [(0, 0)] (bVar 1)) (wFld [(0, 1)] (bVar 0)))))
def t_Ratio___ge__ : SW := sSeq (sIf (cNot (cOfB (bOf (wIsC 0 (lVar 1))))) (sNever) (sNext))
  (sRet (wBin (opGe dnN) (wBin (opMul dnN) (wFld [(0, 0)] (bVar 0)) (wFld [(0, 1)] (bVar 1))) (wBin (opMul dnN) (wFld [(0, 0)] (bVar 1)) (wFld [(0, 1)] (bVar 0)))))
def t_Ratio___str__ : SW := sSeq (sIf (cBl (wBin (opEq dnN) (wFld [(0, 1)] (bVar 0)) (wLit (.int 1)))) (sRet (wBlt (bStr dnN) (aConsR (bOf (wFld [(0, 0)] (bVar 0))) (aNil)))) (sNext))
  (sRet (wJoin [wFmt (wFld [(0, 0)] (bVar 0)), wLit (.str "/"), wFmt (wFld [(0, 1)] (bVar 0))]))
def t_as_ratio : SW := sSeq (sIf (cOfB (bOf (wIsC 0 (lVar 0)))) (sRet (wVar 0)) (sNext))
  (sRet (wCall sp_Ratio___init__ [.int 1] (aCons (wVar 0) (aNil))))
def t__law_cell : SW := sSeq (sIf (cBl (wBin (opLt dn) (wVar 1) (wBlt (bLen dn) (aConsR (lVar 0) (aNil))))) (sRet (wBlt (bAbs dn) (aConsR (bOf (wBinB opIx (lVar 0) (bOf (wVar 1)))) (aNil)))) (sNext))
  (sRet (wLit (.int 0)))
def t__law_draws : SW := sSeq (sOwn 3 (wLst (aNil)))
  (sSeq (sSet 4 (wBin (opSub dn) (wVar 0) (wBin (opPow dn) (wLit (.int 10)) (wLit (.int 18)))))
  (sSeq (sSet 5 (wBin (opAdd dn) (wVar 0) (wBin (opMul dn) (wLit (.int 7919)) (wVar 1))))
  (sSeq (sFor (.nm 6) (iRng1 (wBlt (bLen dn) (aConsR (lVar 2) (aNil))))
  (sIf (cBl (wBin (opGe dn) (wVar 4) (wLit (.int 0)))) (sSeq (sMeth 3 mAppend (aCons (wBin (opMod dn) (wBlt (bInt) (aConsR (lVar 4) (aNil))) (wBinB opIx (lVar 2) (bOf (wVar 6)))) (aNil)))
  (sSet 4 (wBin (opFdiv dn) (wVar 4) (wBinB opIx (lVar 2) (bOf (wVar 6)))))) (sSeq (sSet 5 (wBin (opMod dn) (wBlt (bInt) (aConsR (bOf (wBin (opAdd dn) (wBin (opAdd dn) (wBin (opMul dn) (wVar 5) (wVar 5)) (wBin (opMul dn) (wLit (.int 3571)) (wBin (opAdd dn) (wVar 6) (wLit (.int 1))))) (wLit (.int 40692)))) (aNil))) (wLit (.int 2147483399))))
  (sSeq (sSet 5 (wBin (opMod dn) (wBlt (bInt) (aConsR (bOf (wBin (opAdd dn) (wBin (opMul dn) (wVar 5) (wVar 5)) (wBin (opFdiv dn) (wVar 5) (wLit (.int 97))))) (aNil))) (wLit (.int 2147483629))))
  (sMeth 3 mAppend (aCons (wBin (opMod dn) (wBlt (bInt) (aConsR (bOf (wBin (opFdiv dn) (wVar 5) (wLit (.int 8)))) (aNil))) (wBinB opIx (lVar 2) (bOf (wVar 6)))) (aNil)))))))
  (sRetO 3))))
def t__law_gcd : SW := sSeq (sSet 0 (wBlt (bAbs dn) (aConsR (lVar 0) (aNil))))
  (sSeq (sSet 1 (wBlt (bAbs dn) (aConsR (lVar 1) (aNil))))
  (sSeq (sWhile (cBl (wBin (opGt dn) (wVar 1) (wLit (.int 0))))
  (sPar 0 1 (wVar 1) (wBin (opMod dn) (wBlt (bInt) (aConsR (lVar 0) (aNil))) (wVar 1))))
  (sRet (wVar 0))))
def t__law_is_int : SW := sRet (wAnd (wIsT .int (lVar 0)) (wNot (wIsT .bool (lVar 0))))
def t__law_is_ratio : SW := sSeq (sIf (cOr (cNot (cOfB (bOf (wIsC 0 (lVar 0))))) (cOr (cNot (cOfB (bOf (wCall sp__law_is_int [] (aCons (wFld [(0, 0)] (bVar 0)) (aNil)))))) (cNot (cOfB (bOf (wCall sp__law_is_int [] (aCons (wFld [(0, 1)] (bVar 0)) (aNil)))))))) (sRet (wLit (.bl false))) (sNext))
  (sRet (wAnd (wBin (opGe dn) (wFld [(0, 1)] (bVar 0)) (wLit (.int 1))) (wBin (opEq dn) (wCall sp__law_gcd [] (aCons (wFld [(0, 0)] (bVar 0)) (aCons (wFld [(0, 1)] (bVar 0)) (aNil)))) (wLit (.int 1)))))
def t__law_digits : SW := sSeq (sSet 2 (wLit (.int 0)))
  (sSeq (sFor (.nm 3) (iSeq (wCall sp__law_draws [] (aCons (wVar 0) (aCons (wVar 1) (aCons (wBin (opMul dn) (wLst (aCons (wBin (opPow dn) (wLit (.int 10)) (wLit (.int 10))) (aNil))) (wLit (.int 6))) (aNil))))))
  (sSet 2 (wBin (opAdd dn) (wBin (opMul dn) (wVar 2) (wBin (opPow dn) (wLit (.int 10)) (wLit (.int 10)))) (wVar 3))))
  (sRet (wVar 2)))
def t__law_numbers : SW := sSeq (sSet 1 (wCall sp__law_digits [] (aCons (wCall sp__law_cell [] (aCons (wVar 0) (aCons (wLit (.int 0)) (aNil)))) (aCons (wLit (.int 1)) (aNil)))))
  (sSeq (sSet 2 (wCall sp__law_digits [] (aCons (wCall sp__law_cell [] (aCons (wVar 0) (aCons (wLit (.int 1)) (aNil)))) (aCons (wLit (.int 2)) (aNil)))))
  (sSeq (sSet 3 (wCall sp__law_digits [] (aCons (wCall sp__law_cell [] (aCons (wVar 0) (aCons (wLit (.int 2)) (aNil)))) (aCons (wLit (.int 3)) (aNil)))))
  (sSeq (sSet 4 (wCall sp__law_draws [] (aCons (wCall sp__law_cell [] (aCons (wVar 0) (aCons (wLit (.int 3)) (aNil)))) (aCons (wLit (.int 39)) (aCons (wLst (aCons (wLit (.int 6)) (aCons (wLit (.int 8)) (aCons (wLit (.int 2)) (aCons (wLit (.int 2)) (aNil)))))) (aNil))))))
  (sCut (sIf (cBl (wBin (opEq dn) (wBinB opIx (lVar 4) (bOf (wLit (.int 0)))) (wLit (.int 1)))) (sSeq (sSet 1 (wBin (opMul dn) (wBin (opMod dn) (wBlt (bInt) (aConsR (lVar 1) (aNil))) (wBin (opPow dn) (wLit (.int 10)) (wLit (.int 30)))) (wBin (opAdd dn) (wLit (.int 1)) (wBin (opMod dn) (wBlt (bInt) (aConsR (lVar 3) (aNil))) (wBin (opPow dn) (wLit (.int 10)) (wLit (.int 29)))))))
  (sSet 2 (wBin (opMul dn) (wBin (opMod dn) (wBlt (bInt) (aConsR (lVar 2) (aNil))) (wBin (opPow dn) (wLit (.int 10)) (wLit (.int 30)))) (wBin (opAdd dn) (wLit (.int 1)) (wBin (opMod dn) (wBlt (bInt) (aConsR (lVar 3) (aNil))) (wBin (opPow dn) (wLit (.int 10)) (wLit (.int 29)))))))) (sNext))
  (sCut (sIf (cBl (wBin (opEq dn) (wBinB opIx (lVar 4) (bOf (wLit (.int 0)))) (wLit (.int 2)))) (sSeq (sSet 1 (wBin (opMul dn) (wBin (opMod dn) (wBlt (bInt) (aConsR (lVar 1) (aNil))) (wLit (.int 100))) (wBin (opAdd dn) (wLit (.int 1)) (wBin (opMod dn) (wBlt (bInt) (aConsR (lVar 3) (aNil))) (wLit (.int 60))))))
  (sSet 2 (wBin (opMul dn) (wBin (opMod dn) (wBlt (bInt) (aConsR (lVar 2) (aNil))) (wLit (.int 100))) (wBin (opAdd dn) (wLit (.int 1)) (wBin (opMod dn) (wBlt (bInt) (aConsR (lVar 3) (aNil))) (wLit (.int 60))))))) (sNext))
  (sCut (sIf (cBl (wBin (opEq dn) (wBinB opIx (lVar 4) (bOf (wLit (.int 0)))) (wLit (.int 3)))) (sSeq (sSet 2 (wBin (opMod dn) (wBlt (bInt) (aConsR (lVar 2) (aNil))) (wBin (opPow dn) (wLit (.int 10)) (wLit (.int 30)))))
  (sSet 1 (wBin (opMul dn) (wVar 2) (wBin (opMod dn) (wBlt (bInt) (aConsR (lVar 3) (aNil))) (wBin (opPow dn) (wLit (.int 10)) (wLit (.int 30))))))) (sNext))
  (sCut (sIf (cBl (wBin (opEq dn) (wBinB opIx (lVar 4) (bOf (wLit (.int 0)))) (wLit (.int 4)))) (sSeq (sSet 1 (wBin (opMod dn) (wBlt (bInt) (aConsR (lVar 1) (aNil))) (wBin (opPow dn) (wLit (.int 10)) (wLit (.int 30)))))
  (sSet 2 (wBin (opMul dn) (wVar 1) (wBin (opMod dn) (wBlt (bInt) (aConsR (lVar 3) (aNil))) (wBin (opPow dn) (wLit (.int 10)) (wLit (.int 30))))))) (sNext))
  (sCut (sIf (cBl (wBin (opEq dn) (wBinB opIx (lVar 4) (bOf (wLit (.int 0)))) (wLit (.int 5)))) (sSet 1 (wLit (.int 0))) (sNext))
  (sCut (sIf (cBl (wBin (opEq dn) (wBinB opIx (lVar 4) (bOf (wLit (.int 1)))) (wLit (.int 0)))) (sSet 2 (wLit (.int 0))) (sNext))
  (sCut (sIf (cBl (wBin (opEq dn) (wBinB opIx (lVar 4) (bOf (wLit (.int 2)))) (wLit (.int 1)))) (sSet 1 (wBin (opSub dn) (wLit (.int 0)) (wVar 1))) (sNext))
  (sCut (sIf (cBl (wBin (opEq dn) (wBinB opIx (lVar 4) (bOf (wLit (.int 3)))) (wLit (.int 1)))) (sSet 2 (wBin (opSub dn) (wLit (.int 0)) (wVar 2))) (sNext))
  (sRet (wTup (aCons (wVar 1) (aCons (wVar 2) (aNil))))))))))))))))
def t__law_shows : SW := sSeq (sIf (cOr (cNot (cOfB (bOf (wCall sp__law_is_ratio [] (aCons (wVar 0) (aNil)))))) (cBl (wBin (opNe dn) (wBin (opMul dn) (wFld [(0, 0)] (bVar 0)) (wVar 2)) (wBin (opMul dn) (wVar 1) (wFld [(0, 1)] (bVar 0)))))) (sRet (wLit (.bl false))) (sNext))
  (sSeq (sSet 3 (wBlt (bStr dn) (aConsR (bOf (wFld [(0, 0)] (bVar 0))) (aNil))))
  (sSeq (sIf (cBl (wBin (opEq dn) (wFld [(0, 1)] (bVar 0)) (wLit (.int 1)))) (sRet (wAnd (wBinB opIs (bOf (wProp 0 sp_Ratio_whole (wVar 0))) (bOf (wLit (.bl true)))) (wBin (opEq dn) (wBlt (bStr dn) (aConsR (lVar 0) (aNil))) (wVar 3)))) (sNext))
  (sRet (wAnd (wBinB opIs (bOf (wProp 0 sp_Ratio_whole (wVar 0))) (bOf (wLit (.bl false)))) (wBin (opEq dn) (wBlt (bStr dn) (aConsR (lVar 0) (aNil))) (wBin (opAdd dn) (wBin (opAdd dn) (wVar 3) (wLit (.str "/"))) (wBlt (bStr dn) (aConsR (bOf (wFld [(0, 1)] (bVar 0))) (aNil)))))))))
def t__law_refused : SW := sSeq (sSet 1 (wLst (aNil)))
  (sSeq (sTryAs 2 ct_WatchError (sDrop (wCall sp_Ratio___init__ [] (aCons (wVar 0) (aCons (wLit (.int 0)) (aNil)))))
  (sSet 1 (wLst (aCons (wIsX 2 ix_ZeroUnder) (aCons (wIsX 2 ix_ValueError) (aCons (wIsX 2 ix_BadNumber) (aCons (wIsX 2 ix_Refused) (aNil))))))))
  (sRet (wBin (opEq dn) (wVar 1) (wLst (aCons (wLit (.bl true)) (aCons (wLit (.bl true)) (aCons (wLit (.bl false)) (aCons (wLit (.bl false)) (aNil)))))))))
def t__law_part_a : SW := sSeq (sUnp (.tp [(.nm 1), (.nm 2)]) (wCall sp__law_numbers [] (aCons (wVar 0) (aNil))))
  (sSeq (sIf (cOr (cNot (cOfB (bOf (wCall sp__law_refused [] (aCons (wVar 1) (aNil)))))) (cNot (cOfB (bOf (wCall sp__law_refused [] (aCons (wLit (.int 0)) (aNil))))))) (sRet (wLit (.bl false))) (sNext))
  (sSeq (sIf (cOr (cNot (cOfB (bOf (wCall sp__law_shows [] (aCons (wCall sp_Ratio___init__ [.int 1] (aCons (wVar 1) (aNil))) (aCons (wVar 1) (aCons (wLit (.int 1)) (aNil)))))))) (cNot (cOfB (bOf (wCall sp__law_shows [] (aCons (wCall sp_as_ratio [] (aCons (wVar 1) (aNil))) (aCons (wVar 1) (aCons (wLit (.int 1)) (aNil))))))))) (sRet (wLit (.bl false))) (sNext))
  (sSeq (sIf (cBl (wBin (opEq dn) (wVar 2) (wLit (.int 0)))) (sRet (wLit (.bl true))) (sNext))
  (sSeq (sSet 3 (wCall sp_Ratio___init__ [] (aCons (wVar 1) (aCons (wVar 2) (aNil)))))
  (sSeq (sIf (cOr (cNot (cOfB (bOf (wCall sp__law_shows [] (aCons (wVar 3) (aCons (wVar 1) (aCons (wVar 2) (aNil)))))))) (cNot (cOfB (bOf (wCall sp__law_shows [] (aCons (wCall sp_as_ratio [] (aCons (wVar 3) (aNil))) (aCons (wVar 1) (aCons (wVar 2) (aNil))))))))) (sRet (wLit (.bl false))) (sNext))
  (sSeq (sIf (cOr (cNot (cOfB (bOf (wCall sp__law_shows [] (aCons (wCall sp_Ratio___init__ [] (aCons (wBin (opSub dn) (wLit (.int 0)) (wVar 1)) (aCons (wBin (opSub dn) (wLit (.int 0)) (wVar 2)) (aNil)))) (aCons (wVar 1) (aCons (wVar 2) (aNil)))))))) (cNot (cOfB (bOf (wCall sp__law_shows [] (aCons (wCall sp_Ratio___init__ [] (aCons (wBin (opSub dn) (wLit (.int 0)) (wVar 1)) (aCons (wVar 2) (aNil)))) (aCons (wBin (opSub dn) (wLit (.int 0)) (wVar 1)) (aCons (wVar 2) (aNil))))))))) (sRet (wLit (.bl false))) (sNext))
  (sSeq (sIf (cAnd (cBl (wBin (opNe dn) (wVar 1) (wLit (.int 0)))) (cNot (cOfB (bOf (wCall sp__law_shows [] (aCons (wCall sp_Ratio___init__ [] (aCons (wVar 2) (aCons (wVar 1) (aNil)))) (aCons (wVar 2) (aCons (wVar 1) (aNil))))))))) (sRet (wLit (.bl false))) (sNext))
  (sRet (wAnd (wCall sp__law_shows [] (aCons (wCall sp_Ratio___init__ [] (aCons (wFld [(0, 0)] (bVar 3)) (aCons (wFld [(0, 1)] (bVar 3)) (aNil)))) (aCons (wVar 1) (aCons (wVar 2) (aNil))))) (wCall sp__law_shows [] (aCons (wVar 3) (aCons (wVar 1) (aCons (wVar 2) (aNil))))))))))))))
def t__law_worth : SW := sRet (wAnd (wCall sp__law_is_ratio [] (aCons (wVar 0) (aNil))) (wBin (opEq dn) (wBin (opMul dn) (wFld [(0, 0)] (bVar 0)) (wVar 2)) (wBin (opMul dn) (wVar 1) (wFld [(0, 1)] (bVar 0)))))
def t__law_fraction : SW := sSeq (sSet 3 (wCall sp__law_digits [] (aCons (wCall sp__law_cell [] (aCons (wVar 0) (aCons (wVar 1) (aNil)))) (aCons (wBin (opAdd dn) (wLit (.int 10)) (wVar 1)) (aNil)))))
  (sSeq (sSet 4 (wCall sp__law_digits [] (aCons (wCall sp__law_cell [] (aCons (wVar 0) (aCons (wBin (opAdd dn) (wVar 1) (wLit (.int 1))) (aNil)))) (aCons (wBin (opAdd dn) (wLit (.int 11)) (wVar 1)) (aNil)))))
  (sSeq (sIf (cBl (wBin (opEq dn) (wVar 2) (wLit (.int 1)))) (sSeq (sSet 3 (wBin (opMod dn) (wBlt (bInt) (aConsR (lVar 3) (aNil))) (wLit (.int 100))))
  (sSet 4 (wBin (opMod dn) (wBlt (bInt) (aConsR (lVar 4) (aNil))) (wLit (.int 100))))) (sNext))
  (sSeq (sIf (cBl (wBin (opGe dn) (wVar 2) (wLit (.int 2)))) (sSeq (sSet 3 (wBin (opMod dn) (wBlt (bInt) (aConsR (lVar 3) (aNil))) (wBin (opPow dn) (wLit (.int 10)) (wLit (.int 12)))))
  (sSet 4 (wBin (opMod dn) (wBlt (bInt) (aConsR (lVar 4) (aNil))) (wBin (opPow dn) (wLit (.int 10)) (wLit (.int 12)))))) (sNext))
  (sRet (wTup (aCons (wVar 3) (aCons (wBin (opAdd dn) (wLit (.int 1)) (wBin (opMod dn) (wBlt (bInt) (aConsR (lVar 4) (aNil))) (wBin (opSub dn) (wBin (opPow dn) (wLit (.int 10)) (wLit (.int 60))) (wLit (.int 1))))) (aNil))))))))
def t__law_power_to_21 : SW := sSeq (sIf (cBl (wBin (opEq dn) (wVar 1) (wLit (.int 0)))) (sRet (wBin (opPow dn) (wVar 0) (wLit (.int 0)))) (sNext))
  (sSeq (sIf (cBl (wBin (opEq dn) (wVar 1) (wLit (.int 1)))) (sRet (wBin (opPow dn) (wVar 0) (wLit (.int 1)))) (sNext))
  (sSeq (sIf (cBl (wBin (opEq dn) (wVar 1) (wLit (.int 2)))) (sRet (wBin (opPow dn) (wVar 0) (wLit (.int 2)))) (sNext))
  (sSeq (sIf (cBl (wBin (opEq dn) (wVar 1) (wLit (.int 3)))) (sRet (wBin (opPow dn) (wVar 0) (wLit (.int 3)))) (sNext))
  (sSeq (sIf (cBl (wBin (opEq dn) (wVar 1) (wLit (.int 4)))) (sRet (wBin (opPow dn) (wVar 0) (wLit (.int 4)))) (sNext))
  (sSeq (sIf (cBl (wBin (opEq dn) (wVar 1) (wLit (.int 5)))) (sRet (wBin (opPow dn) (wVar 0) (wLit (.int 5)))) (sNext))
  (sSeq (sIf (cBl (wBin (opEq dn) (wVar 1) (wLit (.int 6)))) (sRet (wBin (opPow dn) (wVar 0) (wLit (.int 6)))) (sNext))
  (sSeq (sIf (cBl (wBin (opEq dn) (wVar 1) (wLit (.int 7)))) (sRet (wBin (opPow dn) (wVar 0) (wLit (.int 7)))) (sNext))
  (sSeq (sIf (cBl (wBin (opEq dn) (wVar 1) (wLit (.int 8)))) (sRet (wBin (opPow dn) (wVar 0) (wLit (.int 8)))) (sNext))
  (sSeq (sIf (cBl (wBin (opEq dn) (wVar 1) (wLit (.int 9)))) (sRet (wBin (opPow dn) (wVar 0) (wLit (.int 9)))) (sNext))
  (sSeq (sIf (cBl (wBin (opEq dn) (wVar 1) (wLit (.int 10)))) (sRet (wBin (opPow dn) (wVar 0) (wLit (.int 10)))) (sNext))
  (sSeq (sIf (cBl (wBin (opEq dn) (wVar 1) (wLit (.int 11)))) (sRet (wBin (opPow dn) (wVar 0) (wLit (.int 11)))) (sNext))
  (sSeq (sIf (cBl (wBin (opEq dn) (wVar 1) (wLit (.int 12)))) (sRet (wBin (opPow dn) (wVar 0) (wLit (.int 12)))) (sNext))
  (sSeq (sIf (cBl (wBin (opEq dn) (wVar 1) (wLit (.int 13)))) (sRet (wBin (opPow dn) (wVar 0) (wLit (.int 13)))) (sNext))
  (sSeq (sIf (cBl (wBin (opEq dn) (wVar 1) (wLit (.int 14)))) (sRet (wBin (opPow dn) (wVar 0) (wLit (.int 14)))) (sNext))
  (sSeq (sIf (cBl (wBin (opEq dn) (wVar 1) (wLit (.int 15)))) (sRet (wBin (opPow dn) (wVar 0) (wLit (.int 15)))) (sNext))
  (sSeq (sIf (cBl (wBin (opEq dn) (wVar 1) (wLit (.int 16)))) (sRet (wBin (opPow dn) (wVar 0) (wLit (.int 16)))) (sNext))
  (sSeq (sIf (cBl (wBin (opEq dn) (wVar 1) (wLit (.int 17)))) (sRet (wBin (opPow dn) (wVar 0) (wLit (.int 17)))) (sNext))
  (sSeq (sIf (cBl (wBin (opEq dn) (wVar 1) (wLit (.int 18)))) (sRet (wBin (opPow dn) (wVar 0) (wLit (.int 18)))) (sNext))
  (sSeq (sIf (cBl (wBin (opEq dn) (wVar 1) (wLit (.int 19)))) (sRet (wBin (opPow dn) (wVar 0) (wLit (.int 19)))) (sNext))
  (sSeq (sIf (cBl (wBin (opEq dn) (wVar 1) (wLit (.int 20)))) (sRet (wBin (opPow dn) (wVar 0) (wLit (.int 20)))) (sNext))
  (sRet (wBin (opPow dn) (wVar 0) (wLit (.int 21))))))))))))))))))))))))
def t__law_power_to_43 : SW := sSeq (sIf (cBl (wBin (opEq dn) (wVar 1) (wLit (.int 22)))) (sRet (wBin (opPow dn) (wVar 0) (wLit (.int 22)))) (sNext))
  (sSeq (sIf (cBl (wBin (opEq dn) (wVar 1) (wLit (.int 23)))) (sRet (wBin (opPow dn) (wVar 0) (wLit (.int 23)))) (sNext))
  (sSeq (sIf (cBl (wBin (opEq dn) (wVar 1) (wLit (.int 24)))) (sRet (wBin (opPow dn) (wVar 0) (wLit (.int 24)))) (sNext))
  (sSeq (sIf (cBl (wBin (opEq dn) (wVar 1) (wLit (.int 25)))) (sRet (wBin (opPow dn) (wVar 0) (wLit (.int 25)))) (sNext))
  (sSeq (sIf (cBl (wBin (opEq dn) (wVar 1) (wLit (.int 26)))) (sRet (wBin (opPow dn) (wVar 0) (wLit (.int 26)))) (sNext))
  (sSeq (sIf (cBl (wBin (opEq dn) (wVar 1) (wLit (.int 27)))) (sRet (wBin (opPow dn) (wVar 0) (wLit (.int 27)))) (sNext))
  (sSeq (sIf (cBl (wBin (opEq dn) (wVar 1) (wLit (.int 28)))) (sRet (wBin (opPow dn) (wVar 0) (wLit (.int 28)))) (sNext))
  (sSeq (sIf (cBl (wBin (opEq dn) (wVar 1) (wLit (.int 29)))) (sRet (wBin (opPow dn) (wVar 0) (wLit (.int 29)))) (sNext))
  (sSeq (sIf (cBl (wBin (opEq dn) (wVar 1) (wLit (.int 30)))) (sRet (wBin (opPow dn) (wVar 0) (wLit (.int 30)))) (sNext))
  (sSeq (sIf (cBl (wBin (opEq dn) (wVar 1) (wLit (.int 31)))) (sRet (wBin (opPow dn) (wVar 0) (wLit (.int 31)))) (sNext))
  (sSeq (sIf (cBl (wBin (opEq dn) (wVar 1) (wLit (.int 32)))) (sRet (wBin (opPow dn) (wVar 0) (wLit (.int 32)))) (sNext))
  (sSeq (sIf (cBl (wBin (opEq dn) (wVar 1) (wLit (.int 33)))) (sRet (wBin (opPow dn) (wVar 0) (wLit (.int 33)))) (sNext))
  (sSeq (sIf (cBl (wBin (opEq dn) (wVar 1) (wLit (.int 34)))) (sRet (wBin (opPow dn) (wVar 0) (wLit (.int 34)))) (sNext))
  (sSeq (sIf (cBl (wBin (opEq dn) (wVar 1) (wLit (.int 35)))) (sRet (wBin (opPow dn) (wVar 0) (wLit (.int 35)))) (sNext))
  (sSeq (sIf (cBl (wBin (opEq dn) (wVar 1) (wLit (.int 36)))) (sRet (wBin (opPow dn) (wVar 0) (wLit (.int 36)))) (sNext))
  (sSeq (sIf (cBl (wBin (opEq dn) (wVar 1) (wLit (.int 37)))) (sRet (wBin (opPow dn) (wVar 0) (wLit (.int 37)))) (sNext))
  (sSeq (sIf (cBl (wBin (opEq dn) (wVar 1) (wLit (.int 38)))) (sRet (wBin (opPow dn) (wVar 0) (wLit (.int 38)))) (sNext))
  (sSeq (sIf (cBl (wBin (opEq dn) (wVar 1) (wLit (.int 39)))) (sRet (wBin (opPow dn) (wVar 0) (wLit (.int 39)))) (sNext))
  (sSeq (sIf (cBl (wBin (opEq dn) (wVar 1) (wLit (.int 40)))) (sRet (wBin (opPow dn) (wVar 0) (wLit (.int 40)))) (sNext))
  (sSeq (sIf (cBl (wBin (opEq dn) (wVar 1) (wLit (.int 41)))) (sRet (wBin (opPow dn) (wVar 0) (wLit (.int 41)))) (sNext))
  (sSeq (sIf (cBl (wBin (opEq dn) (wVar 1) (wLit (.int 42)))) (sRet (wBin (opPow dn) (wVar 0) (wLit (.int 42)))) (sNext))
  (sRet (wBin (opPow dn) (wVar 0) (wLit (.int 43))))))))))))))))))))))))
def t__law_power_to_64 : SW := sSeq (sIf (cBl (wBin (opEq dn) (wVar 1) (wLit (.int 44)))) (sRet (wBin (opPow dn) (wVar 0) (wLit (.int 44)))) (sNext))
  (sSeq (sIf (cBl (wBin (opEq dn) (wVar 1) (wLit (.int 45)))) (sRet (wBin (opPow dn) (wVar 0) (wLit (.int 45)))) (sNext))
  (sSeq (sIf (cBl (wBin (opEq dn) (wVar 1) (wLit (.int 46)))) (sRet (wBin (opPow dn) (wVar 0) (wLit (.int 46)))) (sNext))
  (sSeq (sIf (cBl (wBin (opEq dn) (wVar 1) (wLit (.int 47)))) (sRet (wBin (opPow dn) (wVar 0) (wLit (.int 47)))) (sNext))
  (sSeq (sIf (cBl (wBin (opEq dn) (wVar 1) (wLit (.int 48)))) (sRet (wBin (opPow dn) (wVar 0) (wLit (.int 48)))) (sNext))
  (sSeq (sIf (cBl (wBin (opEq dn) (wVar 1) (wLit (.int 49)))) (sRet (wBin (opPow dn) (wVar 0) (wLit (.int 49)))) (sNext))
  (sSeq (sIf (cBl (wBin (opEq dn) (wVar 1) (wLit (.int 50)))) (sRet (wBin (opPow dn) (wVar 0) (wLit (.int 50)))) (sNext))
  (sSeq (sIf (cBl (wBin (opEq dn) (wVar 1) (wLit (.int 51)))) (sRet (wBin (opPow dn) (wVar 0) (wLit (.int 51)))) (sNext))
  (sSeq (sIf (cBl (wBin (opEq dn) (wVar 1) (wLit (.int 52)))) (sRet (wBin (opPow dn) (wVar 0) (wLit (.int 52)))) (sNext))
  (sSeq (sIf (cBl (wBin (opEq dn) (wVar 1) (wLit (.int 53)))) (sRet (wBin (opPow dn) (wVar 0) (wLit (.int 53)))) (sNext))
  (sSeq (sIf (cBl (wBin (opEq dn) (wVar 1) (wLit (.int 54)))) (sRet (wBin (opPow dn) (wVar 0) (wLit (.int 54)))) (sNext))
  (sSeq (sIf (cBl (wBin (opEq dn) (wVar 1) (wLit (.int 55)))) (sRet (wBin (opPow dn) (wVar 0) (wLit (.int 55)))) (sNext))
  (sSeq (sIf (cBl (wBin (opEq dn) (wVar 1) (wLit (.int 56)))) (sRet (wBin (opPow dn) (wVar 0) (wLit (.int 56)))) (sNext))
  (sSeq (sIf (cBl (wBin (opEq dn) (wVar 1) (wLit (.int 57)))) (sRet (wBin (opPow dn) (wVar 0) (wLit (.int 57)))) (sNext))
  (sSeq (sIf (cBl (wBin (opEq dn) (wVar 1) (wLit (.int 58)))) (sRet (wBin (opPow dn) (wVar 0) (wLit (.int 58)))) (sNext))
  (sSeq (sIf (cBl (wBin (opEq dn) (wVar 1) (wLit (.int 59)))) (sRet (wBin (opPow dn) (wVar 0) (wLit (.int 59)))) (sNext))
  (sSeq (sIf (cBl (wBin (opEq dn) (wVar 1) (wLit (.int 60)))) (sRet (wBin (opPow dn) (wVar 0) (wLit (.int 60)))) (sNext))
  (sSeq (sIf (cBl (wBin (opEq dn) (wVar 1) (wLit (.int 61)))) (sRet (wBin (opPow dn) (wVar 0) (wLit (.int 61)))) (sNext))
  (sSeq (sIf (cBl (wBin (opEq dn) (wVar 1) (wLit (.int 62)))) (sRet (wBin (opPow dn) (wVar 0) (wLit (.int 62)))) (sNext))
  (sSeq (sIf (cBl (wBin (opEq dn) (wVar 1) (wLit (.int 63)))) (sRet (wBin (opPow dn) (wVar 0) (wLit (.int 63)))) (sNext))
  (sRet (wBin (opPow dn) (wVar 0) (wLit (.int 64)))))))))))))))))))))))
def t__law_power : SW := sSeq (sIf (cBl (wBin (opLt dn) (wVar 1) (wLit (.int 22)))) (sRet (wCall sp__law_power_to_21 [] (aCons (wVar 0) (aCons (wVar 1) (aNil))))) (sNext))
  (sSeq (sIf (cBl (wBin (opLt dn) (wVar 1) (wLit (.int 44)))) (sRet (wCall sp__law_power_to_43 [] (aCons (wVar 0) (aCons (wVar 1) (aNil))))) (sNext))
  (sRet (wCall sp__law_power_to_64 [] (aCons (wVar 0) (aCons (wVar 1) (aNil))))))
def t__law_sums : SW := sSeq (sIf (cOr (cNot (cOfB (bOf (wCall sp__law_worth [] (aCons (wBin (opAdd dn) (wVar 0) (wVar 1)) (aCons (wBin (opAdd dn) (wBin (opMul dn) (wVar 2) (wVar 5)) (wBin (opMul dn) (wVar 4) (wVar 3))) (aCons (wBin (opMul dn) (wVar 3) (wVar 5)) (aNil)))))))) (cNot (cOfB (bOf (wCall sp__law_worth [] (aCons (wBin (opSub dn) (wVar 0) (wVar 1)) (aCons (wBin (opSub dn) (wBin (opMul dn) (wVar 2) (wVar 5)) (wBin (opMul dn) (wVar 4) (wVar 3))) (aCons (wBin (opMul dn) (wVar 3) (wVar 5)) (aNil))))))))) (sRet (wLit (.bl false))) (sNext))
  (sRet (wCall sp__law_worth [] (aCons (wBin (opMul dn) (wVar 0) (wVar 1)) (aCons (wBin (opMul dn) (wVar 2) (wVar 4)) (aCons (wBin (opMul dn) (wVar 3) (wVar 5)) (aNil))))))
def t__law_signs : SW := sRet (wAnd (wCall sp__law_worth [] (aCons (wUn (opNeg dn) (wVar 0)) (aCons (wBin (opSub dn) (wLit (.int 0)) (wVar 1)) (aCons (wVar 2) (aNil))))) (wAnd (wCall sp__law_worth [] (aCons (wBlt (bAbs dn) (aConsR (lVar 0) (aNil))) (aCons (wBlt (bAbs dn) (aConsR (lVar 1) (aNil))) (aCons (wVar 2) (aNil))))) (wCall sp__law_worth [] (aCons (wVar 0) (aCons (wVar 1) (aCons (wVar 2) (aNil)))))))
def t__law_powers : SW := sSeq (sSet 5 (wLit (.int 1)))
  (sSeq (sSet 6 (wLit (.int 1)))
  (sSeq (sFor (.nm 7) (iRng1 (wVar 4))
  (sSeq (sSet 5 (wBin (opMul dn) (wVar 5) (wVar 2)))
  (sSet 6 (wBin (opMul dn) (wVar 6) (wVar 3)))))
  (sSeq (sIf (cOr (cNot (cOfB (bOf (wCall sp__law_worth [] (aCons (wCall sp__law_power [] (aCons (wVar 0) (aCons (wVar 4) (aNil)))) (aCons (wVar 5) (aCons (wVar 6) (aNil)))))))) (cNot (cOfB (bOf (wCall sp__law_worth [] (aCons (wVar 0) (aCons (wVar 2) (aCons (wVar 3) (aNil))))))))) (sRet (wLit (.bl false))) (sNext))
  (sRet (wAnd (wCall sp__law_worth [] (aCons (wCall sp__law_power [] (aCons (wVar 1) (aCons (wVar 4) (aNil)))) (aCons (wBlt (bInt) (aConsR (bOf (wBin (opEq dn) (wVar 4) (wLit (.int 0)))) (aNil))) (aCons (wLit (.int 1)) (aNil))))) (wCall sp__law_worth [] (aCons (wBin (opPow dn) (wVar 1) (wLit (.int 0))) (aCons (wLit (.int 1)) (aCons (wLit (.int 1)) (aNil))))))))))
def t__law_part_b : SW := sSeq (sSet 1 (wCall sp__law_draws [] (aCons (wCall sp__law_cell [] (aCons (wVar 0) (aCons (wLit (.int 6)) (aNil)))) (aCons (wLit (.int 75)) (aCons (wLst (aCons (wLit (.int 4)) (aCons (wLit (.int 2)) (aCons (wLit (.int 2)) (aCons (wLit (.int 2)) (aCons (wLit (.int 2)) (aCons (wLit (.int 65)) (aCons (wLit (.int 4)) (aNil))))))))) (aNil))))))
  (sSeq (sUnp (.tp [(.nm 2), (.nm 3)]) (wCall sp__law_fraction [] (aCons (wVar 0) (aCons (wLit (.int 0)) (aCons (wBinB opIx (lVar 1) (bOf (wLit (.int 0)))) (aNil))))))
  (sSeq (sUnp (.tp [(.nm 4), (.nm 5)]) (wCall sp__law_fraction [] (aCons (wVar 0) (aCons (wLit (.int 2)) (aCons (wBinB opIx (lVar 1) (bOf (wLit (.int 0)))) (aNil))))))
  (sSeq (sUnp (.tp [(.nm 6), (.nm 7)]) (wCall sp__law_fraction [] (aCons (wVar 0) (aCons (wLit (.int 4)) (aCons (wBin (opSub dn) (wLit (.int 2)) (wBinB opIx (lVar 1) (bOf (wLit (.int 4))))) (aNil))))))
  (sCut (sIf (cBl (wBin (opEq dn) (wBinB opIx (lVar 1) (bOf (wLit (.int 1)))) (wLit (.int 1)))) (sSet 2 (wBin (opSub dn) (wLit (.int 0)) (wVar 2))) (sNext))
  (sCut (sIf (cBl (wBin (opEq dn) (wBinB opIx (lVar 1) (bOf (wLit (.int 2)))) (wLit (.int 1)))) (sSet 4 (wBin (opSub dn) (wLit (.int 0)) (wVar 4))) (sNext))
  (sCut (sIf (cBl (wBin (opEq dn) (wBinB opIx (lVar 1) (bOf (wLit (.int 3)))) (wLit (.int 1)))) (sSet 6 (wBin (opSub dn) (wLit (.int 0)) (wVar 6))) (sNext))
  (sCut (sIf (cBl (wBin (opLe dn) (wBinB opIx (lVar 1) (bOf (wLit (.int 6)))) (wLit (.int 1)))) (sSet 5 (wVar 3)) (sNext))
  (sCut (sIf (cBl (wBin (opEq dn) (wBinB opIx (lVar 1) (bOf (wLit (.int 6)))) (wLit (.int 1)))) (sSet 4 (wBin (opSub dn) (wLit (.int 0)) (wVar 2))) (sNext))
  (sSeq (sSet 8 (wCall sp_Ratio___init__ [] (aCons (wVar 2) (aCons (wVar 3) (aNil)))))
  (sSeq (sSet 9 (wCall sp_Ratio___init__ [] (aCons (wVar 4) (aCons (wVar 5) (aNil)))))
  (sSeq (sIf (cOr (cNot (cOfB (bOf (wCall sp__law_sums [] (aCons (wVar 8) (aCons (wVar 9) (aCons (wVar 2) (aCons (wVar 3) (aCons (wVar 4) (aCons (wVar 5) (aNil))))))))))) (cNot (cOfB (bOf (wCall sp__law_sums [] (aCons (wVar 9) (aCons (wVar 8) (aCons (wVar 4) (aCons (wVar 5) (aCons (wVar 2) (aCons (wVar 3) (aNil)))))))))))) (sRet (wLit (.bl false))) (sNext))
  (sSeq (sIf (cOr (cNot (cOfB (bOf (wCall sp__law_sums [] (aCons (wVar 8) (aCons (wVar 4) (aCons (wVar 2) (aCons (wVar 3) (aCons (wVar 4) (aCons (wLit (.int 1)) (aNil))))))))))) (cOr (cNot (cOfB (bOf (wCall sp__law_sums [] (aCons (wVar 4) (aCons (wVar 8) (aCons (wVar 4) (aCons (wLit (.int 1)) (aCons (wVar 2) (aCons (wVar 3) (aNil))))))))))) (cNot (cOfB (bOf (wCall sp__law_sums [] (aCons (wVar 8) (aCons (wVar 8) (aCons (wVar 2) (aCons (wVar 3) (aCons (wVar 2) (aCons (wVar 3) (aNil))))))))))))) (sRet (wLit (.bl false))) (sNext))
  (sSeq (sIf (cNot (cOfB (bOf (wCall sp__law_worth [] (aCons (wBin (opMul dn) (wBin (opAdd dn) (wVar 8) (wVar 9)) (wBin (opSub dn) (wVar 8) (wVar 9))) (aCons (wBin (opMul dn) (wBin (opAdd dn) (wBin (opMul dn) (wVar 2) (wVar 5)) (wBin (opMul dn) (wVar 4) (wVar 3))) (wBin (opSub dn) (wBin (opMul dn) (wVar 2) (wVar 5)) (wBin (opMul dn) (wVar 4) (wVar 3)))) (aCons (wBin (opMul dn) (wBin (opMul dn) (wBin (opMul dn) (wVar 3) (wVar 5)) (wVar 3)) (wVar 5)) (aNil)))))))) (sRet (wLit (.bl false))) (sNext))
  (sSeq (sIf (cNot (cOfB (bOf (wCall sp__law_powers [] (aCons (wCall sp_Ratio___init__ [] (aCons (wVar 6) (aCons (wVar 7) (aNil)))) (aCons (wBin (opSub dn) (wVar 8) (wVar 8)) (aCons (wVar 6) (aCons (wVar 7) (aCons (wBinB opIx (lVar 1) (bOf (wLit (.int 5)))) (aNil)))))))))) (sRet (wLit (.bl false))) (sNext))
  (sSeq (sSet 10 (wVar 8))
  (sSeq (sAug 10 (opObj dn .add) (wVar 9))
  (sSeq (sAug 10 (opObj dn .mul) (wVar 9))
  (sSeq (sIf (cNot (cOfB (bOf (wCall sp__law_worth [] (aCons (wVar 10) (aCons (wBin (opMul dn) (wBin (opAdd dn) (wBin (opMul dn) (wVar 2) (wVar 5)) (wBin (opMul dn) (wVar 4) (wVar 3))) (wVar 4)) (aCons (wBin (opMul dn) (wBin (opMul dn) (wVar 3) (wVar 5)) (wVar 5)) (aNil)))))))) (sRet (wLit (.bl false))) (sNext))
  (sSeq (sAug 10 (opObj dn .sub) (wVar 8))
  (sSeq (sIf (cNot (cOfB (bOf (wCall sp__law_worth [] (aCons (wVar 10) (aCons (wBin (opSub dn) (wBin (opMul dn) (wBin (opMul dn) (wBin (opAdd dn) (wBin (opMul dn) (wVar 2) (wVar 5)) (wBin (opMul dn) (wVar 4) (wVar 3))) (wVar 4)) (wVar 3)) (wBin (opMul dn) (wBin (opMul dn) (wBin (opMul dn) (wVar 2) (wVar 3)) (wVar 5)) (wVar 5))) (aCons (wBin (opMul dn) (wBin (opMul dn) (wBin (opMul dn) (wVar 3) (wVar 5)) (wVar 5)) (wVar 3)) (aNil)))))))) (sRet (wLit (.bl false))) (sNext))
  (sRet (wAnd (wCall sp__law_signs [] (aCons (wVar 9) (aCons (wVar 4) (aCons (wVar 5) (aNil))))) (wCall sp__law_signs [] (aCons (wVar 8) (aCons (wVar 2) (aCons (wVar 3) (aNil)))))))))))))))))))))))))))
def t__law_fraction_c : SW := sSeq (sSet 3 (wCall sp__law_digits [] (aCons (wCall sp__law_cell [] (aCons (wVar 0) (aCons (wVar 1) (aNil)))) (aCons (wBin (opAdd dn) (wLit (.int 20)) (wVar 1)) (aNil)))))
  (sSeq (sSet 4 (wCall sp__law_digits [] (aCons (wCall sp__law_cell [] (aCons (wVar 0) (aCons (wBin (opAdd dn) (wVar 1) (wLit (.int 1))) (aNil)))) (aCons (wBin (opAdd dn) (wLit (.int 21)) (wVar 1)) (aNil)))))
  (sSeq (sIf (cBl (wBin (opEq dn) (wVar 2) (wLit (.int 1)))) (sSeq (sSet 3 (wBin (opMod dn) (wBlt (bInt) (aConsR (lVar 3) (aNil))) (wLit (.int 100))))
  (sSet 4 (wBin (opMod dn) (wBlt (bInt) (aConsR (lVar 4) (aNil))) (wLit (.int 100))))) (sNext))
  (sSeq (sIf (cBl (wBin (opEq dn) (wVar 2) (wLit (.int 2)))) (sSeq (sSet 3 (wBin (opMod dn) (wBlt (bInt) (aConsR (lVar 3) (aNil))) (wBin (opPow dn) (wLit (.int 10)) (wLit (.int 12)))))
  (sSet 4 (wBin (opMod dn) (wBlt (bInt) (aConsR (lVar 4) (aNil))) (wBin (opPow dn) (wLit (.int 10)) (wLit (.int 12)))))) (sNext))
  (sSeq (sIf (cBl (wBin (opEq dn) (wVar 2) (wLit (.int 3)))) (sSeq (sSet 3 (wBin (opMod dn) (wBlt (bInt) (aConsR (lVar 3) (aNil))) (wBin (opPow dn) (wLit (.int 10)) (wLit (.int 30)))))
  (sSet 4 (wBin (opMod dn) (wBlt (bInt) (aConsR (lVar 4) (aNil))) (wBin (opPow dn) (wLit (.int 10)) (wLit (.int 30)))))) (sNext))
  (sRet (wTup (aCons (wVar 3) (aCons (wBin (opAdd dn) (wLit (.int 1)) (wBin (opMod dn) (wBlt (bInt) (aConsR (lVar 4) (aNil))) (wBin (opSub dn) (wBin (opPow dn) (wLit (.int 10)) (wLit (.int 60))) (wLit (.int 1))))) (aNil)))))))))
def t__law_two_fractions : SW := sSeq (sSet 1 (wCall sp__law_draws [] (aCons (wCall sp__law_cell [] (aCons (wVar 0) (aCons (wLit (.int 5)) (aNil)))) (aCons (wLit (.int 69)) (aCons (wLst (aCons (wLit (.int 4)) (aCons (wLit (.int 2)) (aCons (wLit (.int 2)) (aCons (wLit (.int 6)) (aNil)))))) (aNil))))))
  (sSeq (sSet 2 (wBinB opIx (lVar 1) (bOf (wLit (.int 0)))))
  (sCut (sIf (cAnd (cBl (wBin (opLe dn) (wBinB opIx (lVar 1) (bOf (wLit (.int 3)))) (wLit (.int 2)))) (cBl (wBin (opEq dn) (wVar 2) (wLit (.int 0))))) (sSet 2 (wLit (.int 3))) (sNext))
  (sSeq (sUnp (.tp [(.nm 3), (.nm 4)]) (wCall sp__law_fraction_c [] (aCons (wVar 0) (aCons (wLit (.int 0)) (aCons (wVar 2) (aNil))))))
  (sSeq (sUnp (.tp [(.nm 5), (.nm 6)]) (wCall sp__law_fraction_c [] (aCons (wVar 0) (aCons (wLit (.int 2)) (aCons (wVar 2) (aNil))))))
  (sSeq (sSet 7 (wBin (opAdd dn) (wLit (.int 1)) (wBin (opMod dn) (wBlt (bInt) (aConsR (bOf (wCall sp__law_digits [] (aCons (wCall sp__law_cell [] (aCons (wVar 0) (aCons (wLit (.int 4)) (aNil)))) (aCons (wLit (.int 24)) (aNil))))) (aNil))) (wBin (opPow dn) (wLit (.int 10)) (wLit (.int 29))))))
  (sCut (sIf (cBl (wBin (opEq dn) (wVar 2) (wLit (.int 1)))) (sSet 7 (wBin (opAdd dn) (wLit (.int 1)) (wBin (opMod dn) (wBlt (bInt) (aConsR (lVar 7) (aNil))) (wLit (.int 60))))) (sNext))
  (sCut (sIf (cBl (wBin (opEq dn) (wBinB opIx (lVar 1) (bOf (wLit (.int 3)))) (wLit (.int 2)))) (sSeq (sSet 5 (wVar 3))
  (sSeq (sSet 3 (wBin (opMul dn) (wVar 3) (wVar 4)))
  (sSet 6 (wLit (.int 1))))) (sNext))
  (sCut (sIf (cBl (wBin (opEq dn) (wBinB opIx (lVar 1) (bOf (wLit (.int 1)))) (wLit (.int 1)))) (sSeq (sSet 3 (wBin (opSub dn) (wLit (.int 0)) (wVar 3)))
  (sSet 5 (wBin (opSub dn) (wLit (.int 0)) (wVar 5)))) (sNext))
  (sCut (sIf (cAnd (cBl (wBin (opEq dn) (wBinB opIx (lVar 1) (bOf (wLit (.int 2)))) (wLit (.int 1)))) (cBl (wBin (opGe dn) (wBinB opIx (lVar 1) (bOf (wLit (.int 3)))) (wLit (.int 4))))) (sSet 5 (wBin (opSub dn) (wLit (.int 0)) (wVar 5))) (sNext))
  (sCut (sIf (cBl (wBin (opLe dn) (wBinB opIx (lVar 1) (bOf (wLit (.int 3)))) (wLit (.int 1)))) (sSeq (sSet 5 (wBin (opAdd dn) (wBin (opMul dn) (wVar 3) (wVar 7)) (wBinB opIx (lVar 1) (bOf (wLit (.int 3))))))
  (sSet 6 (wBin (opMul dn) (wVar 4) (wVar 7)))) (sNext))
  (sCut (sIf (cBl (wBin (opEq dn) (wBinB opIx (lVar 1) (bOf (wLit (.int 3)))) (wLit (.int 3)))) (sSet 5 (wLit (.int 0))) (sNext))
  (sRet (wTup (aCons (wVar 3) (aCons (wVar 4) (aCons (wVar 5) (aCons (wVar 6) (aNil))))))))))))))))))
def t__law_orders : SW := sSeq (sSet 4 (wLst (aCons (wBin (opLt dn) (wVar 0) (wVar 1)) (aCons (wBin (opLe dn) (wVar 0) (wVar 1)) (aCons (wBin (opGt dn) (wVar 0) (wVar 1)) (aCons (wBin (opGe dn) (wVar 0) (wVar 1)) (aCons (wBin (opEq dn) (wVar 0) (wVar 1)) (aCons (wBin (opNe dn) (wVar 0) (wVar 1)) (aNil)))))))))
  (sSeq (sSet 5 (wLst (aCons (wBin (opLt dn) (wVar 2) (wVar 3)) (aCons (wBin (opLe dn) (wVar 2) (wVar 3)) (aCons (wBin (opGt dn) (wVar 2) (wVar 3)) (aCons (wBin (opGe dn) (wVar 2) (wVar 3)) (aCons (wBin (opEq dn) (wVar 2) (wVar 3)) (aCons (wBin (opNe dn) (wVar 2) (wVar 3)) (aNil)))))))))
  (sSeq (sFor (.nm 6) (iRng1 (wLit (.int 6)))
  (sIf (cOr (cAnd (cOfB (bOf (wBinB opIx (lVar 5) (bOf (wVar 6))))) (cBl (wBinB opIsNot (bOf (wBinB opIx (lVar 4) (bOf (wVar 6)))) (bOf (wLit (.bl true)))))) (cAnd (cNot (cOfB (bOf (wBinB opIx (lVar 5) (bOf (wVar 6)))))) (cBl (wBinB opIsNot (bOf (wBinB opIx (lVar 4) (bOf (wVar 6)))) (bOf (wLit (.bl false))))))) (sRet (wLit (.bl false))) (sNext)))
  (sRet (wLit (.bl true)))))
def t__law_rounded : SW := sSeq (sSet 3 (wMeth 0 sp_Ratio_floor [] (wVar 0) (aNil)))
  (sSeq (sSet 4 (wMeth 0 sp_Ratio_ceiling [] (wVar 0) (aNil)))
  (sSeq (sIf (cOr (cNot (cOfB (bOf (wCall sp__law_is_int [] (aCons (wVar 3) (aNil)))))) (cOr (cBl (wBin (opGt dn) (wBin (opMul dn) (wVar 3) (wVar 2)) (wVar 1))) (cBl (wBin (opLe dn) (wBin (opMul dn) (wBin (opAdd dn) (wVar 3) (wLit (.int 1))) (wVar 2)) (wVar 1))))) (sRet (wLit (.bl false))) (sNext))
  (sRet (wAnd (wCall sp__law_is_int [] (aCons (wVar 4) (aNil))) (wAnd (wBin (opGe dn) (wBin (opMul dn) (wVar 4) (wVar 2)) (wVar 1)) (wBin (opLt dn) (wBin (opMul dn) (wBin (opSub dn) (wVar 4) (wLit (.int 1))) (wVar 2)) (wVar 1)))))))
def t__law_zero_refused : SW := sSeq (sSet 3 (wLst (aNil)))
  (sSeq (sSet 4 (wLit .non))
  (sSeq (sTryAs 5 ct_WatchError (sIf (cBl (wBin (opEq dn) (wVar 2) (wLit (.int 0)))) (sSet 4 (wBin (opFdiv dn) (wVar 0) (wVar 1))) (sIf (cBl (wBin (opEq dn) (wVar 2) (wLit (.int 1)))) (sSet 4 (wBin (opMod dn) (wVar 0) (wVar 1))) (sSet 4 (wMeth 0 sp_Ratio_over [] (wVar 0) (aCons (wVar 1) (aNil))))))
  (sSet 3 (wLst (aCons (wIsX 5 ix_ZeroUnder) (aCons (wIsX 5 ix_ValueError) (aCons (wIsX 5 ix_BadNumber) (aNil)))))))
  (sRet (wAnd (wBinB opIs (bVar 4) (bOf (wLit .non))) (wBin (opEq dn) (wVar 3) (wLst (aCons (wLit (.bl true)) (aCons (wLit (.bl true)) (aCons (wLit (.bl false)) (aNil))))))))))
def t__law_quotients : SW := sSeq (sIf (cBl (wBin (opEq dn) (wVar 4) (wLit (.int 0)))) (sRet (wAnd (wCall sp__law_zero_refused [] (aCons (wVar 0) (aCons (wVar 1) (aCons (wLit (.int 0)) (aNil))))) (wAnd (wCall sp__law_zero_refused [] (aCons (wVar 0) (aCons (wVar 1) (aCons (wLit (.int 1)) (aNil))))) (wCall sp__law_zero_refused [] (aCons (wVar 0) (aCons (wVar 1) (aCons (wLit (.int 2)) (aNil)))))))) (sNext))
  (sSeq (sSet 6 (wBin (opMul dn) (wVar 2) (wVar 5)))
  (sSeq (sSet 7 (wBin (opMul dn) (wVar 3) (wVar 4)))
  (sSeq (sIf (cBl (wBin (opLt dn) (wVar 7) (wLit (.int 0)))) (sSeq (sSet 6 (wBin (opSub dn) (wLit (.int 0)) (wVar 6)))
  (sSet 7 (wBin (opSub dn) (wLit (.int 0)) (wVar 7)))) (sNext))
  (sSeq (sSet 8 (wBin (opFdiv dn) (wVar 0) (wVar 1)))
  (sSeq (sIf (cOr (cNot (cOfB (bOf (wCall sp__law_is_int [] (aCons (wVar 8) (aNil)))))) (cOr (cBl (wBin (opGt dn) (wBin (opMul dn) (wVar 8) (wVar 7)) (wVar 6))) (cBl (wBin (opLe dn) (wBin (opMul dn) (wBin (opAdd dn) (wVar 8) (wLit (.int 1))) (wVar 7)) (wVar 6))))) (sRet (wLit (.bl false))) (sNext))
  (sRet (wAnd (wCall sp__law_worth [] (aCons (wBin (opMod dn) (wVar 0) (wVar 1)) (aCons (wBin (opSub dn) (wBin (opMul dn) (wVar 2) (wVar 5)) (wBin (opMul dn) (wBin (opMul dn) (wVar 4) (wVar 3)) (wVar 8))) (aCons (wBin (opMul dn) (wVar 3) (wVar 5)) (aNil))))) (wCall sp__law_worth [] (aCons (wMeth 0 sp_Ratio_over [] (wVar 0) (aCons (wVar 1) (aNil))) (aCons (wVar 6) (aCons (wVar 7) (aNil))))))))))))
def t__law_unlike : SW := sSeq (sFor (.nm 3) (iSeq (wLst (aCons (wBlt (bStr dn) (aConsR (lVar 0) (aNil))) (aCons (wLit .non) (aCons (wLst (aCons (wVar 1) (aCons (wVar 2) (aNil)))) (aCons (wTup (aCons (wVar 1) (aCons (wVar 2) (aNil)))) (aNil)))))))
  (sIf (cOr (cBl (wBinB opIsNot (bOf (wBin (opEq dn) (wVar 0) (wVar 3))) (bOf (wLit (.bl false))))) (cBl (wBinB opIsNot (bOf (wBin (opNe dn) (wVar 0) (wVar 3))) (bOf (wLit (.bl true)))))) (sRet (wLit (.bl false))) (sNext)))
  (sRet (wLit (.bl true)))
def t__law_near : SW := sSeq (sSet 1 (wCall sp_Ratio___init__ [] (aCons (wLit (.int 1)) (aCons (wBin (opAdd dn) (wVar 0) (wLit (.int 3))) (aNil)))))
  (sSeq (sSet 2 (wCall sp_Ratio___init__ [] (aCons (wLit (.int 1)) (aCons (wBin (opAdd dn) (wVar 0) (wLit (.int 2))) (aNil)))))
  (sSeq (sIf (cNot (cOfB (bOf (wCall sp__law_orders [] (aCons (wVar 1) (aCons (wVar 2) (aCons (wBin (opAdd dn) (wVar 0) (wLit (.int 2))) (aCons (wBin (opAdd dn) (wVar 0) (wLit (.int 3))) (aNil))))))))) (sRet (wLit (.bl false))) (sNext))
  (sRet (wCall sp__law_orders [] (aCons (wUn (opNeg dn) (wVar 1)) (aCons (wUn (opNeg dn) (wVar 2)) (aCons (wBin (opSub dn) (wBin (opSub dn) (wLit (.int 0)) (wVar 0)) (wLit (.int 2))) (aCons (wBin (opSub dn) (wBin (opSub dn) (wLit (.int 0)) (wVar 0)) (wLit (.int 3))) (aNil)))))))))
def t__law_part_c : SW := sSeq (sUnp (.tp [(.nm 1), (.nm 2), (.nm 3), (.nm 4)]) (wCall sp__law_two_fractions [] (aCons (wVar 0) (aNil))))
  (sSeq (sSet 5 (wCall sp_Ratio___init__ [] (aCons (wVar 1) (aCons (wVar 2) (aNil)))))
  (sSeq (sSet 6 (wCall sp_Ratio___init__ [] (aCons (wVar 3) (aCons (wVar 4) (aNil)))))
  (sSeq (sIf (cOr (cNot (cOfB (bOf (wCall sp__law_orders [] (aCons (wVar 5) (aCons (wVar 6) (aCons (wBin (opMul dn) (wVar 1) (wVar 4)) (aCons (wBin (opMul dn) (wVar 3) (wVar 2)) (aNil))))))))) (cNot (cOfB (bOf (wCall sp__law_orders [] (aCons (wVar 6) (aCons (wVar 5) (aCons (wBin (opMul dn) (wVar 3) (wVar 2)) (aCons (wBin (opMul dn) (wVar 1) (wVar 4)) (aNil)))))))))) (sRet (wLit (.bl false))) (sNext))
  (sSeq (sSet 7 (wCall sp_as_ratio [] (aCons (wVar 3) (aNil))))
  (sSeq (sIf (cOr (cNot (cOfB (bOf (wCall sp__law_orders [] (aCons (wVar 5) (aCons (wVar 7) (aCons (wVar 1) (aCons (wBin (opMul dn) (wVar 3) (wVar 2)) (aNil))))))))) (cNot (cOfB (bOf (wCall sp__law_orders [] (aCons (wVar 7) (aCons (wVar 5) (aCons (wBin (opMul dn) (wVar 3) (wVar 2)) (aCons (wVar 1) (aNil)))))))))) (sRet (wLit (.bl false))) (sNext))
  (sSeq (sFor (.tp [(.nm 8), (.nm 9)]) (iSeq (wLst (aCons (wTup (aCons (wVar 5) (aCons (wVar 3) (aNil)))) (aCons (wTup (aCons (wVar 3) (aCons (wVar 5) (aNil)))) (aCons (wTup (aCons (wVar 7) (aCons (wVar 3) (aNil)))) (aCons (wTup (aCons (wVar 3) (aCons (wVar 7) (aNil)))) (aNil)))))))
  (sIf (cOr (cBl (wBinB opIsNot (bOf (wBin (opEq dn) (wVar 8) (wVar 9))) (bOf (wLit (.bl false))))) (cBl (wBinB opIsNot (bOf (wBin (opNe dn) (wVar 8) (wVar 9))) (bOf (wLit (.bl true)))))) (sRet (wLit (.bl false))) (sNext)))
  (sSeq (sIf (cNot (cOfB (bOf (wCall sp__law_orders [] (aCons (wVar 5) (aCons (wVar 5) (aCons (wVar 1) (aCons (wVar 1) (aNil))))))))) (sRet (wLit (.bl false))) (sNext))
  (sSeq (sIf (cNot (cOfB (bOf (wCall sp__law_near [] (aCons (wBin (opMod dn) (wBlt (bInt) (aConsR (bOf (wCall sp__law_digits [] (aCons (wCall sp__law_cell [] (aCons (wVar 0) (aCons (wLit (.int 6)) (aNil)))) (aCons (wLit (.int 26)) (aNil))))) (aNil))) (wBin (opSub dn) (wBin (opPow dn) (wLit (.int 10)) (wLit (.int 60))) (wLit (.int 9)))) (aNil)))))) (sRet (wLit (.bl false))) (sNext))
  (sSeq (sIf (cOr (cNot (cOfB (bOf (wCall sp__law_unlike [] (aCons (wVar 5) (aCons (wVar 1) (aCons (wVar 2) (aNil)))))))) (cNot (cOfB (bOf (wCall sp__law_unlike [] (aCons (wVar 6) (aCons (wVar 3) (aCons (wVar 4) (aNil))))))))) (sRet (wLit (.bl false))) (sNext))
  (sSeq (sIf (cOr (cNot (cOfB (bOf (wCall sp__law_rounded [] (aCons (wVar 5) (aCons (wVar 1) (aCons (wVar 2) (aNil)))))))) (cNot (cOfB (bOf (wCall sp__law_rounded [] (aCons (wVar 6) (aCons (wVar 3) (aCons (wVar 4) (aNil))))))))) (sRet (wLit (.bl false))) (sNext))
  (sSeq (sIf (cOr (cNot (cOfB (bOf (wCall sp__law_quotients [] (aCons (wVar 5) (aCons (wVar 6) (aCons (wVar 1) (aCons (wVar 2) (aCons (wVar 3) (aCons (wVar 4) (aNil))))))))))) (cNot (cOfB (bOf (wCall sp__law_quotients [] (aCons (wVar 6) (aCons (wVar 5) (aCons (wVar 3) (aCons (wVar 4) (aCons (wVar 1) (aCons (wVar 2) (aNil)))))))))))) (sRet (wLit (.bl false))) (sNext))
  (sSeq (sIf (cOr (cNot (cOfB (bOf (wCall sp__law_quotients [] (aCons (wVar 5) (aCons (wVar 3) (aCons (wVar 1) (aCons (wVar 2) (aCons (wVar 3) (aCons (wLit (.int 1)) (aNil))))))))))) (cNot (cOfB (bOf (wCall sp__law_quotients [] (aCons (wVar 5) (aCons (wVar 2) (aCons (wVar 1) (aCons (wVar 2) (aCons (wVar 2) (aCons (wLit (.int 1)) (aNil)))))))))))) (sRet (wLit (.bl false))) (sNext))
  (sSeq (sIf (cOr (cAnd (cBl (wBin (opEq dn) (wVar 1) (wLit (.int 0)))) (cBl (wBinB opIsNot (bOf (wBlt (bBool dn) (aConsR (lVar 5) (aNil)))) (bOf (wLit (.bl false)))))) (cAnd (cBl (wBin (opNe dn) (wVar 1) (wLit (.int 0)))) (cBl (wBinB opIsNot (bOf (wBlt (bBool dn) (aConsR (lVar 5) (aNil)))) (bOf (wLit (.bl true))))))) (sRet (wLit (.bl false))) (sNext))
  (sSeq (sIf (cOr (cAnd (cBl (wBin (opEq dn) (wVar 3) (wLit (.int 0)))) (cBl (wBinB opIsNot (bOf (wBlt (bBool dn) (aConsR (lVar 6) (aNil)))) (bOf (wLit (.bl false)))))) (cAnd (cBl (wBin (opNe dn) (wVar 3) (wLit (.int 0)))) (cBl (wBinB opIsNot (bOf (wBlt (bBool dn) (aConsR (lVar 6) (aNil)))) (bOf (wLit (.bl true))))))) (sRet (wLit (.bl false))) (sNext))
  (sSeq (sIf (cBl (wBin (opNe dn) (wVar 3) (wLit (.int 0)))) (sSeq (sSet 10 (wVar 5))
  (sSeq (sAug 10 (opObj dn .mod) (wVar 6))
  (sSeq (sSet 10 (wVar 5))
  (sAug 10 (opObj dn .fdiv) (wVar 6))))) (sNext))
  (sRet (wAnd (wCall sp__law_worth [] (aCons (wVar 5) (aCons (wVar 1) (aCons (wVar 2) (aNil))))) (wCall sp__law_worth [] (aCons (wVar 6) (aCons (wVar 3) (aCons (wVar 4) (aNil))))))))))))))))))))))
def t_law : SW := sSeq (sIf (cNot (cOfB (bOf (wCall sp__law_part_a [] (aCons (wVar 0) (aNil)))))) (sRet (wLit (.bl false))) (sNext))
  (sSeq (sIf (cNot (cOfB (bOf (wCall sp__law_part_b [] (aCons (wVar 0) (aNil)))))) (sRet (wLit (.bl false))) (sNext))
  (sRet (wCall sp__law_part_c [] (aCons (wVar 0) (aNil)))))
end VL
end
section
set_option linter.all false
set_option maxRecDepth 100000
set_option maxHeartbeats 4000000
namespace VL
open PySem
/-! ### numbers -/
theorem Sz.mono {m n : Nat} {i : Int} (h : Sz m i) (l : m ≤ n) : Sz n i := Nat.lt_of_lt_of_le h (Nat.pow_le_pow_right (by decide) l)
theorem Sz.log {n : Nat} {i : Int} (h : Sz n i) : i.natAbs.log2 ≤ n := by
  by_cases h0 : i.natAbs = 0
  · rw [h0]; simp
  · have := (Nat.log2_lt h0).mpr h
    omega
theorem Sz.mul {m n : Nat} {i j : Int} (h : Sz m i) (h' : Sz n j) : Sz (m + n) (i * j) := by
  unfold Sz at *
  rw [Int.natAbs_mul, Nat.pow_add]
  exact Nat.mul_lt_mul'' h h'
theorem Sz.add {n : Nat} {i j : Int} (h : Sz n i) (h' : Sz n j) : Sz (n + 1) (i + j) := by
  unfold Sz at *
  have := Int.natAbs_add_le i j
  rw [Nat.pow_succ]
  omega
theorem Sz.neg {n : Nat} {i : Int} (h : Sz n i) : Sz n (-i) := by
  unfold Sz at *
  rw [Int.natAbs_neg]
  exact h
theorem Sz.sub {n : Nat} {i j : Int} (h : Sz n i) (h' : Sz n j) : Sz (n + 1) (i - j) := by
  rw [Int.sub_eq_add_neg]
  exact h.add h'.neg
theorem Sz.le {n : Nat} {i j : Int} (h : Sz n i) (l : j.natAbs ≤ i.natAbs) : Sz n j := Nat.lt_of_le_of_lt l h
theorem Sz.abs {n : Nat} {i : Int} (h : Sz n i) : Sz n (if i < 0 then -i else i) := by
  split
  · exact h.neg
  · exact h
theorem Sz.one {n : Nat} (h : 1 ≤ n) : Sz n 1 := by
  unfold Sz
  have : 2 ^ 1 ≤ 2 ^ n := Nat.pow_le_pow_right (by decide) h
  simp at this ⊢
  omega
theorem Sz.zero {n : Nat} : Sz n 0 := by
  unfold Sz
  simp
  exact Nat.pow_pos (by decide)
theorem mul_ok {m n : Nat} {i j : Int} (h : Sz m i) (h' : Sz n j) (l : m + n < 1000000) : mulOk i j := by
  unfold mulOk
  have := h.log
  have := h'.log
  omega
theorem div_ok {n : Nat} {j : Int} (h : Sz n j) (l : n < 9000) (h0 : j ≠ 0) : divOk j := ⟨h0, by have := h.log; omega⟩
/-! ### normal forms -/
theorem gcd_norm {a b : Int} (hb : b ≠ 0) : ∃ g : Int, g = ((Nat.gcd a.natAbs b.natAbs : Nat) : Int) ∧ 0 < g ∧ g ∣ a ∧ g ∣ b ∧ g.natAbs ≤ b.natAbs ∧ Nat.gcd (a / g).natAbs (b / g).natAbs = 1 := by
  have hb' : 0 < b.natAbs := Int.natAbs_pos.mpr hb
  have hg : 0 < Nat.gcd a.natAbs b.natAbs := Nat.gcd_pos_of_pos_right _ hb'
  refine ⟨_, rfl, by exact_mod_cast hg, Int.natAbs_dvd_natAbs.mp (by simpa using Nat.gcd_dvd_left _ _), Int.natAbs_dvd_natAbs.mp (by simpa using Nat.gcd_dvd_right _ _), by simpa using Nat.gcd_le_right _ hb', ?_⟩
  have da : ((Nat.gcd a.natAbs b.natAbs : Nat) : Int) ∣ a := Int.natAbs_dvd_natAbs.mp (by simpa using Nat.gcd_dvd_left _ _)
  have db : ((Nat.gcd a.natAbs b.natAbs : Nat) : Int) ∣ b := Int.natAbs_dvd_natAbs.mp (by simpa using Nat.gcd_dvd_right _ _)
  rw [Int.natAbs_ediv_of_dvd da, Int.natAbs_ediv_of_dvd db, Int.natAbs_natCast]
  rw [Nat.gcd_div (Nat.gcd_dvd_left _ _) (Nat.gcd_dvd_right _ _)]
  exact Nat.div_self hg
theorem Nm.uniq {t u T U : Int} (h : Nm t u) (h' : Nm T U) (e : T * u = t * U) : T = t ∧ U = u := by
  obtain ⟨p, g⟩ := h
  obtain ⟨p', g'⟩ := h'
  have e1 : T.natAbs * u.natAbs = t.natAbs * U.natAbs := by rw [← Int.natAbs_mul, ← Int.natAbs_mul, e]
  have d1 : u.natAbs ∣ U.natAbs := (Nat.Coprime.symm g).dvd_of_dvd_mul_left (by rw [← e1]; exact Nat.dvd_mul_left _ _)
  have d2 : U.natAbs ∣ u.natAbs := (Nat.Coprime.symm g').dvd_of_dvd_mul_left (by rw [e1]; exact Nat.dvd_mul_left _ _)
  have e2 : U.natAbs = u.natAbs := Nat.dvd_antisymm d2 d1
  have e3 : U = u := by omega
  subst e3
  exact ⟨Int.eq_of_mul_eq_mul_right (by omega) e, rfl⟩
/-! ### the plain proofs -/
theorem p_Ratio___init__ (ds : List D) (Q : QR) (X : QX) (h : sp_Ratio___init__ ds Q X) : runInit t_Ratio___init__ 0 2 (startI 4 0 [false, false] ds) Q X := by
  obtain ⟨a, b, n, rfl, h0, h1⟩ := h
  unfold runInit t_Ratio___init__ startI
  simp [slotsOf, slotOf]
  by_cases hb : b = 0
  · simp [hb]
    exact h0 hb
  obtain ⟨hn, sa, sb, hr⟩ := h1 hb
  obtain ⟨g, eg, g0, ga, gb, gl, gn⟩ := gcd_norm (a := a) hb
  rw [← eg]
  have sg : Sz n g := sb.le gl
  have fin : ∀ s : Int, (s = g ∨ s = -g) → 0 < b.fdiv s → divOk s ∧ initEnd 0 2 Q [some (Sl.ob 0 [D.int (a.fdiv s), D.int (b.fdiv s)]), some (.fz (.int a)), some (.fz (.int b)), some (.fz (.int s))] := fun s hs hp => by
    have s0 : s ≠ 0 := by omega
    have ss : Sz n s := by rcases hs with rfl | rfl; exact sg; exact sg.neg
    have d := div_ok ss (by omega) s0
    have da : s ∣ a := by rcases hs with rfl | rfl; exact ga; exact Int.neg_dvd.mpr ga
    have db : s ∣ b := by rcases hs with rfl | rfl; exact gb; exact Int.neg_dvd.mpr gb
    obtain ⟨x, rfl⟩ := da
    obtain ⟨y, rfl⟩ := db
    have ex : (s * x).fdiv s = x := Int.mul_fdiv_cancel_left _ s0
    have ey : (s * y).fdiv s = y := Int.mul_fdiv_cancel_left _ s0
    refine ⟨d, ?_⟩
    rw [ey] at hp
    show (0 = 0 ∧ 2 = 2) ∧ _
    refine ⟨⟨rfl, rfl⟩, ?_⟩
    rw [ex, ey]
    have hx : (s * x / g).natAbs = x.natAbs ∧ (s * y / g).natAbs = y.natAbs := by
      have g1 : g ≠ 0 := by omega
      rcases hs with rfl | rfl
      · rw [Int.mul_ediv_cancel_left _ g1, Int.mul_ediv_cancel_left _ g1]
        exact ⟨rfl, rfl⟩
      · rw [show -g * x = g * (-x) by rw [Int.neg_mul, Int.mul_neg], show -g * y = g * (-y) by rw [Int.neg_mul, Int.mul_neg], Int.mul_ediv_cancel_left _ g1, Int.mul_ediv_cancel_left _ g1, Int.natAbs_neg, Int.natAbs_neg]
        exact ⟨rfl, rfl⟩
    rw [hx.1, hx.2] at gn
    have h1 : ∀ z : Int, z.natAbs ≤ (s * z).natAbs := fun z => by
      rw [Int.natAbs_mul]
      exact Nat.le_mul_of_pos_left _ (Int.natAbs_pos.mpr s0)
    exact hr x y ⟨hp, gn⟩ (by rw [Int.mul_left_comm, Int.mul_assoc, Int.mul_left_comm]) (sa.le (h1 x)) (sb.le (h1 y))
  simp [hb]
  split
  · rename_i hneg
    refine fin (-g) (.inr rfl) ?_
    obtain ⟨y, rfl⟩ := gb
    rw [show g * y = -g * (-y) by rw [Int.neg_mul_neg], Int.mul_fdiv_cancel_left _ (by omega)]
    have h3 : g * y < 0 := hneg
    by_cases hy : 0 ≤ y
    · have := Int.mul_nonneg (Int.le_of_lt g0) hy
      omega
    · omega
  · refine fin g (.inl rfl) ?_
    obtain ⟨y, rfl⟩ := gb
    rw [Int.mul_fdiv_cancel_left _ (by omega)]
    have h2 : 0 < g * y := by omega
    by_cases hy : 0 < y
    · exact hy
    · have h3 : g * y ≠ 0 := hb
      have h4 : 0 ≤ g * y := by omega
      have : y ≤ 0 := by omega
      have := Int.mul_nonneg (Int.le_of_lt g0) (show 0 ≤ -y by omega)
      rw [Int.mul_neg] at this
      omega
theorem p_Ratio_whole (ds : List D) (Q : QR) (X : QX) (h : sp_Ratio_whole ds Q X) : runBody t_Ratio_whole (startD 1 [false] ds) Q X := by
  obtain ⟨t, u, rfl, q⟩ := h
  simp [runBody, t_Ratio_whole, startD, slotsOf, slotOf, rD]
  simpa using q
theorem p_Ratio_floor (ds : List D) (Q : QR) (X : QX) (h : sp_Ratio_floor ds Q X) : runBody t_Ratio_floor (startD 1 [false] ds) Q X := by
  obtain ⟨t, u, rfl, h0, hs, q⟩ := h
  simp [runBody, t_Ratio_floor, startD, slotsOf, slotOf, rD]
  exact ⟨div_ok hs (by decide) (by omega), q⟩
theorem p_Ratio_ceiling (ds : List D) (Q : QR) (X : QX) (h : sp_Ratio_ceiling ds Q X) : runBody t_Ratio_ceiling (startD 1 [false] ds) Q X := by
  obtain ⟨t, u, rfl, h0, hs, q⟩ := h
  simp [runBody, t_Ratio_ceiling, startD, slotsOf, slotOf, rD]
  exact ⟨div_ok hs (by decide) (by omega), q⟩
theorem p_as_ratio (ds : List D) (Q : QR) (X : QX) (h : sp_as_ratio ds Q X) : runBody t_as_ratio (startD 1 [false] ds) Q X := by
  obtain ⟨d, t, u, rfl, rv, hs, q⟩ := h
  rcases rv with rfl | ⟨rfl, rfl⟩
  · simp [runBody, t_as_ratio, startD, slotsOf, slotOf, rD, isC]
    exact q
  · simp [runBody, t_as_ratio, startD, slotsOf, slotOf, isC]
    refine ⟨t, 1, 8000, rfl, fun h => (by cases h), fun _ => ⟨Nat.le_refl _, hs, Sz.one (by decide), fun T U hn he _ _ => ?_⟩⟩
    obtain ⟨rfl, rfl⟩ := Nm.uniq (t := t) (u := 1) ⟨by decide, by simp⟩ hn he
    exact q
/-- the other side -/
theorem Two.sz {ds : List D} {t u t' u' : Int} {n : Nat} (h : Two ds t u t' u' n) : u ≠ 0 ∧ u' ≠ 0 := by
  obtain ⟨e, _, _, hn, hu, _⟩ := h
  have := hn.1
  have := hu.1
  omega
theorem two_add {ds : List D} {t u t' u' : Int} {n : Nat} {Q : QR} {X : QX} (h : Two ds t u t' u' n) {a : Int} (sa : Sz (2 * n + 1) a) (r : res a (u * u') (2 * n + 1) Q) : sp_Ratio___init__ [.int a, .int (u * u')] Q X := by
  obtain ⟨h1, h2⟩ := h.sz
  obtain ⟨e, _, _, hn, hu, hl, s1, s2, s3, s4⟩ := h
  refine ⟨_, _, 2 * n + 1, rfl, fun h => absurd h (Int.mul_ne_zero h1 h2), fun _ => ⟨by omega, sa, (s2.mul s4).mono (by omega), r⟩⟩
theorem p_Ratio___add__ (ds : List D) (Q : QR) (X : QX) (h : sp_Ratio___add__ ds Q X) : runBody t_Ratio___add__ (startD 3 [false, false] ds) Q X := by
  obtain ⟨t, u, t', u', n, h2, q⟩ := h
  obtain ⟨e, rfl, rv, hn, hu, hl, s1, s2, s3, s4⟩ := id h2
  simp [runBody, t_Ratio___add__, startD, slotsOf, slotOf, rD]
  refine ⟨e, t', u', rfl, rv, s3.mono (by omega), ?_⟩
  simp [rD]
  exact ⟨mul_ok s1 s4 (by omega), mul_ok s3 s2 (by omega), mul_ok s2 s4 (by omega), two_add h2 (((s1.mul s4).mono (show n + n ≤ 2 * n by omega)).add ((s3.mul s2).mono (by omega))) q⟩
theorem p_Ratio___sub__ (ds : List D) (Q : QR) (X : QX) (h : sp_Ratio___sub__ ds Q X) : runBody t_Ratio___sub__ (startD 3 [false, false] ds) Q X := by
  obtain ⟨t, u, t', u', n, h2, q⟩ := h
  obtain ⟨e, rfl, rv, hn, hu, hl, s1, s2, s3, s4⟩ := id h2
  simp [runBody, t_Ratio___sub__, startD, slotsOf, slotOf, rD]
  refine ⟨e, t', u', rfl, rv, s3.mono (by omega), ?_⟩
  simp [rD]
  exact ⟨mul_ok s1 s4 (by omega), mul_ok s3 s2 (by omega), mul_ok s2 s4 (by omega), two_add h2 (((s1.mul s4).mono (show n + n ≤ 2 * n by omega)).sub ((s3.mul s2).mono (by omega))) q⟩
theorem p_Ratio___mul__ (ds : List D) (Q : QR) (X : QX) (h : sp_Ratio___mul__ ds Q X) : runBody t_Ratio___mul__ (startD 3 [false, false] ds) Q X := by
  obtain ⟨t, u, t', u', n, h2, q⟩ := h
  obtain ⟨e, rfl, rv, hn, hu, hl, s1, s2, s3, s4⟩ := id h2
  simp [runBody, t_Ratio___mul__, startD, slotsOf, slotOf, rD]
  refine ⟨e, t', u', rfl, rv, s3.mono (by omega), ?_⟩
  simp [rD]
  refine ⟨mul_ok s1 s3 (by omega), mul_ok s2 s4 (by omega), _, _, 2 * n, rfl, fun h => absurd h (Int.mul_ne_zero h2.sz.1 h2.sz.2), fun _ => ⟨by omega, (s1.mul s3).mono (by omega), (s2.mul s4).mono (by omega), q⟩⟩
theorem p_Ratio_over (ds : List D) (Q : QR) (X : QX) (h : sp_Ratio_over ds Q X) : runBody t_Ratio_over (startD 3 [false, false] ds) Q X := by
  obtain ⟨t, u, t', u', n, h2, q0, q⟩ := h
  obtain ⟨e, rfl, rv, hn, hu, hl, s1, s2, s3, s4⟩ := id h2
  simp [runBody, t_Ratio_over, startD, slotsOf, slotOf, rD]
  refine ⟨e, t', u', rfl, rv, s3.mono (by omega), ?_⟩
  simp [rD]
  split
  · rename_i hz
    exact q0 hz
  · rename_i hz
    refine ⟨mul_ok s1 s4 (by omega), mul_ok s2 s3 (by omega), _, _, 2 * n, rfl, fun h => absurd h (Int.mul_ne_zero h2.sz.1 hz), fun _ => ⟨by omega, (s1.mul s4).mono (by omega), (s2.mul s3).mono (by omega), q hz⟩⟩
theorem p_Ratio___floordiv__ (ds : List D) (Q : QR) (X : QX) (h : sp_Ratio___floordiv__ ds Q X) : runBody t_Ratio___floordiv__ (startD 3 [false, false] ds) Q X := by
  obtain ⟨t, u, t', u', n, h2, q0, q⟩ := h
  obtain ⟨e, rfl, rv, hn, hu, hl, s1, s2, s3, s4⟩ := id h2
  simp [runBody, t_Ratio___floordiv__, startD, slotsOf, slotOf, rD]
  refine ⟨e, t', u', rfl, rv, s3.mono (by omega), ?_⟩
  simp [rD]
  split
  · rename_i hz
    exact q0 hz
  · rename_i hz
    exact ⟨mul_ok s1 s4 (by omega), mul_ok s2 s3 (by omega), div_ok (s2.mul s3) (by omega) (Int.mul_ne_zero h2.sz.1 hz), q hz⟩
theorem p_Ratio___neg__ (ds : List D) (Q : QR) (X : QX) (h : sp_Ratio___neg__ ds Q X) : runBody t_Ratio___neg__ (startD 1 [false] ds) Q X := by
  obtain ⟨t, u, rfl, hn, s1, s2, q⟩ := h
  simp [runBody, t_Ratio___neg__, startD, slotsOf, slotOf, rD]
  refine ⟨_, _, 8000, rfl, fun h => absurd h (by have := hn.1; omega), fun _ => ⟨Nat.le_refl _, s1.neg, s2, fun T U hn2 he _ _ => ?_⟩⟩
  obtain ⟨rfl, rfl⟩ := Nm.uniq (t := -t) (u := u) ⟨hn.1, by rw [Int.natAbs_neg]; exact hn.2⟩ hn2 he
  exact q
theorem p_Ratio___abs__ (ds : List D) (Q : QR) (X : QX) (h : sp_Ratio___abs__ ds Q X) : runBody t_Ratio___abs__ (startD 1 [false] ds) Q X := by
  obtain ⟨t, u, rfl, hn, s1, s2, q⟩ := h
  simp [runBody, t_Ratio___abs__, startD, slotsOf, slotOf, rD]
  refine ⟨_, _, 8000, rfl, fun h => absurd h (by have := hn.1; omega), fun _ => ⟨Nat.le_refl _, s1.abs, s2, fun T U hn2 he _ _ => ?_⟩⟩
  obtain ⟨rfl, rfl⟩ := Nm.uniq (t := if t < 0 then -t else t) (u := u) ⟨hn.1, by split; (rw [Int.natAbs_neg]; exact hn.2); exact hn.2⟩ hn2 he
  exact q
theorem p_Ratio___bool__ (ds : List D) (Q : QR) (X : QX) (h : sp_Ratio___bool__ ds Q X) : runBody t_Ratio___bool__ (startD 1 [false] ds) Q X := by
  obtain ⟨t, u, rfl, q⟩ := h
  simp [runBody, t_Ratio___bool__, startD, slotsOf, slotOf, rD]
  simpa using q
end VL
end
section
set_option linter.all false
set_option maxRecDepth 100000
set_option maxHeartbeats 4000000
namespace VL
open PySem
theorem Sz.pw {x : Int} (h : Sz 41 x) : ∀ i : Nat, Sz (42 * i + 1) (x ^ i)
  | 0 => by simp [Sz]
  | i + 1 => by
    rw [Int.pow_succ]
    exact (Sz.mul (Sz.pw h i) h).mono (by omega)
theorem p_Ratio___radd__ (ds : List D) (Q : QR) (X : QX) (h : sp_Ratio___radd__ ds Q X) : runBody t_Ratio___radd__ (startD 2 [false, false] ds) Q X := by
  obtain ⟨t, u, i, n, h2, rfl, q⟩ := h
  simp [runBody, t_Ratio___radd__, startD, slotsOf, slotOf, rD]
  exact ⟨t, u, i, 1, n, h2, by simpa using q⟩
theorem p_Ratio___rmul__ (ds : List D) (Q : QR) (X : QX) (h : sp_Ratio___rmul__ ds Q X) : runBody t_Ratio___rmul__ (startD 2 [false, false] ds) Q X := by
  obtain ⟨t, u, i, n, h2, rfl, q⟩ := h
  simp [runBody, t_Ratio___rmul__, startD, slotsOf, slotOf, rD]
  exact ⟨t, u, i, 1, n, h2, by simpa using q⟩
theorem Nm.neg {t u : Int} (h : Nm t u) : Nm (-t) u := ⟨h.1, by rw [Int.natAbs_neg]; exact h.2⟩
theorem p_Ratio___rsub__ (ds : List D) (Q : QR) (X : QX) (h : sp_Ratio___rsub__ ds Q X) : runBody t_Ratio___rsub__ (startD 2 [false, false] ds) Q X := by
  obtain ⟨t, u, i, n, h2, rfl, q⟩ := h
  obtain ⟨e, ee, rv, hn, hu, hl, s1, s2, s3, s4⟩ := id h2
  simp [runBody, t_Ratio___rsub__, startD, slotsOf, slotOf, rD]
  refine ⟨t, u, rfl, hn, s1.mono (by omega), s2.mono (by omega), ?_⟩
  simp [rD]
  refine ⟨-t, u, i, 1, n, ⟨.int i, rfl, .inr ⟨rfl, rfl⟩, hn.neg, hu, hl, s1.neg, s2, s3, s4⟩, ?_⟩
  have e2 : -t * 1 + i * u = i * u - t := by rw [Int.mul_one, Int.add_comm, Int.sub_eq_add_neg]
  rw [e2, Int.mul_one]
  exact q
theorem fdiv_sz {n : Nat} {a b : Int} (h : Sz n a) : Sz (n + 1) (a.fdiv b) := by
  unfold Sz at *
  by_cases hb : b = 0
  · subst hb
    rw [Int.fdiv_zero]
    exact Nat.pow_pos (by decide)
  · rw [Int.fdiv_eq_ediv]
    have h1 := Int.natAbs_ediv_le_natAbs a b
    rw [Nat.pow_succ]
    split <;> omega
theorem p_Ratio___mod__ (ds : List D) (Q : QR) (X : QX) (h : sp_Ratio___mod__ ds Q X) : runBody t_Ratio___mod__ (startD 3 [false, false] ds) Q X := by
  obtain ⟨t, u, t', u', n, h2, hn6, q0, q⟩ := h
  obtain ⟨e, rfl, rv, hn, hu, hl, s1, s2, s3, s4⟩ := id h2
  simp [runBody, t_Ratio___mod__, startD, slotsOf, slotOf, rD]
  refine ⟨e, t', u', rfl, rv, s3.mono (by omega), ?_⟩
  simp [rD]
  have h3 : Two [rD t u, rD t' u'] t u t' u' n := ⟨_, rfl, .inl rfl, hn, hu, hl, s1, s2, s3, s4⟩
  refine ⟨t, u, t', u', n, h3, q0, fun hz => ?_⟩
  simp
  have sf : Sz (2 * n + 1) ((t * u').fdiv (u * t')) := fdiv_sz ((s1.mul s4).mono (by omega))
  generalize hf : (t * u').fdiv (u * t') = f at sf
  have q := q hz
  rw [hf] at q
  refine ⟨t', u', f, 1, 2 * n + 1, ⟨.int f, rfl, .inr ⟨rfl, rfl⟩, hu, ⟨by decide, by simp⟩, by omega, s3.mono (by omega), s4.mono (by omega), sf, Sz.one (by omega)⟩, fun T1 U1 n1 e1 b1 b2 => ?_⟩
  simp [rD]
  refine ⟨t, u, T1, U1, 4 * n + 2, ⟨_, rfl, .inl rfl, hn, n1, by omega, s1.mono (by omega), s2.mono (by omega), b1.mono (by omega), b2.mono (by omega)⟩, fun T U n2 e2 b3 b4 => q T U n2 ?_ (b3.mono (by omega)) (b4.mono (by omega))⟩
  have hU : U1 ≠ 0 := by have := n1.1; omega
  refine Int.eq_of_mul_eq_mul_left hU ?_
  rw [Int.mul_one] at e1
  grind
theorem p_Ratio___pow__ (ds : List D) (Q : QR) (X : QX) (h : sp_Ratio___pow__ ds Q X) : runBody t_Ratio___pow__ (startD 5 [false, false] ds) Q X := by
  obtain ⟨t, u, k, rfl, hn, k0, k1, s1, s2, q⟩ := h
  simp [runBody, t_Ratio___pow__, startD, slotsOf, slotOf, rD, k0, k1]
  refine ⟨⟨by omega, by omega⟩, ?_⟩
  refine loop_ints (fun i δ' => ∃ o, δ' = [some (.fz (rD t u)), some (.fz (.int k)), some (.fz (.int (t ^ i))), some (.fz (.int (u ^ i))), o] ∧ i ≤ k.toNat) ⟨none, by simp [rD], Nat.zero_le _⟩ (fun i δ' hi ⟨o, e, hl⟩ => ?_) (fun δ' ⟨o, e, hl⟩ => ?_)
  · subst e
    simp [rD]
    have hp : ∀ {x : Int}, Sz 41 x → Sz (42 * i + 1) (x ^ i) := fun {x} hx => Sz.pw hx i
    exact ⟨mul_ok (hp s1) s1 (by omega), mul_ok (hp s2) s2 (by omega), ⟨(Int.pow_succ _ _).symm, (Int.pow_succ _ _).symm⟩, by omega⟩
  · subst e
    simp
    have hp : ∀ {x : Int}, Sz 41 x → Sz 2700 (x ^ k.toNat) := fun {x} hx => (Sz.pw hx k.toNat).mono (by omega)
    refine ⟨_, _, 2700, rfl, fun h => absurd h (by have := hn.1; exact Int.ne_of_gt (Int.pow_pos this)), fun _ => ⟨by decide, hp s1, hp s2, q⟩⟩
theorem p_Ratio___eq__ (ds : List D) (Q : QR) (X : QX) (h : sp_Ratio___eq__ ds Q X) : runBody t_Ratio___eq__ (startD 2 [false, false] ds) Q X := by
  obtain ⟨t, u, e, rfl, hc, q⟩ := h
  cases e with
  | obj c xs =>
    obtain ⟨rfl, t', u', rfl⟩ := hc
    simp [runBody, t_Ratio___eq__, startD, slotsOf, slotOf, rD, isC]
    simp [eqR] at q
    by_cases h1 : t = t'
    · subst h1
      simpa using q
    · rw [show (t == t') = false from beq_eq_false_iff_ne.mpr h1] at q
      simpa [h1] using q
  | cls c => exact hc.elim
  | _ =>
    simp [runBody, t_Ratio___eq__, startD, slotsOf, slotOf, rD, isC, D.nocls]
    simpa [eqR] using q
theorem p_Ratio___lt__ (ds : List D) (Q : QR) (X : QX) (h : sp_Ratio___lt__ ds Q X) : runBody t_Ratio___lt__ (startD 2 [false, false] ds) Q X := by
  obtain ⟨t, u, t', u', rfl, s1, s2, s3, s4, q⟩ := h
  simp [runBody, t_Ratio___lt__, startD, slotsOf, slotOf, rD, isC]
  exact ⟨mul_ok s1 s4 (by decide), mul_ok s3 s2 (by decide), q⟩
theorem p_Ratio___le__ (ds : List D) (Q : QR) (X : QX) (h : sp_Ratio___le__ ds Q X) : runBody t_Ratio___le__ (startD 2 [false, false] ds) Q X := by
  obtain ⟨t, u, t', u', rfl, s1, s2, s3, s4, q⟩ := h
  simp [runBody, t_Ratio___le__, startD, slotsOf, slotOf, rD, isC]
  exact ⟨mul_ok s1 s4 (by decide), mul_ok s3 s2 (by decide), q⟩
theorem p_Ratio___gt__ (ds : List D) (Q : QR) (X : QX) (h : sp_Ratio___gt__ ds Q X) : runBody t_Ratio___gt__ (startD 2 [false, false] ds) Q X := by
  obtain ⟨t, u, t', u', rfl, s1, s2, s3, s4, q⟩ := h
  simp [runBody, t_Ratio___gt__, startD, slotsOf, slotOf, rD, isC]
  exact ⟨mul_ok s1 s4 (by decide), mul_ok s3 s2 (by decide), q⟩
theorem p_Ratio___ge__ (ds : List D) (Q : QR) (X : QX) (h : sp_Ratio___ge__ ds Q X) : runBody t_Ratio___ge__ (startD 2 [false, false] ds) Q X := by
  obtain ⟨t, u, t', u', rfl, s1, s2, s3, s4, q⟩ := h
  simp [runBody, t_Ratio___ge__, startD, slotsOf, slotOf, rD, isC]
  exact ⟨mul_ok s1 s4 (by decide), mul_ok s3 s2 (by decide), q⟩
theorem p__law_cell (ds : List D) (Q : QR) (X : QX) (h : sp__law_cell ds Q X) : runBody t__law_cell (startD 2 [false, false] ds) Q X := by
  obtain ⟨ns, k, rfl, k0, q⟩ := h
  simp [runBody, t__law_cell, startD, slotsOf, slotOf]
  split
  · rename_i hk
    have e : ixD (ns.map D.int) k = some (.int (ns[k.toNat]'(by omega))) := by
      unfold ixD ixOf
      rw [if_pos k0, List.length_map, if_pos hk]
      simp
    rw [e]
    simp
    exact q _ (by split <;> omega)
  · exact q 0 (by decide)
theorem p__law_is_int (ds : List D) (Q : QR) (X : QX) (h : sp__law_is_int ds Q X) : runBody t__law_is_int (startD 1 [false] ds) Q X := by
  obtain ⟨d, rfl, hc, q⟩ := h
  simp [runBody, t__law_is_int, startD, slotsOf, slotOf, hc]
  cases h1 : isT .int d with
  | true => rw [h1] at q; simpa using q
  | false => rw [h1] at q; simpa using q
theorem p__law_is_ratio (ds : List D) (Q : QR) (X : QX) (h : sp__law_is_ratio ds Q X) : runBody t__law_is_ratio (startD 1 [false] ds) Q X := by
  obtain ⟨t, u, rfl, hn, q⟩ := h
  simp [runBody, t__law_is_ratio, startD, slotsOf, slotOf, rD, isC]
  refine ⟨.int t, rfl, rfl, ?_⟩
  simp [isT]
  refine ⟨.int u, rfl, rfl, ?_⟩
  simp [isT]
  have h1 : (1 : Int) ≤ u := hn.1
  simp [h1]
  refine ⟨t, u, rfl, ?_⟩
  simp [hn.2]
  exact q
theorem p__law_worth (ds : List D) (Q : QR) (X : QX) (h : sp__law_worth ds Q X) : runBody t__law_worth (startD 3 [false, false, false] ds) Q X := by
  obtain ⟨t, u, a, b, rfl, hn, he, s1, s2, s3, s4, q⟩ := h
  simp [runBody, t__law_worth, startD, slotsOf, slotOf]
  refine ⟨t, u, rfl, hn, ?_⟩
  simp [rD, Yes] at q ⊢
  exact ⟨mul_ok s1 s4 (by decide), mul_ok s3 s2 (by decide), by rw [he]; simpa using q⟩
end VL
end
section
set_option linter.all false
set_option maxRecDepth 100000
set_option maxHeartbeats 4000000
namespace VL
open PySem
theorem int_len {a : Int} (h : Sz 1900 a) : (Str.ofString (toString a)).length ≤ 4000 := by
  have e := int_text_length_le (k := 1920) (by decide) (show a.natAbs.log2 < 1920 by have := h.log; omega)
  rw [ofString_length]
  omega
theorem str_len (a b : Str) : (a ++ b).length = a.length + b.length := by
  show (a.cps ++ b.cps).size = _
  rw [Array.size_append]
  rfl
theorem str_assoc (a b c : Str) : a ++ b ++ c = a ++ (b ++ c) := by
  show Str.mk (a.cps ++ b.cps ++ c.cps) = Str.mk (a.cps ++ (b.cps ++ c.cps))
  rw [Array.append_assoc]
theorem str_empty (a : Str) : Str.empty ++ a = a := by
  show Str.mk (#[] ++ a.cps) = a
  rw [Array.empty_append]
def flatS (a : Str) : Bool := a.cps.all fun c => decide (c < 1114112)
theorem flat_of (s : String) : flatS (Str.ofString s) = true := by
  unfold flatS
  rw [Str.ofString_eq_toList]
  simp
  intro c hc
  have := c.valid
  unfold Char.toNat
  have := UInt32.isValidChar
  rcases c.valid with h | h
  · have := h; omega
  · have := h.2; omega
theorem flat_app {a b : Str} (h : flatS a = true) (h' : flatS b = true) : flatS (a ++ b) = true := by
  unfold flatS at *
  show (a.cps ++ b.cps).all _ = true
  rw [Array.all_append, h, h']
  rfl
theorem p_Ratio___str__ (ds : List D) (Q : QR) (X : QX) (h : sp_Ratio___str__ ds Q X) : runBody t_Ratio___str__ (startD 1 [false] ds) Q X := by
  obtain ⟨t, u, rfl, s1, s2, q⟩ := h
  simp [runBody, t_Ratio___str__, startD, slotsOf, slotOf, rD]
  have l1 := s1.log
  have l2 := s2.log
  unfold strR at q
  split
  · rename_i hu
    rw [if_pos hu] at q
    exact ⟨by omega, q⟩
  · rename_i hu
    rw [if_neg hu] at q
    have e3 : (Str.ofString "/").length = 1 := by decide
    have e1 : (Str.ofString t.repr).length ≤ 4000 := int_len s1
    have e2 : (Str.ofString u.repr).length ≤ 4000 := int_len s2
    refine ⟨by omega, ?_, ?_, by omega, ?_, q⟩
    · rw [str_empty]; omega
    · rw [str_len, str_empty, e3]; omega
    · rw [str_len, str_len, str_empty, e3]; omega
theorem p__law_gcd (ds : List D) (Q : QR) (X : QX) (h : sp__law_gcd ds Q X) : runBody t__law_gcd (startD 2 [false, false] ds) Q X := by
  obtain ⟨a, b, rfl, q⟩ := h
  simp [runBody, t__law_gcd, startD, slotsOf, slotOf]
  have ab : ∀ x : Int, (if x < 0 then -x else x) = (x.natAbs : Int) := fun x => by split <;> omega
  rw [ab a, ab b]
  refine while_by (fun m δ' => ∃ x : Nat, δ' = [some (.fz (.int x)), some (.fz (.int m))] ∧ Nat.gcd x m = Nat.gcd a.natAbs b.natAbs) b.natAbs ⟨_, rfl, rfl⟩ fun m δ' ⟨x, e, eg⟩ => ?_
  subst e
  simp
  split
  · rename_i hy
    refine ⟨by omega, x % m, Nat.mod_lt _ hy, m, ⟨rfl, ?_⟩, ?_⟩
    · rw [Int.fmod_eq_emod_of_nonneg _ (by omega)]
      rfl
    · rw [← eg, Nat.gcd_comm x m, Nat.gcd_rec m x, Nat.gcd_comm]
  · rename_i hy
    have : m = 0 := by omega
    subst this
    rw [← eg] at q
    simpa using q
/-- the bounds of the first few -/
def Inp (menu out : List Int) : Prop := ∀ (i : Nat) (m o : Int), menu[i]? = some m → out[i]? = some o → 0 ≤ o ∧ o < m
theorem Inp.push {menu out : List Int} {m o : Int} (h : Inp menu out) (e : menu[out.length]? = some m) (h0 : 0 ≤ o) (h1 : o < m) : Inp menu (out ++ [o]) := fun i m' o' em eo => by
  by_cases hi : i < out.length
  · rw [List.getElem?_append_left hi] at eo
    exact h i m' o' em eo
  · rw [List.getElem?_append_right (by omega)] at eo
    have : i = out.length := by
      by_cases hz : i - out.length = 0
      · omega
      · rw [List.getElem?_eq_none_iff.mpr (by simp; omega)] at eo
        cases eo
    subst this
    simp at eo
    subst eo
    rw [e] at em
    cases em
    exact ⟨h0, h1⟩
theorem sz_of {n : Nat} {i : Int} (h0 : 0 ≤ i) (h1 : i < 2 ^ n) : Sz n i := by
  unfold Sz
  have : ((i.natAbs : Int)) < ((2 ^ n : Nat) : Int) := by
    rw [Int.natAbs_of_nonneg h0]
    simpa using h1
  omega
theorem p__law_draws (ds : List D) (Q : QR) (X : QX) (h : sp__law_draws ds Q X) : runBody t__law_draws (startD 7 [false, false, false] ds) Q X := by
  obtain ⟨cell, salt, menu, rfl, c0, hs, hl, hm, q⟩ := h
  simp [runBody, t__law_draws, startD, slotsOf, slotOf]
  refine ⟨⟨by decide, by decide, by decide⟩, ?_, ⟨by omega, by omega⟩, ?_⟩
  · exact mul_ok (m := 20) (n := 10) (by unfold Sz; decide) (Nat.lt_of_lt_of_le hs (by decide)) (by decide)
  refine loop_ints (fun i δ' => ∃ (out : List Int) (rest mixed : Int) (o : Option Sl), δ' = [some (.fz (.int cell)), some (.fz (.int salt)), some (.fz (.lst (menu.map D.int))), some (.own (out.map D.int)), some (.fz (.int rest)), some (.fz (.int mixed)), o] ∧ out.length = i ∧ Inp menu out ∧ (0 ≤ rest ∨ Sz 62 mixed))
    ⟨[], _, _, none, rfl, rfl, fun i m o _ e => by simp at e, ?_⟩ (fun i δ' hi ⟨out, rest, mixed, o, e, el, hp, hr⟩ => ?_) (fun δ' ⟨out, rest, mixed, o, e, el, hp, hr⟩ => ?_)
  · by_cases h1 : (1000000000000000000 : Int) ≤ cell
    · left; omega
    · right
      unfold Sz
      omega
  · subst e el
    have hi2 : out.length < menu.length := by omega
    obtain ⟨m, em⟩ : ∃ m, menu[out.length]? = some m := ⟨_, List.getElem?_eq_getElem hi2⟩
    have hmm := hm m (List.mem_of_getElem? em)
    have ix : ixD (menu.map D.int) ((out.length : Nat) : Int) = some (.int m) := ix_map em
    simp [ix]
    split
    · rename_i hr0
      refine ⟨by omega, by omega, div_ok (n := 60) (sz_of (by omega) hmm.2) (by decide) (by omega), out ++ [rest.fmod m], rest.fdiv m, mixed, ⟨by simp, rfl, rfl⟩, by simp, hp.push em (Int.fmod_nonneg_of_pos _ hmm.1) (Int.fmod_lt_of_pos _ hmm.1), .inl (Int.fdiv_nonneg hr0 (by omega))⟩
    · rename_i hr0
      have sm : Sz 62 mixed := by rcases hr with h | h; omega; exact h
      generalize e1 : (mixed * mixed + 3571 * ((out.length : Int) + 1) + 40692).fmod 2147483399 = m1
      have b1 : 0 ≤ m1 ∧ m1 < 2147483399 := by rw [← e1]; exact ⟨Int.fmod_nonneg_of_pos _ (by decide), Int.fmod_lt_of_pos _ (by decide)⟩
      generalize e2 : (m1 * m1 + m1.fdiv 97).fmod 2147483629 = m2
      have b2 : 0 ≤ m2 ∧ m2 < 2147483629 := by rw [← e2]; exact ⟨Int.fmod_nonneg_of_pos _ (by decide), Int.fmod_lt_of_pos _ (by decide)⟩
      have s1 : Sz 32 m1 := sz_of b1.1 (by omega)
      have s2 : Sz 62 m2 := sz_of b2.1 (by omega)
      refine ⟨mul_ok sm sm (by decide), mul_ok (m := 20) (n := 20) (by unfold Sz; decide) (sz_of (by omega) (by omega)) (by decide), mul_ok s1 s1 (by decide), div_ok (n := 10) (by unfold Sz; decide) (by decide) (by decide), div_ok (n := 10) (by unfold Sz; decide) (by decide) (by decide), by omega, by omega, out ++ [(m2.fdiv 8).fmod m], rest, m2, ⟨by simp, rfl, rfl⟩, by simp, hp.push em (Int.fmod_nonneg_of_pos _ hmm.1) (Int.fmod_lt_of_pos _ hmm.1), .inr s2⟩
  · subst e
    simp
    exact q out ⟨by simpa using el, hp⟩
theorem p__law_digits (ds : List D) (Q : QR) (X : QX) (h : sp__law_digits ds Q X) : runBody t__law_digits (startD 4 [false, false] ds) Q X := by
  obtain ⟨cell, salt, rfl, c0, hs, q⟩ := h
  simp [runBody, t__law_digits, startD, slotsOf, slotOf, repN]
  refine ⟨⟨by decide, by decide, by decide⟩, cell, salt, List.replicate 6 (10 ^ 10), ?_, c0, hs, by decide, fun m hm => ?_, fun out ⟨ol, oi⟩ => ?_⟩
  · simp
  · simp at hm
    subst hm
    decide
  · simp at ol
    simp
    refine loop_map (fun i δ' => ∃ (n : Int) (o : Option Sl), δ' = [some (.fz (.int cell)), some (.fz (.int salt)), some (.fz (.int n)), o] ∧ 0 ≤ n ∧ n < 10 ^ (10 * i)) ⟨0, none, rfl, by decide, by decide⟩ (fun i m δ' em ⟨n, o, e, n0, n1⟩ => ?_) (fun δ' ⟨n, o, e, n0, n1⟩ => ?_)
    · subst e
      have hi : i < 6 := by have := (List.getElem?_eq_some_iff.mp em).1; omega
      obtain ⟨m0, m1⟩ := oi i (10 ^ 10) m (by rw [List.getElem?_replicate, if_pos hi]) em
      simp
      refine ⟨⟨by decide, by decide, by decide⟩, ?_, ?_⟩
      · refine mul_ok (m := 200) (n := 40) ?_ (by unfold Sz; decide) (by decide)
        refine sz_of n0 (Int.lt_of_lt_of_le n1 ?_)
        have : i = 0 ∨ i = 1 ∨ i = 2 ∨ i = 3 ∨ i = 4 ∨ i = 5 := by omega
        rcases this with rfl | rfl | rfl | rfl | rfl | rfl <;> decide
      · have : i = 0 ∨ i = 1 ∨ i = 2 ∨ i = 3 ∨ i = 4 ∨ i = 5 := by omega
        rcases this with rfl | rfl | rfl | rfl | rfl | rfl <;> (simp at n1 m1 ⊢; omega)
    · subst e
      simp
      rw [ol] at n1
      exact q n n0 n1
end VL
end
section
set_option linter.all false
set_option maxRecDepth 100000
set_option maxHeartbeats 8000000
namespace VL
open PySem
theorem fm {a b : Int} (h : 0 < b) : 0 ≤ a.fmod b ∧ a.fmod b < b := ⟨Int.fmod_nonneg_of_pos _ h, Int.fmod_lt_of_pos _ h⟩
theorem four {out : List Int} {a b c d : Int} (h : Inm [a, b, c, d] out) : ∃ w0 w1 w2 w3, out = [w0, w1, w2, w3] ∧ (0 ≤ w0 ∧ w0 < a) ∧ (0 ≤ w1 ∧ w1 < b) ∧ (0 ≤ w2 ∧ w2 < c) ∧ (0 ≤ w3 ∧ w3 < d) := by
  obtain ⟨hl, hi⟩ := h
  match out, hl with
  | [w0, w1, w2, w3], _ => exact ⟨w0, w1, w2, w3, rfl, hi 0 _ _ rfl rfl, hi 1 _ _ rfl rfl, hi 2 _ _ rfl rfl, hi 3 _ _ rfl rfl⟩
theorem seven {out : List Int} {a b c d e f g : Int} (h : Inm [a, b, c, d, e, f, g] out) : ∃ w0 w1 w2 w3 w4 w5 w6, out = [w0, w1, w2, w3, w4, w5, w6] ∧ (0 ≤ w0 ∧ w0 < a) ∧ (0 ≤ w1 ∧ w1 < b) ∧ (0 ≤ w2 ∧ w2 < c) ∧ (0 ≤ w3 ∧ w3 < d) ∧ (0 ≤ w4 ∧ w4 < e) ∧ (0 ≤ w5 ∧ w5 < f) ∧ (0 ≤ w6 ∧ w6 < g) := by
  obtain ⟨hl, hi⟩ := h
  match out, hl with
  | [w0, w1, w2, w3, w4, w5, w6], _ => exact ⟨w0, w1, w2, w3, w4, w5, w6, rfl, hi 0 _ _ rfl rfl, hi 1 _ _ rfl rfl, hi 2 _ _ rfl rfl, hi 3 _ _ rfl rfl, hi 4 _ _ rfl rfl, hi 5 _ _ rfl rfl, hi 6 _ _ rfl rfl⟩
/-- cells and digits, asked for -/
theorem use_cell {ns : List Int} {k : Int} {Q : QR} {X : QX} (k0 : 0 ≤ k) (h : ∀ c : Int, 0 ≤ c → Q (.fz (.int c))) : sp__law_cell [.scr ns, .int k] Q X := ⟨ns, k, rfl, k0, h⟩
theorem use_digits {c s : Int} {Q : QR} {X : QX} (c0 : 0 ≤ c) (hs : s.natAbs < 1000) (h : ∀ n : Int, 0 ≤ n → n < 10 ^ 60 → Q (.fz (.int n))) : sp__law_digits [.int c, .int s] Q X := ⟨c, s, rfl, c0, hs, h⟩
theorem use_draws {c s : Int} {menu : List Int} {ds : List D} {Q : QR} {X : QX} (e : ds = menu.map D.int) (c0 : 0 ≤ c) (hs : s.natAbs < 1000) (hl : menu.length ≤ 100) (hm : ∀ m ∈ menu, 0 < m ∧ m < 2 ^ 60) (h : ∀ out, Inm menu out → Q (.own (out.map D.int))) : sp__law_draws [.int c, .int s, .lst ds] Q X := ⟨c, s, menu, by rw [e], c0, hs, hl, hm, h⟩
theorem d60 {n : Int} (h0 : 0 ≤ n) (h : n < 10 ^ 60) : Sz 200 n := sz_of h0 (Int.lt_trans h (by decide))
theorem p30 : powOk 10 30 := ⟨by decide, by decide, by decide⟩
theorem p29 : powOk 10 29 := ⟨by decide, by decide, by decide⟩
theorem pw10 {k : Int} (h0 : 0 ≤ k) (h : k ≤ 100) : powOk 10 k := ⟨h0, by omega, by decide⟩
theorem p__law_numbers (ds : List D) (Q : QR) (X : QX) (h : sp__law_numbers ds Q X) : runBody t__law_numbers (startD 5 [false] ds) Q X := by
  obtain ⟨ns, rfl, q⟩ := h
  simp [runBody, t__law_numbers, startD, slotsOf, slotOf]
  refine use_cell (by decide) fun c1 hc1 => ?_
  simp
  refine use_digits hc1 (by decide) fun one h1 h1' => ?_
  simp
  refine use_cell (by decide) fun c2 hc2 => ?_
  simp
  refine use_digits hc2 (by decide) fun two h2 h2' => ?_
  simp
  refine use_cell (by decide) fun c3 hc3 => ?_
  simp
  refine use_digits hc3 (by decide) fun more h3 h3' => ?_
  simp
  refine use_cell (by decide) fun c4 hc4 => ?_
  simp
  refine use_draws (menu := [6, 8, 2, 2]) rfl hc4 (by decide) (by decide) (by decide) fun out ho => ?_
  obtain ⟨w0, w1, w2, w3, rfl, b0, b1, b2, b3⟩ := four ho
  simp
  let S : Fr → Prop := fun δ => ∃ a b, δ = [some (.fz (.scr ns)), some (.fz (.int a)), some (.fz (.int b)), some (.fz (.int more)), some (.fz (.lst [.int w0, .int w1, .int w2, .int w3]))] ∧ Sz 200 a ∧ Sz 200 b
  have s1 := d60 h1 h1'
  have s2 := d60 h2 h2'
  have m30 : ∀ x : Int, Sz 100 (x.fmod 1000000000000000000000000000000) := fun x => sz_of (fm (by decide)).1 (Int.lt_trans (fm (by decide)).2 (by decide))
  have m29 : ∀ x : Int, Sz 99 (1 + x.fmod 100000000000000000000000000000) := fun x => by
    have := fm (a := x) (b := 100000000000000000000000000000) (by decide)
    exact sz_of (by omega) (by have h := this.2; omega)
  have m100 : ∀ x : Int, Sz 7 (x.fmod 100) := fun x => sz_of (fm (by decide)).1 (Int.lt_trans (fm (by decide)).2 (by decide))
  have m60 : ∀ x : Int, Sz 7 (1 + x.fmod 60) := fun x => by
    have := fm (a := x) (b := 60) (by decide)
    exact sz_of (by omega) (by have h := this.2; omega)
  refine ⟨S, ?_, fun δ' ⟨a, b, e, sa, sb⟩ => ?_⟩
  · simp [ixD, ixOf]
    split
    · exact ⟨p30, p29, mul_ok (m30 _) (m29 _) (by decide), p30, p29, mul_ok (m30 _) (m29 _) (by decide), _, _, rfl, ((m30 _).mul (m29 _)).mono (by decide), ((m30 _).mul (m29 _)).mono (by decide)⟩
    · exact ⟨_, _, rfl, s1, s2⟩
  subst e
  refine ⟨S, ?_, fun δ' ⟨a, b, e, sa, sb⟩ => ?_⟩
  · simp [ixD, ixOf]
    split
    · exact ⟨mul_ok (m100 _) (m60 _) (by decide), mul_ok (m100 _) (m60 _) (by decide), _, _, rfl, ((m100 _).mul (m60 _)).mono (by decide), ((m100 _).mul (m60 _)).mono (by decide)⟩
    · exact ⟨_, _, rfl, sa, sb⟩
  subst e
  refine ⟨S, ?_, fun δ' ⟨a, b, e, sa, sb⟩ => ?_⟩
  · simp [ixD, ixOf]
    split
    · exact ⟨p30, mul_ok (m30 _) (m30 _) (by decide), _, _, rfl, ((m30 _).mul (m30 _)).mono (by decide), (m30 _).mono (by decide)⟩
    · exact ⟨_, _, rfl, sa, sb⟩
  subst e
  refine ⟨S, ?_, fun δ' ⟨a, b, e, sa, sb⟩ => ?_⟩
  · simp [ixD, ixOf]
    split
    · exact ⟨p30, mul_ok (m30 _) (m30 _) (by decide), _, _, rfl, (m30 _).mono (by decide), ((m30 _).mul (m30 _)).mono (by decide)⟩
    · exact ⟨_, _, rfl, sa, sb⟩
  subst e
  refine ⟨S, ?_, fun δ' ⟨a, b, e, sa, sb⟩ => ?_⟩
  · simp [ixD, ixOf]
    split
    · exact ⟨_, _, rfl, Sz.zero, sb⟩
    · exact ⟨_, _, rfl, sa, sb⟩
  subst e
  refine ⟨S, ?_, fun δ' ⟨a, b, e, sa, sb⟩ => ?_⟩
  · simp [ixD, ixOf]
    split
    · exact ⟨_, _, rfl, sa, Sz.zero⟩
    · exact ⟨_, _, rfl, sa, sb⟩
  subst e
  refine ⟨S, ?_, fun δ' ⟨a, b, e, sa, sb⟩ => ?_⟩
  · simp [ixD, ixOf]
    split
    · exact ⟨_, _, rfl, sa.neg, sb⟩
    · exact ⟨_, _, rfl, sa, sb⟩
  subst e
  refine ⟨S, ?_, fun δ' ⟨a, b, e, sa, sb⟩ => ?_⟩
  · simp [ixD, ixOf]
    split
    · exact ⟨_, _, rfl, sa, sb.neg⟩
    · exact ⟨_, _, rfl, sa, sb⟩
  subst e
  simp
  exact q a b (sa.mono (by decide)) (sb.mono (by decide))
theorem seqv {x y : Str} : D.eqv (.str x) (.str y) = (x == y) := by unfold D.eqv; rfl
theorem eq_str {dn : Dun} {x y : Str} {Q : QR} {X : QX} (hx : flatS x = true) (hy : flatS y = true) (h : Q (.fz (.bl (x == y)))) : opEq dn (.str x) (.str y) Q X := by
  unfold opEq
  refine ⟨⟨?_, ?_, by unfold D.dep; decide, by unfold D.dep; decide⟩, ?_⟩
  · unfold D.flat; exact hx
  · unfold D.flat; exact hy
  · rw [seqv]; exact h
theorem flat_int (a : Int) : flatS (Str.ofString a.repr) = true := flat_of _
theorem flat_strR (t u : Int) : flatS (strR t u) = true := by
  unfold strR
  split
  · exact flat_of _
  · exact flat_app (flat_app (flat_app (by simp [flatS, Str.empty]) (flat_of _)) (flat_of _)) (flat_of _)
theorem p__law_shows (ds : List D) (Q : QR) (X : QX) (h : sp__law_shows ds Q X) : runBody t__law_shows (startD 4 [false, false, false] ds) Q X := by
  obtain ⟨t, u, a, b, rfl, hn, he, s1, s2, s3, s4, q⟩ := h
  simp [runBody, t__law_shows, startD, slotsOf, slotOf]
  refine ⟨t, u, rfl, hn, ?_⟩
  simp [rD, Yes] at q ⊢
  have l1 := s1.log
  have l2 := s2.log
  refine ⟨mul_ok s1 s4 (by decide), mul_ok s3 s2 (by decide), ?_⟩
  rw [he]
  simp
  refine ⟨by omega, ?_⟩
  split
  · rename_i hu
    subst hu
    refine ⟨t, 1, rfl, ?_⟩
    simp [opIs]
    refine ⟨t, 1, rfl, s1.mono (by decide), s2.mono (by decide), ?_⟩
    simp
    refine eq_str (flat_strR _ _) (flat_int _) ?_
    have : strR t 1 = Str.ofString t.repr := by unfold strR; rw [if_pos rfl]; rfl
    rw [this]
    simpa using q
  · rename_i hu
    refine ⟨t, u, rfl, ?_⟩
    simp [opIs, hu]
    refine ⟨t, u, rfl, s1.mono (by decide), s2.mono (by decide), ?_⟩
    have e1 : (Str.ofString t.repr).length ≤ 4000 := int_len (s1.mono (by decide))
    have e2 : (Str.ofString u.repr).length ≤ 4000 := int_len (s2.mono (by decide))
    have e3 : (Str.ofString "/").length = 1 := by decide
    simp
    refine ⟨by omega, by omega, by rw [str_len]; omega, ?_⟩
    refine eq_str (flat_strR _ _) (flat_app (flat_app (flat_int _) (flat_of _)) (flat_int _)) ?_
    have : strR t u = Str.ofString t.repr ++ Str.ofString "/" ++ Str.ofString u.repr := by
      unfold strR
      rw [if_neg hu, str_empty]
      rfl
    rw [this]
    simpa using q
end VL
end
section
set_option linter.all false
set_option maxRecDepth 100000
set_option maxHeartbeats 8000000
namespace VL
open PySem
theorem p__law_refused (ds : List D) (Q : QR) (X : QX) (h : sp__law_refused ds Q X) : runBody t__law_refused (startD 3 [false] ds) Q X := by
  obtain ⟨a, rfl, q⟩ := h
  simp [runBody, t__law_refused, startD, slotsOf, slotOf]
  refine ⟨a, 0, 0, rfl, fun _ => ?_, fun h => absurd rfl h⟩
  simp [ct_WatchError, ix_ZeroUnder, ix_ValueError, ix_BadNumber, ix_Refused, noExc]
  unfold opEq
  refine ⟨⟨by simp [D.flat, D.flats], by simp [D.flat, D.flats], by simp [D.dep, D.deps], by simp [D.dep, D.deps]⟩, ?_⟩
  simpa [D.eqv, D.eqvs, Yes] using q
theorem use_init {a b : Int} {n : Nat} {Q : QR} {X : QX} (hb : b ≠ 0) (hn : n ≤ 8000) (sa : Sz n a) (sb : Sz n b) (h : ∀ T U, Nm T U → T * b = a * U → Sz n T → Sz n U → Q (.fz (rD T U))) : sp_Ratio___init__ [.int a, .int b] Q X :=
  ⟨a, b, n, rfl, fun h => absurd h hb, fun _ => ⟨hn, sa, sb, h⟩⟩
theorem use_shows {t u a b : Int} {Q : QR} {X : QX} (hn : Nm t u) (he : t * b = a * u) (s1 : Sz 1800 t) (s2 : Sz 1800 u) (s3 : Sz 4000 a) (s4 : Sz 4000 b) (q : Q (.fz (.bl true))) : sp__law_shows [rD t u, .int a, .int b] Q X := ⟨t, u, a, b, rfl, hn, he, s1, s2, s3, s4, q⟩
theorem use_worth {t u a b : Int} {Q : QR} {X : QX} (hn : Nm t u) (he : t * b = a * u) (s1 : Sz 100000 t) (s2 : Sz 100000 u) (s3 : Sz 100000 a) (s4 : Sz 100000 b) (q : Q (.fz (.bl true))) : sp__law_worth [rD t u, .int a, .int b] Q X := ⟨t, u, a, b, rfl, hn, he, s1, s2, s3, s4, q⟩
theorem Nm.one (a : Int) : Nm a 1 := ⟨by decide, by simp⟩
theorem p__law_part_a (ds : List D) (Q : QR) (X : QX) (h : sp__law_part_a ds Q X) : runBody t__law_part_a (startD 4 [false] ds) Q X := by
  obtain ⟨ns, rfl, q⟩ := h
  simp [runBody, t__law_part_a, startD, slotsOf, slotOf]
  refine ⟨ns, rfl, fun a b sa sb => ?_⟩
  simp
  refine ⟨a, rfl, ?_⟩
  simp [Yes]
  refine ⟨0, rfl, ?_⟩
  simp [Yes]
  refine use_init (n := 400) (by decide) (by decide) sa (Sz.one (by decide)) fun T U hn he s1 s2 => ?_
  obtain ⟨rfl, rfl⟩ := Nm.uniq (Nm.one a) hn he
  simp
  refine use_shows hn rfl (s1.mono (by decide)) (s2.mono (by decide)) (s1.mono (by decide)) (s2.mono (by decide)) ?_
  simp
  refine ⟨_, T, 1, rfl, .inr ⟨rfl, rfl⟩, sa.mono (by decide), ?_⟩
  simp
  refine use_shows hn rfl (s1.mono (by decide)) (s2.mono (by decide)) (s1.mono (by decide)) (s2.mono (by decide)) ?_
  simp
  split
  · exact q
  · rename_i hb
    refine use_init (n := 400) hb (by decide) sa sb fun t u hn1 he1 s3 s4 => ?_
    simp
    refine use_shows hn1 he1 (s3.mono (by decide)) (s4.mono (by decide)) (sa.mono (by decide)) (sb.mono (by decide)) ?_
    simp
    refine ⟨_, t, u, rfl, .inl rfl, s3.mono (by decide), ?_⟩
    simp
    refine use_shows hn1 he1 (s3.mono (by decide)) (s4.mono (by decide)) (sa.mono (by decide)) (sb.mono (by decide)) ?_
    simp
    refine use_init (n := 400) (by omega) (by decide) sa.neg sb.neg fun t2 u2 hn2 he2 s5 s6 => ?_
    simp
    refine use_shows hn2 (by grind) (s5.mono (by decide)) (s6.mono (by decide)) (sa.mono (by decide)) (sb.mono (by decide)) ?_
    simp
    refine use_init (n := 400) hb (by decide) sa.neg sb fun t3 u3 hn3 he3 s7 s8 => ?_
    simp
    refine use_shows hn3 he3 (s7.mono (by decide)) (s8.mono (by decide)) (sa.neg.mono (by decide)) (sb.mono (by decide)) ?_
    simp
    have fin : sp_Ratio___init__ [.int t, .int u] (fun r => sp__law_shows [r.d, .int T, .int b] (fun r => match r.d with | .bl b_1 => if b_1 = true then sp__law_shows [rD t u, .int T, .int b] Q X else Q (.fz (.bl false)) | _ => False) X) X := by
      have hu := hn1.1
      refine use_init (n := 400) (by omega) (by decide) s3 s4 fun t4 u4 hn4 he4 s9 s10 => ?_
      obtain ⟨rfl, rfl⟩ := Nm.uniq hn1 hn4 he4
      simp
      refine use_shows hn1 he1 (s3.mono (by decide)) (s4.mono (by decide)) (sa.mono (by decide)) (sb.mono (by decide)) ?_
      simp
      exact use_shows hn1 he1 (s3.mono (by decide)) (s4.mono (by decide)) (sa.mono (by decide)) (sb.mono (by decide)) q
    split
    · simp [rD]
      exact fin
    · rename_i hT
      refine use_init (n := 400) hT (by decide) sb sa fun t5 u5 hn5 he5 s9 s10 => ?_
      simp
      refine use_shows hn5 he5 (s9.mono (by decide)) (s10.mono (by decide)) (sb.mono (by decide)) (sa.mono (by decide)) ?_
      simp [rD]
      exact fin
theorem pw_10 {k : Int} (h0 : 0 ≤ k) (h : k ≤ 100) : powOk 10 k := ⟨h0, by omega, by decide⟩
theorem p__law_fraction (ds : List D) (Q : QR) (X : QX) (h : sp__law_fraction ds Q X) : runBody t__law_fraction (startD 5 [false, false, false] ds) Q X := by
  obtain ⟨ns, k, s, rfl, k0, k1, q⟩ := h
  simp [runBody, t__law_fraction, startD, slotsOf, slotOf]
  refine use_cell (by omega) fun c1 hc1 => ?_
  simp
  refine use_digits hc1 (by omega) fun top h1 h1' => ?_
  simp
  refine use_cell (by omega) fun c2 hc2 => ?_
  simp
  refine use_digits hc2 (by omega) fun un h2 h2' => ?_
  simp
  have fin : ∀ a b : Int, 0 ≤ a → a < 10 ^ 60 → 0 ≤ b → b < 10 ^ 60 → (1 ≤ s → a < 10 ^ 12 ∧ b < 10 ^ 12) → Q (.fz (.tup [.int a, .int (1 + b.fmod (10 ^ 60 - 1))])) := fun a b a0 a1 b0 b1 hs => by
    have := fm (a := b) (b := 10 ^ 60 - 1) (by decide)
    refine q a _ a0 a1 (by omega) (by omega) fun h => ⟨(hs h).1, ?_⟩
    have hb := (hs h).2
    have e : b.fmod (10 ^ 60 - 1) = b := by
      rw [Int.fmod_eq_emod_of_nonneg _ (by decide)]
      exact Int.emod_eq_of_lt b0 (Int.lt_trans hb (by decide))
    rw [e]
    omega
  have p60 : powOk 10 60 := pw_10 (by decide) (by decide)
  have p12 : powOk 10 12 := pw_10 (by decide) (by decide)
  have e100 : ∀ x : Int, 0 ≤ x.fmod 100 ∧ x.fmod 100 < 10 ^ 12 ∧ x.fmod 100 < 10 ^ 60 := fun x => by
    have := fm (a := x) (b := 100) (by decide)
    exact ⟨this.1, Int.lt_trans this.2 (by decide), Int.lt_trans this.2 (by decide)⟩
  have e12 : ∀ x : Int, 0 ≤ x.fmod 1000000000000 ∧ x.fmod 1000000000000 < 10 ^ 12 ∧ x.fmod 1000000000000 < 10 ^ 60 := fun x => by
    have := fm (a := x) (b := 1000000000000) (by decide)
    exact ⟨this.1, Int.lt_of_lt_of_le this.2 (by decide), Int.lt_trans this.2 (by decide)⟩
  split
  · rename_i hs
    subst hs
    exact ⟨p60, fin _ _ (e100 _).1 (e100 _).2.2 (e100 _).1 (e100 _).2.2 fun _ => ⟨(e100 _).2.1, (e100 _).2.1⟩⟩
  · split
    · exact ⟨p12, p60, fin _ _ (e12 _).1 (e12 _).2.2 (e12 _).1 (e12 _).2.2 fun _ => ⟨(e12 _).2.1, (e12 _).2.1⟩⟩
    · exact ⟨p60, fin _ _ h1 h1' h2 h2' fun h => by omega⟩
theorem p__law_fraction_c (ds : List D) (Q : QR) (X : QX) (h : sp__law_fraction_c ds Q X) : runBody t__law_fraction_c (startD 5 [false, false, false] ds) Q X := by
  obtain ⟨ns, k, s, rfl, k0, k1, q⟩ := h
  simp [runBody, t__law_fraction_c, startD, slotsOf, slotOf]
  refine use_cell (by omega) fun c1 hc1 => ?_
  simp
  refine use_digits hc1 (by omega) fun top h1 h1' => ?_
  simp
  refine use_cell (by omega) fun c2 hc2 => ?_
  simp
  refine use_digits hc2 (by omega) fun un h2 h2' => ?_
  simp
  have fin : ∀ a b : Int, 0 ≤ a → a < 10 ^ 60 → Q (.fz (.tup [.int a, .int (1 + b.fmod (10 ^ 60 - 1))])) := fun a b a0 a1 => by
    have := fm (a := b) (b := 10 ^ 60 - 1) (by decide)
    exact q a _ a0 a1 (by omega) (by omega)
  have p60 : powOk 10 60 := pw_10 (by decide) (by decide)
  have p12 : powOk 10 12 := pw_10 (by decide) (by decide)
  have f : ∀ {x m : Int}, 0 < m → m ≤ 10 ^ 60 → 0 ≤ x.fmod m ∧ x.fmod m < 10 ^ 60 := fun {x m} h0 h => ⟨(fm h0).1, Int.lt_of_lt_of_le (fm h0).2 h⟩
  split
  · rename_i hs
    subst hs
    simp
    exact ⟨p60, fin _ _ (f (by decide) (by decide)).1 (f (by decide) (by decide)).2⟩
  · split
    · rename_i hs
      subst hs
      simp
      exact ⟨p12, p60, fin _ _ (f (by decide) (by decide)).1 (f (by decide) (by decide)).2⟩
    · split
      · exact ⟨p30, p60, fin _ _ (f (by decide) (by decide)).1 (f (by decide) (by decide)).2⟩
      · exact ⟨p60, fin _ _ h1 h1'⟩
theorem use_pow {t u k : Int} {Q : QR} {X : QX} (hn : Nm t u) (s1 : Sz 41 t) (s2 : Sz 41 u) (k0 : 0 ≤ k) (k1 : k ≤ 64) (r : res (t ^ k.toNat) (u ^ k.toNat) 2700 Q) : sp_Ratio___pow__ [.obj 0 [.int t, .int u], .int k] Q X := ⟨t, u, k, rfl, hn, k0, k1, s1, s2, r⟩
end VL
end
section
set_option linter.all false
set_option maxRecDepth 100000
set_option maxHeartbeats 8000000
namespace VL
open PySem
theorem ite_pow {P : Int → Prop} {k j : Int} {R : Prop} (h : P k) (hr : k ≠ j → R) : if k = j then P j else R := by
  split
  · rename_i e
    rw [← e]
    exact h
  · rename_i e
    exact hr e
theorem p__law_power_to_21 (ds : List D) (Q : QR) (X : QX) (h : sp__law_power_to_21 ds Q X) : runBody t__law_power_to_21 (startD 2 [false, false] ds) Q X := by
  obtain ⟨t, u, k, rfl, hn, k0, k1, s1, s2, r⟩ := h
  have key : sp_Ratio___pow__ [.obj 0 [.int t, .int u], .int k] Q X := use_pow hn s1 s2 (by omega) (by omega) r
  simp [runBody, t__law_power_to_21, startD, slotsOf, slotOf, rD]
  repeat refine ite_pow (P := fun j => sp_Ratio___pow__ [.obj 0 [.int t, .int u], .int j] Q X) key fun _ => ?_
  have : k = 21 := by omega
  subst this
  exact key
theorem p__law_power_to_43 (ds : List D) (Q : QR) (X : QX) (h : sp__law_power_to_43 ds Q X) : runBody t__law_power_to_43 (startD 2 [false, false] ds) Q X := by
  obtain ⟨t, u, k, rfl, hn, k0, k1, s1, s2, r⟩ := h
  have key : sp_Ratio___pow__ [.obj 0 [.int t, .int u], .int k] Q X := use_pow hn s1 s2 (by omega) (by omega) r
  simp [runBody, t__law_power_to_43, startD, slotsOf, slotOf, rD]
  repeat refine ite_pow (P := fun j => sp_Ratio___pow__ [.obj 0 [.int t, .int u], .int j] Q X) key fun _ => ?_
  have : k = 43 := by omega
  subst this
  exact key
theorem p__law_power_to_64 (ds : List D) (Q : QR) (X : QX) (h : sp__law_power_to_64 ds Q X) : runBody t__law_power_to_64 (startD 2 [false, false] ds) Q X := by
  obtain ⟨t, u, k, rfl, hn, k0, k1, s1, s2, r⟩ := h
  have key : sp_Ratio___pow__ [.obj 0 [.int t, .int u], .int k] Q X := use_pow hn s1 s2 (by omega) (by omega) r
  simp [runBody, t__law_power_to_64, startD, slotsOf, slotOf, rD]
  repeat refine ite_pow (P := fun j => sp_Ratio___pow__ [.obj 0 [.int t, .int u], .int j] Q X) key fun _ => ?_
  have : k = 64 := by omega
  subst this
  exact key
theorem p__law_power (ds : List D) (Q : QR) (X : QX) (h : sp__law_power ds Q X) : runBody t__law_power (startD 2 [false, false] ds) Q X := by
  obtain ⟨t, u, k, rfl, hn, k0, k1, s1, s2, r⟩ := h
  simp [runBody, t__law_power, startD, slotsOf, slotOf]
  split
  · exact ⟨t, u, k, rfl, hn, k0, by omega, s1, s2, r⟩
  · split
    · exact ⟨t, u, k, rfl, hn, by omega, by omega, s1, s2, r⟩
    · exact ⟨t, u, k, rfl, hn, by omega, by omega, s1, s2, r⟩
/-- two operands from worths -/
theorem Wi.rv {d : D} {a b : Int} {n : Nat} (h : Wi d a b n) : ∃ t u, RV d t u ∧ Nm t u ∧ t * b = a * u ∧ 0 < b ∧ Sz (n + 1) t ∧ Sz (n + 1) u ∧ Sz (n + 1) a ∧ Sz (n + 1) b := by
  rcases h with ⟨t, u, rfl, hn, he, hb, s1, s2, s3, s4⟩ | ⟨rfl, rfl, s⟩
  · exact ⟨t, u, .inl rfl, hn, he, hb, s1.mono (by omega), s2.mono (by omega), s3.mono (by omega), s4.mono (by omega)⟩
  · exact ⟨a, 1, .inr ⟨rfl, rfl⟩, Nm.one a, rfl, by decide, s.mono (by omega), Sz.one (by omega), s.mono (by omega), Sz.one (by omega)⟩
theorem Wo.rv {d : D} {a b : Int} {n : Nat} (h : Wo d a b n) : ∃ t u, d = rD t u ∧ Nm t u ∧ t * b = a * u ∧ 0 < b ∧ Sz (n + 1) t ∧ Sz (n + 1) u ∧ Sz (n + 1) a ∧ Sz (n + 1) b := by
  obtain ⟨t, u, rfl, hn, he, hb, s1, s2, s3, s4⟩ := h
  exact ⟨t, u, rfl, hn, he, hb, s1.mono (by omega), s2.mono (by omega), s3.mono (by omega), s4.mono (by omega)⟩
/-- equations of worths -/
theorem w_add {T U t u t' u' a b c d : Int} (hU : 0 < U) (h1 : 0 < u) (h2 : 0 < u') (e : T * (u * u') = (t * u' + t' * u) * U) (e1 : t * b = a * u) (e2 : t' * d = c * u') : T * (b * d) = (a * d + c * b) * U := by
  have : (u * u') ≠ 0 := Int.mul_ne_zero (by omega) (by omega)
  refine Int.eq_of_mul_eq_mul_left this ?_
  grind
theorem w_sub {T U t u t' u' a b c d : Int} (hU : 0 < U) (h1 : 0 < u) (h2 : 0 < u') (e : T * (u * u') = (t * u' - t' * u) * U) (e1 : t * b = a * u) (e2 : t' * d = c * u') : T * (b * d) = (a * d - c * b) * U := by
  have : (u * u') ≠ 0 := Int.mul_ne_zero (by omega) (by omega)
  refine Int.eq_of_mul_eq_mul_left this ?_
  grind
theorem w_mul {T U t u t' u' a b c d : Int} (hU : 0 < U) (h1 : 0 < u) (h2 : 0 < u') (e : T * (u * u') = (t * t') * U) (e1 : t * b = a * u) (e2 : t' * d = c * u') : T * (b * d) = (a * c) * U := by
  have : (u * u') ≠ 0 := Int.mul_ne_zero (by omega) (by omega)
  refine Int.eq_of_mul_eq_mul_left this ?_
  grind
/-- an operator on the two -/
theorem do_add {x y : D} {a b c d : Int} {Q : QR} {X : QX} (hx : Wi x a b 500) (hy : Wi y c d 500) (ho : Wo x a b 500 ∨ Wo y c d 500) (h : ∀ T U, Nm T U → T * (b * d) = (a * d + c * b) * U → Sz 1003 T → Sz 1003 U → Q (.fz (rD T U))) : opAdd dn x y Q X := by
  rcases ho with ho | ho
  · obtain ⟨t, u, rfl, hn, he, hb, s1, s2, s3, s4⟩ := ho.rv
    obtain ⟨t', u', rv, hn', he', hd, s1', s2', s3', s4'⟩ := hy.rv
    have key : sp_Ratio___add__ [rD t u, y] Q X := ⟨t, u, t', u', 501, ⟨y, rfl, rv, hn, hn', by decide, s1, s2, s1', s2'⟩, fun T U h1 h2 h3 h4 => h T U h1 (w_add h1.1 hn.1 hn'.1 h2 he he') h3 h4⟩
    rcases rv with rfl | ⟨rfl, rfl⟩
    · simp [rD]; exact key
    · simp [rD]; exact key
  · obtain ⟨t', u', rfl, hn', he', hd, s1', s2', s3', s4'⟩ := ho.rv
    obtain ⟨t, u, rv, hn, he, hb, s1, s2, s3, s4⟩ := hx.rv
    rcases rv with rfl | ⟨rfl, rfl⟩
    · have key : sp_Ratio___add__ [rD t u, rD t' u'] Q X := ⟨t, u, t', u', 501, ⟨_, rfl, .inl rfl, hn, hn', by decide, s1, s2, s1', s2'⟩, fun T U h1 h2 h3 h4 => h T U h1 (w_add h1.1 hn.1 hn'.1 h2 he he') h3 h4⟩
      simp [rD]; exact key
    · simp [rD]
      refine ⟨t', u', t, 501, ⟨_, rfl, .inr ⟨rfl, rfl⟩, hn', hn, by decide, s1', s2', s1, s2⟩, rfl, fun T U h1 h2 h3 h4 => h T U h1 (w_add (u := 1) (u' := u') (t := t) (t' := t') h1.1 (by decide) hn'.1 (by grind) he he') h3 h4⟩
theorem do_sub {x y : D} {a b c d : Int} {Q : QR} {X : QX} (hx : Wi x a b 500) (hy : Wi y c d 500) (ho : Wo x a b 500 ∨ Wo y c d 500) (h : ∀ T U, Nm T U → T * (b * d) = (a * d - c * b) * U → Sz 1003 T → Sz 1003 U → Q (.fz (rD T U))) : opSub dn x y Q X := by
  rcases ho with ho | ho
  · obtain ⟨t, u, rfl, hn, he, hb, s1, s2, s3, s4⟩ := ho.rv
    obtain ⟨t', u', rv, hn', he', hd, s1', s2', s3', s4'⟩ := hy.rv
    have key : sp_Ratio___sub__ [rD t u, y] Q X := ⟨t, u, t', u', 501, ⟨y, rfl, rv, hn, hn', by decide, s1, s2, s1', s2'⟩, fun T U h1 h2 h3 h4 => h T U h1 (w_sub h1.1 hn.1 hn'.1 h2 he he') h3 h4⟩
    rcases rv with rfl | ⟨rfl, rfl⟩
    · simp [rD]; exact key
    · simp [rD]; exact key
  · obtain ⟨t', u', rfl, hn', he', hd, s1', s2', s3', s4'⟩ := ho.rv
    obtain ⟨t, u, rv, hn, he, hb, s1, s2, s3, s4⟩ := hx.rv
    rcases rv with rfl | ⟨rfl, rfl⟩
    · have key : sp_Ratio___sub__ [rD t u, rD t' u'] Q X := ⟨t, u, t', u', 501, ⟨_, rfl, .inl rfl, hn, hn', by decide, s1, s2, s1', s2'⟩, fun T U h1 h2 h3 h4 => h T U h1 (w_sub h1.1 hn.1 hn'.1 h2 he he') h3 h4⟩
      simp [rD]; exact key
    · simp [rD]
      refine ⟨t', u', t, 501, ⟨_, rfl, .inr ⟨rfl, rfl⟩, hn', hn, by decide, s1', s2', s1, s2⟩, rfl, fun T U h1 h2 h3 h4 => h T U h1 (w_sub (u := 1) (u' := u') (t := t) (t' := t') h1.1 (by decide) hn'.1 (by grind) he he') h3 h4⟩
theorem do_mul {x y : D} {a b c d : Int} {Q : QR} {X : QX} (hx : Wi x a b 500) (hy : Wi y c d 500) (ho : Wo x a b 500 ∨ Wo y c d 500) (h : ∀ T U, Nm T U → T * (b * d) = (a * c) * U → Sz 1003 T → Sz 1003 U → Q (.fz (rD T U))) : opMul dn x y Q X := by
  rcases ho with ho | ho
  · obtain ⟨t, u, rfl, hn, he, hb, s1, s2, s3, s4⟩ := ho.rv
    obtain ⟨t', u', rv, hn', he', hd, s1', s2', s3', s4'⟩ := hy.rv
    have key : sp_Ratio___mul__ [rD t u, y] Q X := ⟨t, u, t', u', 501, ⟨y, rfl, rv, hn, hn', by decide, s1, s2, s1', s2'⟩, fun T U h1 h2 h3 h4 => h T U h1 (w_mul h1.1 hn.1 hn'.1 h2 he he') (h3.mono (by decide)) (h4.mono (by decide))⟩
    rcases rv with rfl | ⟨rfl, rfl⟩
    · simp [rD]; exact key
    · simp [rD]; exact key
  · obtain ⟨t', u', rfl, hn', he', hd, s1', s2', s3', s4'⟩ := ho.rv
    obtain ⟨t, u, rv, hn, he, hb, s1, s2, s3, s4⟩ := hx.rv
    rcases rv with rfl | ⟨rfl, rfl⟩
    · have key : sp_Ratio___mul__ [rD t u, rD t' u'] Q X := ⟨t, u, t', u', 501, ⟨_, rfl, .inl rfl, hn, hn', by decide, s1, s2, s1', s2'⟩, fun T U h1 h2 h3 h4 => h T U h1 (w_mul h1.1 hn.1 hn'.1 h2 he he') (h3.mono (by decide)) (h4.mono (by decide))⟩
      simp [rD]; exact key
    · simp [rD]
      refine ⟨t', u', t, 501, ⟨_, rfl, .inr ⟨rfl, rfl⟩, hn', hn, by decide, s1', s2', s1, s2⟩, rfl, fun T U h1 h2 h3 h4 => h T U h1 (w_mul (u := 1) (u' := u') (t := t) (t' := t') h1.1 (by decide) hn'.1 (by grind) he he') (h3.mono (by decide)) (h4.mono (by decide))⟩
theorem p__law_sums (ds : List D) (Q : QR) (X : QX) (h : sp__law_sums ds Q X) : runBody t__law_sums (startD 6 [false, false, false, false, false, false] ds) Q X := by
  obtain ⟨x, y, a, b, c, d, rfl, hx, hy, ho, q⟩ := h
  simp only [runBody, t__law_sums, startD, slotsOf, slotOf]
  obtain ⟨t, u, _, _, _, hb, _, _, sa, sb⟩ := hx.rv
  obtain ⟨t', u', _, _, _, hd, _, _, sc, sd⟩ := hy.rv
  have m1 := (sa.mul sd).mono (show 501 + 501 ≤ 1002 by decide)
  have m2 := (sc.mul sb).mono (show 501 + 501 ≤ 1002 by decide)
  have m3 := (sb.mul sd).mono (show 501 + 501 ≤ 1002 by decide)
  have m4 := (sa.mul sc).mono (show 501 + 501 ≤ 1002 by decide)
  simp
  refine do_add hx hy ho fun T U hn he s1 s2 => ?_
  simp
  refine ⟨mul_ok sa sd (by decide), mul_ok sc sb (by decide), mul_ok sb sd (by decide), ?_⟩
  refine use_worth hn he (s1.mono (by decide)) (s2.mono (by decide)) ((m1.add m2).mono (by decide)) (m3.mono (by decide)) ?_
  simp
  refine do_sub hx hy ho fun T U hn he s1 s2 => ?_
  simp
  refine ⟨mul_ok sa sd (by decide), mul_ok sc sb (by decide), mul_ok sb sd (by decide), ?_⟩
  refine use_worth hn he (s1.mono (by decide)) (s2.mono (by decide)) ((m1.sub m2).mono (by decide)) (m3.mono (by decide)) ?_
  simp
  refine do_mul hx hy ho fun T U hn he s1 s2 => ?_
  simp
  refine ⟨mul_ok sa sc (by decide), mul_ok sb sd (by decide), ?_⟩
  exact use_worth hn he (s1.mono (by decide)) (s2.mono (by decide)) (m4.mono (by decide)) (m3.mono (by decide)) q
end VL
end
section
set_option linter.all false
set_option maxRecDepth 100000
set_option maxHeartbeats 8000000
namespace VL
open PySem
theorem p__law_signs (ds : List D) (Q : QR) (X : QX) (h : sp__law_signs ds Q X) : runBody t__law_signs (startD 3 [false, false, false] ds) Q X := by
  obtain ⟨x, a, b, rfl, ho, q⟩ := h
  obtain ⟨t, u, rfl, hn, he, hb, s1, s2, s3, s4⟩ := ho.rv
  simp [runBody, t__law_signs, startD, slotsOf, slotOf, rD]
  refine ⟨t, u, rfl, hn, s1.mono (by decide), s2.mono (by decide), ?_⟩
  simp
  refine use_worth hn.neg (by grind) (s1.neg.mono (by decide)) (s2.mono (by decide)) (s3.neg.mono (by decide)) (s4.mono (by decide)) ?_
  simp
  refine ⟨t, u, rfl, hn, s1.mono (by decide), s2.mono (by decide), ?_⟩
  simp
  have hab : Nm (if t < 0 then -t else t) u := ⟨hn.1, by split; (rw [Int.natAbs_neg]; exact hn.2); exact hn.2⟩
  have heb : (if t < 0 then -t else t) * b = (if a < 0 then -a else a) * u := by
    have hu := hn.1
    by_cases ht : t < 0
    · have h3 : t * b < 0 := Int.mul_neg_of_neg_of_pos ht hb
      have ha : a < 0 := by
        by_cases ha : 0 ≤ a
        · have := Int.mul_nonneg ha (Int.le_of_lt hu)
          omega
        · omega
      rw [if_pos ht, if_pos ha]
      grind
    · have h3 : 0 ≤ t * b := Int.mul_nonneg (by omega) (Int.le_of_lt hb)
      have ha : ¬ a < 0 := by
        intro ha
        have : a * u < 0 := Int.mul_neg_of_neg_of_pos ha hu
        omega
      rw [if_neg ht, if_neg ha]
      exact he
  refine use_worth hab heb (s1.abs.mono (by decide)) (s2.mono (by decide)) (s3.abs.mono (by decide)) (s4.mono (by decide)) ?_
  simp
  exact use_worth hn he (s1.mono (by decide)) (s2.mono (by decide)) (s3.mono (by decide)) (s4.mono (by decide)) q
theorem w_pow {T U t u p q : Int} {n : Nat} (hu : 0 < u) (e : T * u ^ n = t ^ n * U) (e1 : t * q = p * u) : T * q ^ n = p ^ n * U := by
  have h0 : u ^ n ≠ 0 := Int.ne_of_gt (Int.pow_pos hu)
  have h1 : t ^ n * q ^ n = p ^ n * u ^ n := by rw [← Int.mul_pow, e1, Int.mul_pow]
  refine Int.eq_of_mul_eq_mul_left h0 ?_
  grind
theorem p__law_powers (ds : List D) (Q : QR) (X : QX) (h : sp__law_powers ds Q X) : runBody t__law_powers (startD 8 [false, false, false, false, false] ds) Q X := by
  obtain ⟨t, u, p, q, n, rfl, hn, he, hq, s1, s2, s3, s4, n0, n1, qq⟩ := h
  simp [runBody, t__law_powers, startD, slotsOf, slotOf]
  refine ⟨⟨by omega, by omega⟩, ?_⟩
  refine loop_ints (fun i δ' => ∃ o, δ' = [some (.fz (rD t u)), some (.fz (rD 0 1)), some (.fz (.int p)), some (.fz (.int q)), some (.fz (.int n)), some (.fz (.int (p ^ i))), some (.fz (.int (q ^ i))), o] ∧ i ≤ n.toNat) ⟨none, by simp, Nat.zero_le _⟩ (fun i δ' hi ⟨o, e, hl⟩ => ?_) (fun δ' ⟨o, e, hl⟩ => ?_)
  · subst e
    simp
    have hp : ∀ {x : Int}, Sz 41 x → Sz (42 * i + 1) (x ^ i) := fun {x} hx => Sz.pw hx i
    exact ⟨mul_ok (hp s3) s3 (by omega), mul_ok (hp s4) s4 (by omega), ⟨(Int.pow_succ _ _).symm, (Int.pow_succ _ _).symm⟩, by omega⟩
  · subst e
    simp
    have hp : ∀ {x : Int}, Sz 41 x → Sz 2700 (x ^ n.toNat) := fun {x} hx => (Sz.pw hx n.toNat).mono (by omega)
    refine ⟨t, u, n, rfl, hn, n0, n1, s1, s2, fun T U h1 h2 h3 h4 => ?_⟩
    simp
    refine use_worth h1 (w_pow hn.1 h2 he) (h3.mono (by decide)) (h4.mono (by decide)) ((hp s3).mono (by decide)) ((hp s4).mono (by decide)) ?_
    simp
    refine use_worth hn he (s1.mono (by decide)) (s2.mono (by decide)) (s3.mono (by decide)) (s4.mono (by decide)) ?_
    simp
    refine ⟨0, 1, n, rfl, ⟨by decide, by decide⟩, n0, n1, Sz.zero, Sz.one (by decide), fun T U h1 h2 h3 h4 => ?_⟩
    simp
    refine use_worth h1 ?_ (h3.mono (by decide)) (h4.mono (by decide)) (by split; exact Sz.one (by decide); exact Sz.zero) (Sz.one (by decide)) ?_
    · rw [Int.one_pow] at h2
      by_cases hz : n = 0
      · subst hz
        simpa using h2
      · rw [if_neg hz]
        rw [Int.zero_pow (by omega)] at h2
        exact h2
    · simp [rD]
      refine use_pow ⟨by decide, by decide⟩ Sz.zero (Sz.one (by decide)) (by decide) (by decide) fun T U h1 h2 h3 h4 => ?_
      simp
      exact use_worth h1 (by simpa using h2) (h3.mono (by decide)) (h4.mono (by decide)) (Sz.one (by decide)) (Sz.one (by decide)) qq
end VL
end
section
set_option linter.all false
set_option maxRecDepth 100000
set_option maxHeartbeats 8000000
namespace VL
open PySem
theorem ip60 {n : Int} (h0 : 0 ≤ n) (h : n < 10 ^ 60) : Sz 200 n := d60 h0 h
theorem b40 {n : Int} (h0 : 0 ≤ n) (h : n ≤ 10 ^ 12) : Sz 41 n := sz_of h0 (Int.lt_of_le_of_lt h (by decide))
theorem Wo.of {t u a b : Int} (hn : Nm t u) (he : t * b = a * u) (hb : 0 < b) (s1 : Sz 200 t) (s2 : Sz 200 u) (s3 : Sz 200 a) (s4 : Sz 200 b) : Wo (rD t u) a b 500 := ⟨t, u, rfl, hn, he, hb, s1.mono (by decide), s2.mono (by decide), s3.mono (by decide), s4.mono (by decide)⟩
theorem mul_rr {t u t' u' : Int} {Q : QR} {X : QX} (h : sp_Ratio___mul__ [rD t u, rD t' u'] Q X) : opMul dn (rD t u) (rD t' u') Q X := by simp [rD]; exact h
theorem oadd_rr {t u t' u' : Int} {Q : QR} {X : QX} (h : sp_Ratio___add__ [rD t u, rD t' u'] Q X) : opObj dn .add (rD t u) (rD t' u') Q X := by simp [rD]; exact h
theorem osub_rr {t u t' u' : Int} {Q : QR} {X : QX} (h : sp_Ratio___sub__ [rD t u, rD t' u'] Q X) : opObj dn .sub (rD t u) (rD t' u') Q X := by simp [rD]; exact h
theorem omul_rr {t u t' u' : Int} {Q : QR} {X : QX} (h : sp_Ratio___mul__ [rD t u, rD t' u'] Q X) : opObj dn .mul (rD t u) (rD t' u') Q X := by simp [rD]; exact h
theorem p__law_part_b (ds : List D) (Q : QR) (X : QX) (h : sp__law_part_b ds Q X) : runBody t__law_part_b (startD 11 [false] ds) Q X := by
  obtain ⟨ns, rfl, qq⟩ := h
  simp [runBody, t__law_part_b, startD, slotsOf, slotOf]
  refine use_cell (by decide) fun c1 hc1 => ?_
  simp
  refine use_draws (menu := [4, 2, 2, 2, 2, 65, 4]) rfl hc1 (by decide) (by decide) (by decide) fun out ho => ?_
  obtain ⟨w0, w1, w2, w3, w4, w5, w6, rfl, b0, b1, b2, b3, b4, b5, b6⟩ := seven ho
  simp [ixD, ixOf]
  refine ⟨ns, 0, w0, rfl, by decide, by decide, fun a b a0 a1 hb hb' _ => ?_⟩
  simp
  refine ⟨ns, 2, w0, rfl, by decide, by decide, fun c d c0 c1 hd hd' _ => ?_⟩
  simp
  refine ⟨ns, 4, 2 - w4, rfl, by decide, by decide, fun p q p0 p1 hq hq' hpq => ?_⟩
  obtain ⟨hp12, hq12⟩ := hpq (by omega)
  simp
  let S : Fr → Prop := fun δ => ∃ a b c d p, δ = [some (.fz (.scr ns)), some (.fz (.lst [.int w0, .int w1, .int w2, .int w3, .int w4, .int w5, .int w6])), some (.fz (.int a)), some (.fz (.int b)), some (.fz (.int c)), some (.fz (.int d)), some (.fz (.int p)), some (.fz (.int q)), none, none, none] ∧ Sz 200 a ∧ Sz 200 b ∧ 0 < b ∧ Sz 200 c ∧ Sz 200 d ∧ 0 < d ∧ Sz 41 p
  have sa := ip60 a0 a1
  have sb := ip60 (Int.le_of_lt hb) hb'
  have sc := ip60 c0 c1
  have sd := ip60 (Int.le_of_lt hd) hd'
  have sp := b40 p0 (Int.le_of_lt hp12)
  have sq := b40 (Int.le_of_lt hq) hq12
  refine ⟨S, ?_, fun δ' ⟨a, b, c, d, p, e, sa, sb, hb, sc, sd, hd, sp⟩ => ?_⟩
  · simp [ixD, ixOf]
    split
    · exact ⟨_, _, _, _, _, rfl, sa.neg, sb, hb, sc, sd, hd, sp⟩
    · exact ⟨_, _, _, _, _, rfl, sa, sb, hb, sc, sd, hd, sp⟩
  subst e
  refine ⟨S, ?_, fun δ' ⟨a, b, c, d, p, e, sa, sb, hb, sc, sd, hd, sp⟩ => ?_⟩
  · simp [ixD, ixOf]
    split
    · exact ⟨_, _, _, _, _, rfl, sa, sb, hb, sc.neg, sd, hd, sp⟩
    · exact ⟨_, _, _, _, _, rfl, sa, sb, hb, sc, sd, hd, sp⟩
  subst e
  refine ⟨S, ?_, fun δ' ⟨a, b, c, d, p, e, sa, sb, hb, sc, sd, hd, sp⟩ => ?_⟩
  · simp [ixD, ixOf]
    split
    · exact ⟨_, _, _, _, _, rfl, sa, sb, hb, sc, sd, hd, sp.neg⟩
    · exact ⟨_, _, _, _, _, rfl, sa, sb, hb, sc, sd, hd, sp⟩
  subst e
  refine ⟨S, ?_, fun δ' ⟨a, b, c, d, p, e, sa, sb, hb, sc, sd, hd, sp⟩ => ?_⟩
  · simp [ixD, ixOf]
    split
    · exact ⟨_, _, _, _, _, rfl, sa, sb, hb, sc, sb, hb, sp⟩
    · exact ⟨_, _, _, _, _, rfl, sa, sb, hb, sc, sd, hd, sp⟩
  subst e
  refine ⟨S, ?_, fun δ' ⟨a, b, c, d, p, e, sa, sb, hb, sc, sd, hd, sp⟩ => ?_⟩
  · simp [ixD, ixOf]
    split
    · exact ⟨_, _, _, _, _, rfl, sa, sb, hb, sa.neg, sd, hd, sp⟩
    · exact ⟨_, _, _, _, _, rfl, sa, sb, hb, sc, sd, hd, sp⟩
  subst e
  simp
  refine use_init (n := 200) (by omega) (by decide) sa sb fun t u hn he s1 s2 => ?_
  simp
  refine use_init (n := 200) (by omega) (by decide) sc sd fun t' u' hn' he' s1' s2' => ?_
  simp
  have W1 := Wo.of hn he hb s1 s2 sa sb
  have W2 := Wo.of hn' he' hd s1' s2' sc sd
  have I3 : Wi (.int c) c 1 500 := .inr ⟨rfl, rfl, sc.mono (by decide)⟩
  refine ⟨_, _, a, b, c, d, rfl, .inl W1, .inl W2, .inl W1, ?_⟩
  simp [Yes]
  refine ⟨_, _, c, d, a, b, rfl, .inl W2, .inl W1, .inl W2, ?_⟩
  simp [Yes]
  refine ⟨_, _, a, b, c, 1, rfl, .inl W1, I3, .inl W1, ?_⟩
  simp [Yes]
  refine ⟨_, _, c, 1, a, b, rfl, I3, .inl W1, .inr W1, ?_⟩
  simp [Yes]
  refine ⟨_, _, a, b, a, b, rfl, .inl W1, .inl W1, .inl W1, ?_⟩
  simp [Yes]
  refine do_add (.inl W1) (.inl W2) (.inl W1) fun T1 U1 n1 e1 z1 z1' => ?_
  simp
  refine do_sub (.inl W1) (.inl W2) (.inl W1) fun T2 U2 n2 e2 z2 z2' => ?_
  refine mul_rr ⟨T1, U1, T2, U2, 1003, ⟨_, rfl, .inl rfl, n1, n2, by decide, z1, z1', z2, z2'⟩, fun T3 U3 n3 e3 z3 z3' => ?_⟩
  simp
  have m1 := ((sa.mul sd).mono (show 200 + 200 ≤ 400 by decide))
  have m2 := ((sc.mul sb).mono (show 200 + 200 ≤ 400 by decide))
  have m3 := ((sb.mul sd).mono (show 200 + 200 ≤ 400 by decide))
  have A1 := m1.add m2
  have A2 := m1.sub m2
  refine ⟨mul_ok sa sd (by decide), mul_ok sc sb (by decide), mul_ok sa sd (by decide), mul_ok sc sb (by decide), mul_ok A1 A2 (by decide), mul_ok sb sd (by decide), mul_ok m3 sb (by decide), mul_ok (m3.mul sb) sd (by decide), ?_⟩
  refine use_worth n3 (by rw [Int.mul_assoc (b * d) b d]; exact w_mul n3.1 n1.1 n2.1 e3 e1 e2) (z3.mono (by decide)) (z3'.mono (by decide)) ((A1.mul A2).mono (by decide)) (((m3.mul sb).mul sd).mono (by decide)) ?_
  simp
  refine use_init (n := 41) (by omega) (by decide) sp sq fun tp up np ep zp zp' => ?_
  simp
  refine do_sub (.inl W1) (.inl W1) (.inl W1) fun T0 U0 n0 e0 z0 z0' => ?_
  have hz : T0 = 0 ∧ U0 = 1 := by
    refine Nm.uniq ⟨by decide, by decide⟩ n0 ?_
    have h1 : T0 * (b * b) = 0 := by rw [e0, Int.sub_self, Int.zero_mul]
    have hbb : b * b ≠ 0 := Int.mul_ne_zero (by omega) (by omega)
    have : T0 = 0 := by
      rcases Int.mul_eq_zero.mp h1 with h | h
      · exact h
      · exact absurd h hbb
    rw [this]
    simp
  obtain ⟨rfl, rfl⟩ := hz
  simp [ixD, ixOf]
  refine ⟨tp, up, p, q, w5, rfl, np, ep, hq, zp, zp', sp, sq, b5.1, by omega, ?_⟩
  simp [Yes, ixD, ixOf]
  refine oadd_rr ⟨t, u, t', u', 200, ⟨_, rfl, .inl rfl, hn, hn', by decide, s1, s2, s1', s2'⟩, fun T4 U4 n4 e4 z4 z4' => ?_⟩
  have f4 := w_add n4.1 hn.1 hn'.1 e4 he he'
  simp
  refine omul_rr ⟨T4, U4, t', u', 401, ⟨_, rfl, .inl rfl, n4, hn', by decide, z4, z4', s1'.mono (by decide), s2'.mono (by decide)⟩, fun T5 U5 n5 e5 z5 z5' => ?_⟩
  have f5 := w_mul n5.1 n4.1 hn'.1 e5 f4 he'
  simp
  have B1 := A1.mul sc
  have B2 := m3.mul sd
  refine ⟨mul_ok sa sd (by decide), mul_ok sc sb (by decide), mul_ok A1 sc (by decide), mul_ok sb sd (by decide), mul_ok m3 sd (by decide), ?_⟩
  refine use_worth n5 f5 (z5.mono (by decide)) (z5'.mono (by decide)) (B1.mono (by decide)) (B2.mono (by decide)) ?_
  simp
  refine osub_rr ⟨T5, U5, t, u, 802, ⟨_, rfl, .inl rfl, n5, hn, by decide, z5.mono (by decide), z5'.mono (by decide), s1.mono (by decide), s2.mono (by decide)⟩, fun T6 U6 n6 e6 z6 z6' => ?_⟩
  have f6 := w_sub n6.1 n5.1 hn.1 e6 f5 he
  simp
  have B3 := B1.mul sb
  have B4 := ((sa.mul sb).mul sd).mul sd
  have B5 := B2.mul sb
  have e7 : a * b * d * d = a * (b * d * d) := by rw [Int.mul_assoc a b d, Int.mul_assoc a (b * d) d]
  refine ⟨mul_ok sa sd (by decide), mul_ok sc sb (by decide), mul_ok A1 sc (by decide), mul_ok B1 sb (by decide), mul_ok sa sb (by decide), mul_ok (sa.mul sb) sd (by decide), mul_ok ((sa.mul sb).mul sd) sd (by decide), mul_ok sb sd (by decide), mul_ok m3 sd (by decide), mul_ok B2 sb (by decide), ?_⟩
  refine use_worth n6 (by rw [e7]; exact f6) (z6.mono (by decide)) (z6'.mono (by decide)) (((B3.mono (show 401 + 200 + 200 ≤ 801 by decide)).sub (B4.mono (by decide))).mono (by decide)) (B5.mono (by decide)) ?_
  simp
  refine ⟨_, c, d, rfl, W2, ?_⟩
  simp [Yes]
  exact ⟨_, a, b, rfl, W1, qq⟩
end VL
end
section
set_option linter.all false
set_option maxRecDepth 100000
set_option maxHeartbeats 8000000
namespace VL
open PySem
theorem p__law_two_fractions (ds : List D) (Q : QR) (X : QX) (h : sp__law_two_fractions ds Q X) : runBody t__law_two_fractions (startD 8 [false] ds) Q X := by
  obtain ⟨ns, rfl, qq⟩ := h
  simp [runBody, t__law_two_fractions, startD, slotsOf, slotOf]
  refine use_cell (by decide) fun c1 hc1 => ?_
  simp
  refine use_draws (menu := [4, 2, 2, 6]) rfl hc1 (by decide) (by decide) (by decide) fun out ho => ?_
  obtain ⟨w0, w1, w2, w3, rfl, b0, b1, b2, b3⟩ := four ho
  simp [ixD, ixOf]
  refine ⟨fun δ => ∃ s, δ = [some (.fz (.scr ns)), some (.fz (.lst [.int w0, .int w1, .int w2, .int w3])), some (.fz (.int s)), none, none, none, none, none], ?_, fun δ' ⟨s, e⟩ => ?_⟩
  · simp [ixD, ixOf]
    repeat' split
    all_goals exact ⟨_, rfl⟩
  subst e
  simp
  refine ⟨ns, 0, s, rfl, by decide, by decide, fun a b a0 a1 hb hb' => ?_⟩
  simp
  refine ⟨ns, 2, s, rfl, by decide, by decide, fun c d c0 c1 hd hd' => ?_⟩
  simp
  refine use_cell (by decide) fun c2 hc2 => ?_
  simp
  refine use_digits hc2 (by decide) fun f0 h1 h1' => ?_
  simp
  have sa := ip60 a0 a1
  have sb := ip60 (Int.le_of_lt hb) hb'
  have sc := ip60 c0 c1
  have sd := ip60 (Int.le_of_lt hd) hd'
  refine ⟨p29, ?_⟩
  let S : Nat → Fr → Prop := fun n δ => ∃ a b c d f, δ = [some (.fz (.scr ns)), some (.fz (.lst [.int w0, .int w1, .int w2, .int w3])), some (.fz (.int s)), some (.fz (.int a)), some (.fz (.int b)), some (.fz (.int c)), some (.fz (.int d)), some (.fz (.int f))] ∧ Sz n a ∧ Sz 200 b ∧ 0 < b ∧ Sz 500 c ∧ Sz 500 d ∧ 0 < d ∧ Sz 98 f ∧ 0 < f
  have m29 : ∀ x : Int, Sz 98 (1 + x.fmod 100000000000000000000000000000) ∧ 0 < 1 + x.fmod 100000000000000000000000000000 := fun x => by
    have := fm (a := x) (b := 100000000000000000000000000000) (by decide)
    exact ⟨sz_of (by omega) (by have h := this.2; omega), by omega⟩
  have m60 : ∀ x : Int, Sz 98 (1 + x.fmod 60) ∧ 0 < 1 + x.fmod 60 := fun x => by
    have := fm (a := x) (b := 60) (by decide)
    exact ⟨sz_of (by omega) (by have h := this.2; omega), by omega⟩
  refine ⟨S 200, ?_, fun δ' ⟨a, b, c, d, f, e, sa, sb, hb, sc, sd, hd, sf, hf⟩ => ?_⟩
  · simp
    split
    · exact ⟨_, _, _, _, _, rfl, sa.mono (by decide), sb, hb, sc.mono (by decide), sd.mono (by decide), hd, (m60 _).1, (m60 _).2⟩
    · exact ⟨_, _, _, _, _, rfl, sa.mono (by decide), sb, hb, sc.mono (by decide), sd.mono (by decide), hd, (m29 _).1, (m29 _).2⟩
  subst e
  refine ⟨S 400, ?_, fun δ' ⟨a, b, c, d, f, e, sa, sb, hb, sc, sd, hd, sf, hf⟩ => ?_⟩
  · simp [ixD, ixOf]
    split
    · exact ⟨mul_ok sa sb (by decide), _, _, _, _, _, rfl, (sa.mul sb).mono (by decide), sb, hb, sa.mono (by decide), Sz.one (by decide), by decide, sf, hf⟩
    · exact ⟨_, _, _, _, _, rfl, sa.mono (by decide), sb, hb, sc, sd, hd, sf, hf⟩
  subst e
  refine ⟨S 400, ?_, fun δ' ⟨a, b, c, d, f, e, sa, sb, hb, sc, sd, hd, sf, hf⟩ => ?_⟩
  · simp [ixD, ixOf]
    split
    · exact ⟨_, _, _, _, _, rfl, sa.neg, sb, hb, sc.neg, sd, hd, sf, hf⟩
    · exact ⟨_, _, _, _, _, rfl, sa, sb, hb, sc, sd, hd, sf, hf⟩
  subst e
  refine ⟨S 400, ?_, fun δ' ⟨a, b, c, d, f, e, sa, sb, hb, sc, sd, hd, sf, hf⟩ => ?_⟩
  · simp [ixD, ixOf]
    split
    · split
      · exact ⟨_, _, _, _, _, rfl, sa, sb, hb, sc.neg, sd, hd, sf, hf⟩
      · exact ⟨_, _, _, _, _, rfl, sa, sb, hb, sc, sd, hd, sf, hf⟩
    · exact ⟨_, _, _, _, _, rfl, sa, sb, hb, sc, sd, hd, sf, hf⟩
  subst e
  refine ⟨S 400, ?_, fun δ' ⟨a, b, c, d, f, e, sa, sb, hb, sc, sd, hd, sf, hf⟩ => ?_⟩
  · simp [ixD, ixOf]
    split
    · refine ⟨mul_ok sa sf (by decide), mul_ok sb sf (by decide), _, _, _, _, _, rfl, sa, sb, hb, ?_, (sb.mul sf).mono (by decide), Int.mul_pos hb hf, sf, hf⟩
      exact ((sa.mul sf).add ((sz_of b3.1 (show w3 < 2 ^ 498 by omega)) : Sz 498 w3)).mono (by decide)
    · exact ⟨_, _, _, _, _, rfl, sa, sb, hb, sc, sd, hd, sf, hf⟩
  subst e
  refine ⟨S 400, ?_, fun δ' ⟨a, b, c, d, f, e, sa, sb, hb, sc, sd, hd, sf, hf⟩ => ?_⟩
  · simp [ixD, ixOf]
    split
    · exact ⟨_, _, _, _, _, rfl, sa, sb, hb, Sz.zero, sd, hd, sf, hf⟩
    · exact ⟨_, _, _, _, _, rfl, sa, sb, hb, sc, sd, hd, sf, hf⟩
  subst e
  simp
  exact qq a b c d (sa.mono (by decide)) hb (sb.mono (by decide)) sc hd sd
theorem p__law_rounded (ds : List D) (Q : QR) (X : QX) (h : sp__law_rounded ds Q X) : runBody t__law_rounded (startD 5 [false, false, false] ds) Q X := by
  obtain ⟨x, a, b, rfl, ho, q⟩ := h
  obtain ⟨t, u, rfl, hn, he, hb, s1, s2, s3, s4⟩ := ho.rv
  have hu := hn.1
  have fl : ∀ y : Int, Sz 501 y → Sz 502 (y.fdiv u) ∧ (y.fdiv u) * u ≤ y ∧ y < (y.fdiv u + 1) * u := fun y hy => by
    have e1 : y.fdiv u = y / u := Int.fdiv_eq_ediv_of_nonneg _ (Int.le_of_lt hu)
    refine ⟨fdiv_sz hy, ?_, ?_⟩
    · rw [e1]; exact Int.ediv_mul_le _ (by omega)
    · rw [e1]; exact Int.lt_ediv_add_one_mul_self _ hu
  obtain ⟨z1, l1, l2⟩ := fl t s1
  obtain ⟨z2, l3, l4⟩ := fl (-t) s1.neg
  simp [runBody, t__law_rounded, startD, slotsOf, slotOf, rD]
  refine ⟨t, u, rfl, hu, s2.mono (by decide), ?_⟩
  simp
  refine ⟨t, u, rfl, hu, s2.mono (by decide), ?_⟩
  simp
  generalize t.fdiv u = L at *
  generalize (-t).fdiv u = M at *
  have k1 : L * b ≤ a := by
    refine Int.le_of_mul_le_mul_right ?_ hu
    have := Int.mul_le_mul_of_nonneg_right l1 (Int.le_of_lt hb)
    rw [he] at this
    calc L * b * u = L * u * b := by rw [Int.mul_right_comm]
      _ ≤ a * u := this
  have k2 : a < (L + 1) * b := by
    refine Int.lt_of_mul_lt_mul_right ?_ (Int.le_of_lt hu)
    have := Int.mul_lt_mul_of_pos_right l2 hb
    rw [he] at this
    calc a * u < (L + 1) * u * b := this
      _ = (L + 1) * b * u := by rw [Int.mul_right_comm]
  have k3 : a ≤ -M * b := by
    refine Int.le_of_mul_le_mul_right ?_ hu
    have := Int.mul_le_mul_of_nonneg_right l3 (Int.le_of_lt hb)
    rw [Int.neg_mul, he] at this
    have e : -M * b * u = -(M * u * b) := by rw [Int.neg_mul, Int.neg_mul, Int.mul_right_comm]
    rw [e]
    omega
  have k4 : (-M - 1) * b < a := by
    refine Int.lt_of_mul_lt_mul_right ?_ (Int.le_of_lt hu)
    have := Int.mul_lt_mul_of_pos_right l4 hb
    rw [Int.neg_mul, he] at this
    have e : (-M - 1) * b * u = -((M + 1) * u * b) := by
      rw [show -M - 1 = -(M + 1) by omega, Int.neg_mul, Int.neg_mul, Int.mul_right_comm]
    rw [e]
    omega
  have k1' : ¬ a < L * b := by omega
  have k2' : ¬ (L + 1) * b ≤ a := by omega
  refine ⟨_, rfl, rfl, ?_⟩
  simp [isT, k1', k2', k3, k4]
  refine ⟨mul_ok z1 s4 (by decide), mul_ok (z1.add (Sz.one (by decide))) s4 (by decide), _, rfl, rfl, ?_⟩
  simp [isT, k3, k4]
  exact ⟨mul_ok z2.neg s4 (by decide), mul_ok (z2.neg.sub (Sz.one (by decide))) s4 (by decide), q⟩
end VL
end
section
set_option linter.all false
set_option maxRecDepth 100000
set_option maxHeartbeats 8000000
namespace VL
open PySem
theorem p__law_orders (ds : List D) (Q : QR) (X : QX) (h : sp__law_orders ds Q X) : runBody t__law_orders (startD 7 [false, false, false, false] ds) Q X := by
  obtain ⟨t, u, t', u', l, r, rfl, hn, hn', s1, s2, s3, s4, hlt, heq, q⟩ := h
  have cm : ∀ {p : Int → Int → Bool} {Q' : QR} {X' : QX}, Q' (.fz (.bl (p (t * u') (t' * u)))) → Cmp p [.obj 0 [.int t, .int u], .obj 0 [.int t', .int u']] Q' X' := fun {p Q' X'} h => ⟨t, u, t', u', rfl, s1, s2, s3, s4, h⟩
  have ceq : ∀ {Q' : QR} {X' : QX}, Q' (.fz (.bl (t == t' && u == u'))) → sp_Ratio___eq__ [.obj 0 [.int t, .int u], .obj 0 [.int t', .int u']] Q' X' := fun {Q' X'} h => ⟨t, u, rD t' u', rfl, ⟨rfl, t', u', rfl⟩, h⟩
  simp [runBody, t__law_orders, startD, slotsOf, slotOf, rD]
  refine cm ?_
  simp
  refine cm ?_
  simp
  refine cm ?_
  simp
  refine cm ?_
  simp
  refine ⟨rfl, ceq ?_⟩
  simp
  refine ⟨rfl, ceq ?_⟩
  simp
  have e0 : decide (t * u' < t' * u) = decide (l < r) := by simp [hlt]
  have e1 : decide (t * u' ≤ t' * u) = decide (l ≤ r) := by
    apply decide_eq_decide.mpr
    omega
  have e2 : decide (t' * u < t * u') = decide (r < l) := by
    apply decide_eq_decide.mpr
    omega
  have e3 : decide (t' * u ≤ t * u') = decide (r ≤ l) := by
    apply decide_eq_decide.mpr
    omega
  have e4 : (t == t' && u == u') = decide (l = r) := by
    by_cases hlr : l = r
    · obtain ⟨rfl, rfl⟩ := Nm.uniq hn' hn (heq.mp hlr)
      simp [hlr]
    · have : ¬ (t = t' ∧ u = u') := fun ⟨h1, h2⟩ => hlr (heq.mpr (by rw [h1, h2]))
      by_cases h1 : t = t'
      · have h2 : u ≠ u' := fun h2 => this ⟨h1, h2⟩
        simp [h1, h2, hlr]
      · simp [h1, hlr]
  have e5 : (!t == t' || !u == u') = !decide (l = r) := by rw [← e4, Bool.not_and]
  have e6 : (l == r) = decide (l = r) := rfl
  simp only [e0, e1, e2, e3, e4, e5, e6]
  generalize decide (l < r) = b0
  generalize decide (l ≤ r) = b1
  generalize decide (r < l) = b2
  generalize decide (r ≤ l) = b3
  generalize decide (l = r) = b4
  refine ⟨by simp [small62], ?_⟩
  refine loop_ints (fun i δ' => ∃ o, δ' = [some (.fz (rD t u)), some (.fz (rD t' u')), some (.fz (.int l)), some (.fz (.int r)), some (.fz (.lst [.bl b0, .bl b1, .bl b2, .bl b3, .bl b4, .bl (!b4)])), some (.fz (.lst [.bl b0, .bl b1, .bl b2, .bl b3, .bl b4, .bl (!b4)])), o]) ⟨none, rfl⟩ (fun i δ' hi ⟨o, e⟩ => ?_) (fun δ' ⟨o, e⟩ => ?_)
  · subst e
    match i, hi with
    | 0, _ => cases b0 <;> simp [ixD, ixOf]
    | 1, _ => cases b1 <;> simp [ixD, ixOf]
    | 2, _ => cases b2 <;> simp [ixD, ixOf]
    | 3, _ => cases b3 <;> simp [ixD, ixOf]
    | 4, _ => cases b4 <;> simp [ixD, ixOf]
    | 5, _ => cases b4 <;> simp [ixD, ixOf]
    | i + 6, h => omega
  · subst e
    exact q
theorem p__law_unlike (ds : List D) (Q : QR) (X : QX) (h : sp__law_unlike ds Q X) : runBody t__law_unlike (startD 4 [false, false, false] ds) Q X := by
  obtain ⟨t, u, a, b, rfl, s1, s2, q⟩ := h
  simp [runBody, t__law_unlike, startD, slotsOf, slotOf, rD]
  refine ⟨t, u, rfl, s1, s2, ?_⟩
  simp
  refine ⟨fun i δ' => ∃ o, δ' = [some (.fz (rD t u)), some (.fz (.int a)), some (.fz (.int b)), o], ⟨none, rfl⟩, fun i d δ' e ⟨o, eo⟩ => ?_, fun δ' ⟨o, eo⟩ => ?_⟩
  · subst eo
    have hd : Cm d ∧ d.val = true ∧ eqR t u d = false := by
      match i, e with
      | 0, e => simp at e; subst e; exact ⟨trivial, rfl, rfl⟩
      | 1, e => simp at e; subst e; exact ⟨trivial, rfl, rfl⟩
      | 2, e => simp at e; subst e; exact ⟨trivial, rfl, rfl⟩
      | 3, e => simp at e; subst e; exact ⟨trivial, rfl, rfl⟩
      | i + 4, e => simp at e
    obtain ⟨h1, h2, h3⟩ := hd
    simp [rD]
    refine ⟨h2, t, u, d, rfl, h1, ?_⟩
    simp [h3]
    refine ⟨h2, t, u, d, rfl, h1, ?_⟩
    simp [h3, rD]
  · subst eo
    simp
    exact q
theorem p__law_near (ds : List D) (Q : QR) (X : QX) (h : sp__law_near ds Q X) : runBody t__law_near (startD 3 [false] ds) Q X := by
  obtain ⟨n, rfl, n0, sn, q⟩ := h
  simp [runBody, t__law_near, startD, slotsOf, slotOf]
  have sz2 : ∀ k : Int, 0 ≤ k → k < 10 → Sz 501 (n + k) := fun k k0 k1 => sn.add (sz_of (n := 500) k0 (by omega))
  refine use_init (n := 501) (by omega) (by decide) (Sz.one (by decide)) (sz2 3 (by decide) (by decide)) fun t u hn he s1 s2 => ?_
  obtain ⟨rfl, rfl⟩ := Nm.uniq (t := 1) (u := n + 3) ⟨by omega, by simp⟩ hn he
  simp
  refine use_init (n := 501) (by omega) (by decide) (Sz.one (by decide)) (sz2 2 (by decide) (by decide)) fun t u hn' he' s3 s4 => ?_
  obtain ⟨rfl, rfl⟩ := Nm.uniq (t := 1) (u := n + 2) ⟨by omega, by simp⟩ hn' he'
  simp
  refine ⟨1, n + 3, 1, n + 2, _, _, rfl, hn, hn', s1.mono (by decide), s2.mono (by decide), s3.mono (by decide), s4.mono (by decide), by omega, by omega, ?_⟩
  simp [Yes, rD]
  refine ⟨1, n + 3, rfl, hn, s1.mono (by decide), s2.mono (by decide), ?_⟩
  simp
  refine ⟨1, n + 2, rfl, hn', s3.mono (by decide), s4.mono (by decide), ?_⟩
  exact ⟨-1, n + 3, -1, n + 2, _, _, rfl, hn.neg, hn'.neg, s1.neg.mono (by decide), s2.mono (by decide), s3.neg.mono (by decide), s4.mono (by decide), by omega, by omega, q⟩
end VL
end
section
set_option linter.all false
set_option maxRecDepth 100000
set_option maxHeartbeats 8000000
namespace VL
open PySem
theorem p__law_zero_refused (ds : List D) (Q : QR) (X : QX) (h : sp__law_zero_refused ds Q X) : runBody t__law_zero_refused (startD 6 [false, false, false] ds) Q X := by
  obtain ⟨t, u, e, u', w, rfl, rv, hn, hn', s1, s2, s3, q⟩ := h
  have T : Two [rD t u, e] t u 0 u' 600 := ⟨e, rfl, rv, hn, hn', by decide, s1, s2, Sz.zero, s3⟩
  have k1 : ∀ {Q' : QR} {X' : QX}, X' ⟨2, []⟩ → opFdiv dn (rD t u) e Q' X' := fun {Q' X'} hx => by
    rcases rv with rfl | ⟨rfl, rfl⟩
    · simp [rD]; exact ⟨t, u, 0, u', 600, T, fun _ => hx, fun h => absurd rfl h⟩
    · simp [rD]; exact ⟨t, u, 0, 1, 600, T, fun _ => hx, fun h => absurd rfl h⟩
  have k2 : ∀ {Q' : QR} {X' : QX}, X' ⟨2, []⟩ → opMod dn (rD t u) e Q' X' := fun {Q' X'} hx => by
    rcases rv with rfl | ⟨rfl, rfl⟩
    · simp [rD]; exact ⟨t, u, 0, u', 600, T, by decide, fun _ => hx, fun h => absurd rfl h⟩
    · simp [rD]; exact ⟨t, u, 0, 1, 600, T, by decide, fun _ => hx, fun h => absurd rfl h⟩
  have k3 : ∀ {Q' : QR} {X' : QX}, X' ⟨2, []⟩ → sp_Ratio_over [rD t u, e] Q' X' := fun {Q' X'} hx => ⟨t, u, 0, u', 600, T, fun _ => hx, fun h => absurd rfl h⟩
  simp [runBody, t__law_zero_refused, startD, slotsOf, slotOf]
  split
  · refine k1 ?_
    simp [ct_WatchError, ix_ZeroUnder, ix_ValueError, ix_BadNumber, noExc]
    unfold opEq
    refine ⟨⟨by simp [D.flat, D.flats], by simp [D.flat, D.flats], by simp [D.dep, D.deps], by simp [D.dep, D.deps]⟩, ?_⟩
    simpa [D.eqv, D.eqvs, Yes] using q
  · split
    · refine k2 ?_
      simp [ct_WatchError, ix_ZeroUnder, ix_ValueError, ix_BadNumber, noExc]
      unfold opEq
      refine ⟨⟨by simp [D.flat, D.flats], by simp [D.flat, D.flats], by simp [D.dep, D.deps], by simp [D.dep, D.deps]⟩, ?_⟩
      simpa [D.eqv, D.eqvs, Yes] using q
    · refine ⟨rfl, k3 ?_⟩
      simp [ct_WatchError, ix_ZeroUnder, ix_ValueError, ix_BadNumber, noExc]
      unfold opEq
      refine ⟨⟨by simp [D.flat, D.flats], by simp [D.flat, D.flats], by simp [D.dep, D.deps], by simp [D.dep, D.deps]⟩, ?_⟩
      simpa [D.eqv, D.eqvs, Yes] using q
theorem fl_of {N M P R : Int} (hM : M ≠ 0) (hR : 0 < R) (e : N * R = P * M) : N.fdiv M * R ≤ P ∧ P < (N.fdiv M + 1) * R := by
  have main : ∀ {N M : Int}, 0 < M → N * R = P * M → N.fdiv M * R ≤ P ∧ P < (N.fdiv M + 1) * R := fun {N M} hM e => by
    have e1 : N.fdiv M = N / M := Int.fdiv_eq_ediv_of_nonneg _ (Int.le_of_lt hM)
    rw [e1]
    have l1 : N / M * M ≤ N := Int.ediv_mul_le _ (by omega)
    have l2 : N < (N / M + 1) * M := Int.lt_ediv_add_one_mul_self _ hM
    generalize N / M = F at *
    constructor
    · refine Int.le_of_mul_le_mul_right ?_ hM
      have := Int.mul_le_mul_of_nonneg_right l1 (Int.le_of_lt hR)
      rw [e] at this
      calc F * R * M = F * M * R := by rw [Int.mul_right_comm]
        _ ≤ P * M := this
    · refine Int.lt_of_mul_lt_mul_right ?_ (Int.le_of_lt hM)
      have := Int.mul_lt_mul_of_pos_right l2 hR
      rw [e] at this
      calc P * M < (F + 1) * M * R := this
        _ = (F + 1) * R * M := by rw [Int.mul_right_comm]
  by_cases h : 0 < M
  · exact main h e
  · have h2 : N.fdiv M = (-N).fdiv (-M) := by rw [Int.neg_fdiv_neg]
    rw [h2]
    exact main (by omega) (by rw [Int.neg_mul, Int.mul_neg, e])
theorem w_mod {T U t u t' u' a b c d F : Int} (h1 : 0 < u) (h2 : 0 < u') (e : T * (u * u') = (t * u' - t' * F * u) * U) (e1 : t * b = a * u) (e2 : t' * d = c * u') : T * (b * d) = (a * d - c * b * F) * U := by
  have : (u * u') ≠ 0 := Int.mul_ne_zero (by omega) (by omega)
  refine Int.eq_of_mul_eq_mul_left this ?_
  grind
theorem w_over {T U N M P R : Int} (hM : M ≠ 0) (e : T * M = N * U) (e1 : N * R = P * M) : T * R = P * U := by
  refine Int.eq_of_mul_eq_mul_left hM ?_
  grind
theorem w_cross {t u t' u' a b c d : Int} (e1 : t * b = a * u) (e2 : t' * d = c * u') : (t * u') * (b * c) = (a * d) * (u * t') := by grind
theorem p__law_quotients (ds : List D) (Q : QR) (X : QX) (h : sp__law_quotients ds Q X) : runBody t__law_quotients (startD 9 [false, false, false, false, false, false] ds) Q X := by
  obtain ⟨x, y, a, b, c, d, rfl, hx, hy, q⟩ := h
  obtain ⟨t, u, rfl, hn, he, hb, s1, s2, s3, s4⟩ := hx.rv
  obtain ⟨t', u', rv, hn', he', hd, s1', s2', s3', s4'⟩ := hy.rv
  simp [runBody, t__law_quotients, startD, slotsOf, slotOf]
  split
  · rename_i hc
    subst hc
    have ht : t' = 0 := by
      have : t' * d = 0 := by rw [he', Int.zero_mul]
      rcases Int.mul_eq_zero.mp this with h | h
      · exact h
      · omega
    subst ht
    have k : ∀ {w : Int} {Q' : QR} {X' : QX}, Yes Q' → sp__law_zero_refused [rD t u, y, .int w] Q' X' := fun h => ⟨t, u, y, u', _, rfl, rv, hn, hn', s1.mono (by decide), s2.mono (by decide), s2'.mono (by decide), h⟩
    refine k ?_
    simp [Yes]
    refine k ?_
    simp [Yes]
    exact k q
  · rename_i hc
    have ht : t' ≠ 0 := fun h => by
      subst h
      have : c * u' = 0 := by rw [← he', Int.zero_mul]
      rcases Int.mul_eq_zero.mp this with h | h
      · exact hc h
      · have := hn'.1; omega
    refine ⟨mul_ok s3 s4' (by decide), mul_ok s4 s3' (by decide), ?_⟩
    have hM : u * t' ≠ 0 := Int.mul_ne_zero (by have := hn.1; omega) ht
    have T : Two [rD t u, y] t u t' u' 501 := ⟨y, rfl, rv, hn, hn', by decide, s1, s2, s1', s2'⟩
    have zF : Sz 1003 ((t * u').fdiv (u * t')) := (fdiv_sz (s1.mul s2')).mono (by decide)
    have zad := (s3.mul s4').mono (show 501 + 501 ≤ 1002 by decide)
    have zbc := (s4.mul s3').mono (show 501 + 501 ≤ 1002 by decide)
    have zcb := (s3'.mul s4).mono (show 501 + 501 ≤ 1002 by decide)
    have zbd := (s4.mul s4').mono (show 501 + 501 ≤ 1002 by decide)
    have k1 : ∀ {Q' : QR} {X' : QX}, Q' (.fz (.int ((t * u').fdiv (u * t')))) → opFdiv dn (rD t u) y Q' X' := fun {Q' X'} hx => by
      rcases rv with rfl | ⟨rfl, rfl⟩
      · simp [rD]; exact ⟨t, u, t', u', 501, T, fun h => absurd h ht, fun _ => hx⟩
      · simp [rD]; exact ⟨t, u, t', 1, 501, T, fun h => absurd h ht, fun _ => hx⟩
    have k2 : ∀ {Q' : QR} {X' : QX}, res (t * u' - t' * ((t * u').fdiv (u * t')) * u) (u * u') 6000 Q' → opMod dn (rD t u) y Q' X' := fun {Q' X'} hx => by
      rcases rv with rfl | ⟨rfl, rfl⟩
      · simp [rD]; exact ⟨t, u, t', u', 501, T, by decide, fun h => absurd h ht, fun _ => hx⟩
      · simp [rD]; exact ⟨t, u, t', 1, 501, T, by decide, fun h => absurd h ht, fun _ => hx⟩
    have k3 : ∀ {Q' : QR} {X' : QX}, res (t * u') (u * t') (2 * 501) Q' → sp_Ratio_over [rD t u, y] Q' X' := fun {Q' X'} hx => ⟨t, u, t', u', 501, T, fun h => absurd h ht, fun _ => hx⟩
    have mad := mul_ok s3 s4' (by decide)
    have mcb := mul_ok s3' s4 (by decide)
    have mbd := mul_ok s4 s4' (by decide)
    have cross := w_cross he he'
    split
    · rename_i hneg
      have hR : 0 < -(b * c) := by omega
      have hE : (t * u') * (-(b * c)) = -(a * d) * (u * t') := by rw [Int.mul_neg, Int.neg_mul, cross]
      have zP := zad.neg
      have zR := zbc.neg
      obtain ⟨f1, f2⟩ := fl_of hM hR hE
      refine k1 ?_
      simp
      refine ⟨_, rfl, rfl, ?_⟩
      simp [isT, show ¬ (-(a * d) < (t * u').fdiv (u * t') * -(b * c)) by omega, show ¬ (((t * u').fdiv (u * t') + 1) * -(b * c) ≤ -(a * d)) by omega]
      refine ⟨mul_ok zF zR (by decide), mul_ok (zF.add (Sz.one (by decide))) zR (by decide), ?_⟩
      refine k2 fun T1 U1 hn1 he1 z1 z2 => ?_
      simp
      refine ⟨mad, mcb, mul_ok zcb zF (by decide), mbd, ?_⟩
      refine use_worth hn1 (w_mod hn.1 hn'.1 he1 he he') (z1.mono (by decide)) (z2.mono (by decide)) (((zad.mono (show 1002 ≤ 2005 by decide)).sub ((zcb.mul zF).mono (show 1002 + 1003 ≤ 2005 by decide))).mono (by decide)) (zbd.mono (by decide)) ?_
      simp
      refine ⟨rfl, k3 fun T2 U2 hn2 he2 z3 z4 => ?_⟩
      exact use_worth hn2 (w_over hM he2 hE) (z3.mono (by decide)) (z4.mono (by decide)) (zP.mono (by decide)) (zR.mono (by decide)) q
    · rename_i hneg
      have hbc : b * c ≠ 0 := Int.mul_ne_zero (by omega) hc
      have hR : 0 < b * c := by omega
      have hE := cross
      have zP := zad
      have zR := zbc
      obtain ⟨f1, f2⟩ := fl_of hM hR hE
      refine k1 ?_
      simp
      refine ⟨_, rfl, rfl, ?_⟩
      simp [isT, show ¬ (a * d < (t * u').fdiv (u * t') * (b * c)) by omega, show ¬ (((t * u').fdiv (u * t') + 1) * (b * c) ≤ a * d) by omega]
      refine ⟨mul_ok zF zR (by decide), mul_ok (zF.add (Sz.one (by decide))) zR (by decide), ?_⟩
      refine k2 fun T1 U1 hn1 he1 z1 z2 => ?_
      simp
      refine ⟨mad, mcb, mul_ok zcb zF (by decide), mbd, ?_⟩
      refine use_worth hn1 (w_mod hn.1 hn'.1 he1 he he') (z1.mono (by decide)) (z2.mono (by decide)) (((zad.mono (show 1002 ≤ 2005 by decide)).sub ((zcb.mul zF).mono (show 1002 + 1003 ≤ 2005 by decide))).mono (by decide)) (zbd.mono (by decide)) ?_
      simp
      refine ⟨rfl, k3 fun T2 U2 hn2 he2 z3 z4 => ?_⟩
      exact use_worth hn2 (w_over hM he2 hE) (z3.mono (by decide)) (z4.mono (by decide)) (zP.mono (by decide)) (zR.mono (by decide)) q
end VL
end
section
set_option linter.all false
set_option maxRecDepth 100000
set_option maxHeartbeats 8000000
namespace VL
open PySem
theorem lt_cross {t u t' u' a b c d : Int} (h1 : 0 < u) (h2 : 0 < u') (hb : 0 < b) (hd : 0 < d) (e1 : t * b = a * u) (e2 : t' * d = c * u') : (a * d < c * b ↔ t * u' < t' * u) ∧ (a * d = c * b ↔ t * u' = t' * u) := by
  have hU : 0 < u * u' := Int.mul_pos h1 h2
  have hB : 0 < b * d := Int.mul_pos hb hd
  have k1 : t * u' * (b * d) = a * d * (u * u') := by grind
  have k2 : t' * u * (b * d) = c * b * (u * u') := by grind
  constructor
  · constructor
    · intro h
      have := Int.mul_lt_mul_of_pos_right h hU
      rw [← k1, ← k2] at this
      exact Int.lt_of_mul_lt_mul_right this (Int.le_of_lt hB)
    · intro h
      have := Int.mul_lt_mul_of_pos_right h hB
      rw [k1, k2] at this
      exact Int.lt_of_mul_lt_mul_right this (Int.le_of_lt hU)
  · constructor
    · intro h
      rw [h] at k1
      exact Int.eq_of_mul_eq_mul_right (by omega) (k1.trans k2.symm)
    · intro h
      rw [h] at k1
      exact Int.eq_of_mul_eq_mul_right (by omega) (k1.symm.trans k2)
theorem use_orders {t u t' u' a b c d l r : Int} {Q : QR} {X : QX} (hn : Nm t u) (hn' : Nm t' u') (s1 : Sz 500 t) (s2 : Sz 500 u) (s3 : Sz 500 t') (s4 : Sz 500 u') (hb : 0 < b) (hd : 0 < d) (e1 : t * b = a * u) (e2 : t' * d = c * u') (el : l = a * d) (er : r = c * b) (q : Q (.fz (.bl true))) : sp__law_orders [rD t u, rD t' u', .int l, .int r] Q X := by
  subst el er
  have k := lt_cross hn.1 hn'.1 hb hd e1 e2
  exact ⟨t, u, t', u', _, _, rfl, hn, hn', s1.mono (by decide), s2.mono (by decide), s3.mono (by decide), s4.mono (by decide), k.1, k.2, q⟩
theorem p60 : powOk 10 60 := by unfold powOk; decide
theorem om {t u t' u' : Int} {Q : QR} {X : QX} (T : Two [rD t u, rD t' u'] t u t' u' 500) (ht : t' ≠ 0) (h : ∀ r, Q r) : opObj dn .mod (rD t u) (rD t' u') Q X := by
  simp [rD]; exact ⟨t, u, t', u', 500, T, by decide, fun h => absurd h ht, fun _ _ _ _ _ _ _ => h _⟩
theorem of {t u t' u' : Int} {Q : QR} {X : QX} (T : Two [rD t u, rD t' u'] t u t' u' 500) (ht : t' ≠ 0) (h : ∀ r, Q r) : opObj dn .fdiv (rD t u) (rD t' u') Q X := by
  simp [rD]; exact ⟨t, u, t', u', 500, T, fun h => absurd h ht, fun _ => h _⟩
theorem p__law_part_c (ds : List D) (Q : QR) (X : QX) (h : sp__law_part_c ds Q X) : runBody t__law_part_c (startD 11 [false] ds) Q X := by
  obtain ⟨ns, rfl, qq⟩ := h
  simp [runBody, t__law_part_c, startD, slotsOf, slotOf]
  refine ⟨ns, rfl, fun a b c d sa hb sb sc hd sd => ?_⟩
  simp
  refine use_init (n := 500) (by omega) (by decide) sa sb fun t u hn he s1 s2 => ?_
  simp
  refine use_init (n := 500) (by omega) (by decide) sc sd fun t' u' hn' he' s1' s2' => ?_
  simp
  have W1 : Wo (rD t u) a b 500 := ⟨t, u, rfl, hn, he, hb, s1, s2, sa, sb⟩
  have W2 : Wo (rD t' u') c d 500 := ⟨t', u', rfl, hn', he', hd, s1', s2', sc, sd⟩
  refine ⟨mul_ok sa sd (by decide), mul_ok sc sb (by decide), ?_⟩
  refine use_orders hn hn' s1 s2 s1' s2' hb hd he he' rfl rfl ?_
  simp
  refine ⟨mul_ok sc sb (by decide), mul_ok sa sd (by decide), ?_⟩
  refine use_orders hn' hn s1' s2' s1 s2 hd hb he' he rfl rfl ?_
  simp
  refine ⟨_, c, 1, rfl, .inr ⟨rfl, rfl⟩, sc.mono (by decide), ?_⟩
  simp
  have one : Sz 500 1 := Sz.one (by decide)
  refine ⟨mul_ok sc sb (by decide), ?_⟩
  refine use_orders hn (Nm.one c) s1 s2 sc one hb (show (0 : Int) < 1 by decide) he (show c * 1 = c * 1 from rfl) (by omega) rfl ?_
  simp
  refine ⟨mul_ok sc sb (by decide), ?_⟩
  refine use_orders (Nm.one c) hn sc one s1 s2 (show (0 : Int) < 1 by decide) hb (show c * 1 = c * 1 from rfl) he rfl (by omega) ?_
  simp
  let F : Option Sl → Option Sl → Fr := fun o p => [some (.fz (.scr ns)), some (.fz (.int a)), some (.fz (.int b)), some (.fz (.int c)), some (.fz (.int d)), some (.fz (rD t u)), some (.fz (rD t' u')), some (.fz (rD c 1)), o, p, none]
  refine ⟨fun i δ' => ∃ o p, δ' = F o p, ⟨none, none, rfl⟩, fun i dd δ' e ⟨o, p, eo⟩ => ?_, fun δ' ⟨o, p, eo⟩ => ?_⟩
  · subst eo
    have ke : ∀ {t u : Int} {Q' : QR} {X' : QX}, Q' (.fz (.bl false)) → sp_Ratio___eq__ [.obj 0 [.int t, .int u], .int c] Q' X' := fun {t u Q' X'} h => ⟨t, u, .int c, rfl, trivial, h⟩
    match i, e with
    | 0, e =>
      simp at e; subst e
      simp [F, rD]
      refine ⟨rfl, ke ?_⟩
      simp
      refine ⟨rfl, ke ?_⟩
      simp [rD]
    | 1, e =>
      simp at e; subst e
      simp [F, rD]
      refine ke ?_
      simp
      refine ke ?_
      simp [rD]
    | 2, e =>
      simp at e; subst e
      simp [F, rD]
      refine ⟨rfl, ke ?_⟩
      simp
      refine ⟨rfl, ke ?_⟩
      simp [rD]
    | 3, e =>
      simp at e; subst e
      simp [F, rD]
      refine ke ?_
      simp
      refine ke ?_
      simp [rD]
    | i + 4, e => simp at e
  subst eo
  simp [F]
  refine ⟨t, u, t, u, a, a, rfl, hn, hn, s1.mono (by decide), s2.mono (by decide), s1.mono (by decide), s2.mono (by decide), by simp, by simp, ?_⟩
  simp [Yes]
  refine use_cell (by decide) fun c1 hc1 => ?_
  simp
  refine use_digits hc1 (by decide) fun n h1 h1' => ?_
  simp
  refine ⟨p60, ?_⟩
  have m0 := fm (a := n) (b := 999999999999999999999999999999999999999999999999999999999991) (by decide)
  refine ⟨_, rfl, m0.1, sz_of m0.1 (by have h := m0.2; omega), ?_⟩
  simp [Yes]
  have Wc : Wi (.int c) c 1 500 := .inr ⟨rfl, rfl, sc⟩
  have Wb : Wi (.int b) b 1 500 := .inr ⟨rfl, rfl, sb⟩
  refine ⟨t, u, a, b, rfl, s1.mono (by decide), s2.mono (by decide), ?_⟩
  simp [Yes]
  refine ⟨t', u', c, d, rfl, s1'.mono (by decide), s2'.mono (by decide), ?_⟩
  simp [Yes]
  refine ⟨_, a, b, rfl, W1, ?_⟩
  simp [Yes]
  refine ⟨_, c, d, rfl, W2, ?_⟩
  simp [Yes]
  refine ⟨_, _, a, b, c, d, rfl, W1, .inl W2, ?_⟩
  simp [Yes]
  refine ⟨_, _, c, d, a, b, rfl, W2, .inl W1, ?_⟩
  simp [Yes]
  refine ⟨_, _, a, b, c, 1, rfl, W1, Wc, ?_⟩
  simp [Yes]
  refine ⟨_, _, a, b, b, 1, rfl, W1, Wb, ?_⟩
  simp [Yes]
  have kb : ∀ {t u : Int} {Q' : QR}, Q' (.fz (.bl (t != 0))) → bBool dn [rD t u] Q' := fun {t u Q'} h => by
    simp [rD, bBool]; exact ⟨t, u, rfl, h⟩
  have ta : ∀ {t u a b : Int}, 0 < u → 0 < b → t * b = a * u → (t != 0) = (a != 0) := fun {t u a b} hu hb e => by
    by_cases h : a = 0
    · subst h
      rw [Int.zero_mul] at e
      rcases Int.mul_eq_zero.mp e with h | h
      · subst h; rfl
      · omega
    · have : t ≠ 0 := fun h0 => by
        subst h0
        rw [Int.zero_mul] at e
        rcases Int.mul_eq_zero.mp e.symm with h1 | h1
        · exact h h1
        · omega
      exact (bne_iff_ne.mpr this).trans (bne_iff_ne.mpr h).symm
  have t1 := ta hn.1 hb he
  have t2 := ta hn'.1 hd he'
  have fin : ∀ {X' : QX}, sp__law_worth [rD t u, .int a, .int b] (fun r => match r.d with | .bl b => if b = true then sp__law_worth [rD t' u', .int c, .int d] Q X else Q (.fz (.bl false)) | _ => False) X := fun {X'} => by
    refine use_worth hn he (s1.mono (by decide)) (s2.mono (by decide)) (sa.mono (by decide)) (sb.mono (by decide)) ?_
    simp
    exact use_worth hn' he' (s1'.mono (by decide)) (s2'.mono (by decide)) (sc.mono (by decide)) (sd.mono (by decide)) qq
  by_cases hc : c = 0
  · by_cases ha : a = 0
    · subst ha hc
      simp
      refine kb ?_
      simp [t1]
      refine kb ?_
      simp [t2]
      exact fin (X' := X)
    · subst hc
      simp [ha]
      refine kb ?_
      simp [t1, ha]
      refine kb ?_
      simp [t2]
      exact fin (X' := X)
  · by_cases ha : a = 0
    · subst ha
      simp [hc]
      refine kb ?_
      simp [t1]
      refine kb ?_
      simp [t2, hc]
      have ht : t' ≠ 0 := fun h => by rw [h] at t2; simp [hc] at t2
      have T : Two [rD t u, rD t' u'] t u t' u' 500 := ⟨_, rfl, .inl rfl, hn, hn', by decide, s1, s2, s1', s2'⟩
      refine om T ht fun _ => ?_
      refine of T ht fun _ => ?_
      exact fin (X' := X)
    · simp [hc, ha]
      refine kb ?_
      simp [t1, ha]
      refine kb ?_
      simp [t2, hc]
      have ht : t' ≠ 0 := fun h => by rw [h] at t2; simp [hc] at t2
      have T : Two [rD t u, rD t' u'] t u t' u' 500 := ⟨_, rfl, .inl rfl, hn, hn', by decide, s1, s2, s1', s2'⟩
      refine om T ht fun _ => ?_
      refine of T ht fun _ => ?_
      exact fin (X' := X)
theorem p_law (ds : List D) (Q : QR) (X : QX) (h : sp_law ds Q X) : runBody t_law (startD 1 [false] ds) Q X := by
  obtain ⟨ns, rfl, q⟩ := h
  simp [runBody, t_law, startD, slotsOf, slotOf]
  refine ⟨ns, rfl, ?_⟩
  simp [Yes]
  refine ⟨ns, rfl, ?_⟩
  simp [Yes]
  exact ⟨ns, rfl, q⟩
end VL
end
section
set_option Elab.async false
set_option linter.all false
set_option maxRecDepth 100000
set_option maxHeartbeats 0
namespace VL
open PySem PySem.Spec PyProof.Rows L2 He
/-! ### the text -/
def top (i : Nat) : Stmt := PySem.Challenge.pw_beatswatched_k00_ratios_told.main.body.getD i (.Pass ⟨0, 0, 0, 0⟩)
abbrev s_Ratio___init__ : Stmt := ((C8.clsBody (top 7)).getD 1 (.Pass ⟨0, 0, 0, 0⟩))
abbrev s_Ratio_whole : Stmt := ((C8.clsBody (top 7)).getD 2 (.Pass ⟨0, 0, 0, 0⟩))
abbrev s_Ratio_floor : Stmt := ((C8.clsBody (top 7)).getD 3 (.Pass ⟨0, 0, 0, 0⟩))
abbrev s_Ratio_ceiling : Stmt := ((C8.clsBody (top 7)).getD 4 (.Pass ⟨0, 0, 0, 0⟩))
abbrev s_Ratio_over : Stmt := ((C8.clsBody (top 7)).getD 5 (.Pass ⟨0, 0, 0, 0⟩))
abbrev s_Ratio___add__ : Stmt := ((C8.clsBody (top 7)).getD 6 (.Pass ⟨0, 0, 0, 0⟩))
abbrev s_Ratio___radd__ : Stmt := ((C8.clsBody (top 7)).getD 7 (.Pass ⟨0, 0, 0, 0⟩))
abbrev s_Ratio___sub__ : Stmt := ((C8.clsBody (top 7)).getD 8 (.Pass ⟨0, 0, 0, 0⟩))
abbrev s_Ratio___rsub__ : Stmt := ((C8.clsBody (top 7)).getD 9 (.Pass ⟨0, 0, 0, 0⟩))
abbrev s_Ratio___mul__ : Stmt := ((C8.clsBody (top 7)).getD 10 (.Pass ⟨0, 0, 0, 0⟩))
abbrev s_Ratio___rmul__ : Stmt := ((C8.clsBody (top 7)).getD 11 (.Pass ⟨0, 0, 0, 0⟩))
abbrev s_Ratio___floordiv__ : Stmt := ((C8.clsBody (top 7)).getD 12 (.Pass ⟨0, 0, 0, 0⟩))
abbrev s_Ratio___mod__ : Stmt := ((C8.clsBody (top 7)).getD 13 (.Pass ⟨0, 0, 0, 0⟩))
abbrev s_Ratio___pow__ : Stmt := ((C8.clsBody (top 7)).getD 14 (.Pass ⟨0, 0, 0, 0⟩))
abbrev s_Ratio___neg__ : Stmt := ((C8.clsBody (top 7)).getD 15 (.Pass ⟨0, 0, 0, 0⟩))
abbrev s_Ratio___abs__ : Stmt := ((C8.clsBody (top 7)).getD 16 (.Pass ⟨0, 0, 0, 0⟩))
abbrev s_Ratio___bool__ : Stmt := ((C8.clsBody (top 7)).getD 17 (.Pass ⟨0, 0, 0, 0⟩))
abbrev s_Ratio___eq__ : Stmt := ((C8.clsBody (top 7)).getD 18 (.Pass ⟨0, 0, 0, 0⟩))
abbrev s_Ratio___lt__ : Stmt := ((C8.clsBody (top 7)).getD 19 (.Pass ⟨0, 0, 0, 0⟩))
abbrev s_Ratio___le__ : Stmt := ((C8.clsBody (top 7)).getD 20 (.Pass ⟨0, 0, 0, 0⟩))
abbrev s_Ratio___gt__ : Stmt := ((C8.clsBody (top 7)).getD 21 (.Pass ⟨0, 0, 0, 0⟩))
abbrev s_Ratio___ge__ : Stmt := ((C8.clsBody (top 7)).getD 22 (.Pass ⟨0, 0, 0, 0⟩))
abbrev s_Ratio___str__ : Stmt := ((C8.clsBody (top 7)).getD 23 (.Pass ⟨0, 0, 0, 0⟩))
abbrev s_as_ratio : Stmt := (top 8)
abbrev s__law_cell : Stmt := (top 10)
abbrev s__law_draws : Stmt := (top 11)
abbrev s__law_gcd : Stmt := (top 12)
abbrev s__law_is_int : Stmt := (top 13)
abbrev s__law_is_ratio : Stmt := (top 14)
abbrev s__law_digits : Stmt := (top 15)
abbrev s__law_numbers : Stmt := (top 16)
abbrev s__law_shows : Stmt := (top 17)
abbrev s__law_refused : Stmt := (top 18)
abbrev s__law_part_a : Stmt := (top 19)
abbrev s__law_worth : Stmt := (top 20)
abbrev s__law_fraction : Stmt := (top 21)
abbrev s__law_power_to_21 : Stmt := (top 22)
abbrev s__law_power_to_43 : Stmt := (top 23)
abbrev s__law_power_to_64 : Stmt := (top 24)
abbrev s__law_power : Stmt := (top 25)
abbrev s__law_sums : Stmt := (top 26)
abbrev s__law_signs : Stmt := (top 27)
abbrev s__law_powers : Stmt := (top 28)
abbrev s__law_part_b : Stmt := (top 29)
abbrev s__law_fraction_c : Stmt := (top 30)
abbrev s__law_two_fractions : Stmt := (top 31)
abbrev s__law_orders : Stmt := (top 32)
abbrev s__law_rounded : Stmt := (top 33)
abbrev s__law_zero_refused : Stmt := (top 34)
abbrev s__law_quotients : Stmt := (top 35)
abbrev s__law_unlike : Stmt := (top 36)
abbrev s__law_near : Stmt := (top 37)
abbrev s__law_part_c : Stmt := (top 38)
abbrev s_law : Stmt := (top 39)
def cs : List (Str × List Str) := [("Ratio", ["top", "under"]), ("WatchError", []), ("ZeroUnder", []), ("BadNumber", ["name", "value"]), ("Refused", [])]
abbrev tab (K : PySem.W.Frag) : Tab := tabOf cs 1 K
theorem lt_ct_WatchError (c : Nat) (b : Bool) (e : ct_WatchError c = some b) : c < 5 := by
  unfold ct_WatchError at e
  split at e <;> first | omega | cases e
theorem lt_ix_ZeroUnder (c : Nat) (b : Bool) (e : ix_ZeroUnder c = some b) : c < 5 := by
  unfold ix_ZeroUnder at e
  split at e <;> first | omega | cases e
theorem lt_ix_ValueError (c : Nat) (b : Bool) (e : ix_ValueError c = some b) : c < 5 := by
  unfold ix_ValueError at e
  split at e <;> first | omega | cases e
theorem lt_ix_BadNumber (c : Nat) (b : Bool) (e : ix_BadNumber c = some b) : c < 5 := by
  unfold ix_BadNumber at e
  split at e <;> first | omega | cases e
theorem lt_ix_Refused (c : Nat) (b : Bool) (e : ix_Refused c = some b) : c < 5 := by
  unfold ix_Refused at e
  split at e <;> first | omega | cases e
theorem fl_under (K : PySem.W.Frag) : ([(0, 1)] : List (Nat × Nat)).all (fun p => ((tab K).flds p.1)[p.2]? == some ("under" : Str)) = true := by simp [tab, tabOf, cs]
theorem fl_top (K : PySem.W.Frag) : ([(0, 0)] : List (Nat × Nat)).all (fun p => ((tab K).flds p.1)[p.2]? == some ("top" : Str)) = true := by simp [tab, tabOf, cs]
theorem fi_Ratio_top (K : PySem.W.Frag) : ((tab K).flds 0)[0]? = some ("top" : Str) := by simp [tab, tabOf, cs]
theorem fi_Ratio_under (K : PySem.W.Frag) : ((tab K).flds 0)[1]? = some ("under" : Str) := by simp [tab, tabOf, cs]
theorem duN {P : Program} {w : World} {K : PySem.W.Frag} {mg : Str → Option Value} {base : Heap} {T : Tab} {r : Nat} : ∀ c m sp, dnN c m = some sp → c < T.n → DnOk P w K mg base T r c m m.ms sp := fun _ _ _ h => by cases h
/-! ### facts -/
structure Sx (K : PySem.W.Frag) (mg : Str → Option Value) : Prop where
  lib : Lib (tab K) K
  r_ZeroUnder : RaiseF (tab K) K 2
  g_ZeroUnder : mg "ZeroUnder" = some (.ref (ga K "ZeroUnder"))
  i_gcd : mg "gcd" = some (.builtin "math.gcd")
  g_as_ratio : mg "as_ratio" = some (.ref (ga K "as_ratio"))
  g_Ratio : mg "Ratio" = some (.ref (ga K "Ratio"))
  c_Ratio_MOST_POWER : ConF (tab K) K "MOST_POWER" (0, .int 64)
  n_range : mg "range" = none
  n_abs : mg "abs" = none
  n_bool : mg "bool" = none
  n_isinstance : mg "isinstance" = none
  n_str : mg "str" = none
  n_len : mg "len" = none
  n_int : mg "int" = none
  g__law_is_int : mg "_law_is_int" = some (.ref (ga K "_law_is_int"))
  g__law_gcd : mg "_law_gcd" = some (.ref (ga K "_law_gcd"))
  g__law_draws : mg "_law_draws" = some (.ref (ga K "_law_draws"))
  g__law_cell : mg "_law_cell" = some (.ref (ga K "_law_cell"))
  g__law_digits : mg "_law_digits" = some (.ref (ga K "_law_digits"))
  g__law_is_ratio : mg "_law_is_ratio" = some (.ref (ga K "_law_is_ratio"))
  p_Ratio_whole : PropOf K (ga K "Ratio") "whole" (ma K (ga K "Ratio") "whole") (pga K (ma K (ga K "Ratio") "whole"))
  x_ZeroUnder : ∀ c b, ix_ZeroUnder c = some b → ExcF (tab K) K c ∧ PySem.W.kitOne K (.ref ((tab K).cls c)) (.ref (ga K "ZeroUnder")) = some b
  n_ValueError : mg "ValueError" = none
  x_ValueError : ∀ c b, ix_ValueError c = some b → ExcF (tab K) K c ∧ PySem.W.kitOne K (.ref ((tab K).cls c)) (.type "ValueError") = some b
  g_BadNumber : mg "BadNumber" = some (.ref (ga K "BadNumber"))
  x_BadNumber : ∀ c b, ix_BadNumber c = some b → ExcF (tab K) K c ∧ PySem.W.kitOne K (.ref ((tab K).cls c)) (.ref (ga K "BadNumber")) = some b
  g_Refused : mg "Refused" = some (.ref (ga K "Refused"))
  x_Refused : ∀ c b, ix_Refused c = some b → ExcF (tab K) K c ∧ PySem.W.kitOne K (.ref ((tab K).cls c)) (.ref (ga K "Refused")) = some b
  e_WatchError : ∀ c b, ct_WatchError c = some b → PySem.W.exmOne K (.ref ((tab K).cls c)) (.ref (ga K "WatchError")) = some b
  g_WatchError : mg "WatchError" = some (.ref (ga K "WatchError"))
  g__law_numbers : mg "_law_numbers" = some (.ref (ga K "_law_numbers"))
  g__law_refused : mg "_law_refused" = some (.ref (ga K "_law_refused"))
  g__law_shows : mg "_law_shows" = some (.ref (ga K "_law_shows"))
  g__law_power_to_21 : mg "_law_power_to_21" = some (.ref (ga K "_law_power_to_21"))
  g__law_power_to_43 : mg "_law_power_to_43" = some (.ref (ga K "_law_power_to_43"))
  g__law_power_to_64 : mg "_law_power_to_64" = some (.ref (ga K "_law_power_to_64"))
  g__law_worth : mg "_law_worth" = some (.ref (ga K "_law_worth"))
  g__law_power : mg "_law_power" = some (.ref (ga K "_law_power"))
  g__law_fraction : mg "_law_fraction" = some (.ref (ga K "_law_fraction"))
  g__law_sums : mg "_law_sums" = some (.ref (ga K "_law_sums"))
  g__law_powers : mg "_law_powers" = some (.ref (ga K "_law_powers"))
  g__law_signs : mg "_law_signs" = some (.ref (ga K "_law_signs"))
  g__law_fraction_c : mg "_law_fraction_c" = some (.ref (ga K "_law_fraction_c"))
  m_Ratio_floor : MethF (tab K) K 0 "floor" (ma K ((tab K).cls 0) "floor")
  m_Ratio_ceiling : MethF (tab K) K 0 "ceiling" (ma K ((tab K).cls 0) "ceiling")
  m_Ratio_over : MethF (tab K) K 0 "over" (ma K ((tab K).cls 0) "over")
  g__law_zero_refused : mg "_law_zero_refused" = some (.ref (ga K "_law_zero_refused"))
  g__law_orders : mg "_law_orders" = some (.ref (ga K "_law_orders"))
  g__law_two_fractions : mg "_law_two_fractions" = some (.ref (ga K "_law_two_fractions"))
  g__law_near : mg "_law_near" = some (.ref (ga K "_law_near"))
  g__law_unlike : mg "_law_unlike" = some (.ref (ga K "_law_unlike"))
  g__law_rounded : mg "_law_rounded" = some (.ref (ga K "_law_rounded"))
  g__law_quotients : mg "_law_quotients" = some (.ref (ga K "_law_quotients"))
  g__law_part_a : mg "_law_part_a" = some (.ref (ga K "_law_part_a"))
  g__law_part_b : mg "_law_part_b" = some (.ref (ga K "_law_part_b"))
  g__law_part_c : mg "_law_part_c" = some (.ref (ga K "_law_part_c"))
/-! ### derivations -/
theorem d_Ratio___init__ {P : Program} {w : World} {K : PySem.W.Frag} {mg : Str → Option Value} {base : Heap} (s : Sx K mg) {r : Nat}   (a : Addr) {f : Addr} {cdv : Value} {A : Around} {outer : List Env} {st : Shared} {H : Hp} {E : XK} (hr : Room (r + 2) (A.deeper (envOfC "Ratio.__init__" (defScope s_Ratio___init__) st.heap.objs.size f cdv))) :
    VSs (cxOf (L2.CX P w) P w K mg base ["self", "top", "under", "factor"] "Ratio.__init__" (defScope s_Ratio___init__) f cdv A outer st H E) (tab K) (fun cls d _ H => E cls d H) (zI a) (defBody s_Ratio___init__) t_Ratio___init__ := by
  have hr0 := hr.mono (Nat.le_add_right r 2)
  have hr1 := hr.mono (show r + 1 ≤ r + 2 by omega)
  have tk : Takes (cxOf (L2.CX P w) P w K mg base ["self", "top", "under", "factor"] "Ratio.__init__" (defScope s_Ratio___init__) f cdv A outer st H E) (fun cls d _ H => E cls d H) := takes_of rfl rfl rfl rfl
  have po : PassesOwn (model P w) (Cx.A (cxOf (L2.CX P w) P w K mg base ["self", "top", "under", "factor"] "Ratio.__init__" (defScope s_Ratio___init__) f cdv A outer st H E)) (Cx.env (cxOf (L2.CX P w) P w K mg base ["self", "top", "under", "factor"] "Ratio.__init__" (defScope s_Ratio___init__) f cdv A outer st H E)) (Cx.xe (cxOf (L2.CX P w) P w K mg base ["self", "top", "under", "factor"] "Ratio.__init__" (defScope s_Ratio___init__) f cdv A outer st H E)) := passes_of (X := (cxOf (L2.CX P w) P w K mg base ["self", "top", "under", "factor"] "Ratio.__init__" (defScope s_Ratio___init__) f cdv A outer st H E)) rfl
  have nd : (["self", "top", "under", "factor"] : List Str).Nodup := by decide
  exact (vss_cons (vs_if (vt_cmp (opv_eq ⟨s.lib, tk, hr, duN⟩) (ve_var (i := 2)) ve_int (nomark _)) (vss_one (vs_raise (c := 2) s.r_ZeroUnder rfl tk rfl s.g_ZeroUnder)) vss_nil)
    (vss_cons (vs_set nd (i := 3) (ve_bltG cv_gcd rfl s.i_gcd (vab_cons (vl_var (i := 1)) (vab_cons (vl_var (i := 2)) vab_nil))))
    (vss_cons (vs_if (vt_cmp (opv_lt ⟨s.lib, tk, hr, duN⟩) (ve_var (i := 2)) ve_int (nomark _)) (vss_one (vs_set nd (i := 3) (ve_un (opu_neg ⟨s.lib, tk, hr, duN⟩) (ve_var (i := 3))))) vss_nil)
    (vss_cons (vs_fldI (i := 0) (c := 0) (n := 0) s.lib (ve_bin (opv_fdiv ⟨s.lib, tk, hr, duN⟩) (ve_var (i := 1)) (ve_var (i := 3))) (fi_Ratio_top K))
    (vss_one (vs_fldI (i := 0) (c := 0) (n := 1) s.lib (ve_bin (opv_fdiv ⟨s.lib, tk, hr, duN⟩) (ve_var (i := 2)) (ve_var (i := 3))) (fi_Ratio_under K)))))))
theorem d_Ratio_whole {P : Program} {w : World} {K : PySem.W.Frag} {mg : Str → Option Value} {base : Heap} (s : Sx K mg) {r : Nat}   {f : Addr} {cdv : Value} {A : Around} {outer : List Env} {st : Shared} {H : Hp} {E : XK} (hr : Room (r + 2) (A.deeper (envOfC "Ratio.whole" (defScope s_Ratio_whole) st.heap.objs.size f cdv))) :
    VSs (cxOf (L2.CX P w) P w K mg base ["self"] "Ratio.whole" (defScope s_Ratio_whole) f cdv A outer st H E) (tab K) (fun cls d _ H => E cls d H) z0 (defBody s_Ratio_whole) t_Ratio_whole := by
  have hr0 := hr.mono (Nat.le_add_right r 2)
  have hr1 := hr.mono (show r + 1 ≤ r + 2 by omega)
  have tk : Takes (cxOf (L2.CX P w) P w K mg base ["self"] "Ratio.whole" (defScope s_Ratio_whole) f cdv A outer st H E) (fun cls d _ H => E cls d H) := takes_of rfl rfl rfl rfl
  have po : PassesOwn (model P w) (Cx.A (cxOf (L2.CX P w) P w K mg base ["self"] "Ratio.whole" (defScope s_Ratio_whole) f cdv A outer st H E)) (Cx.env (cxOf (L2.CX P w) P w K mg base ["self"] "Ratio.whole" (defScope s_Ratio_whole) f cdv A outer st H E)) (Cx.xe (cxOf (L2.CX P w) P w K mg base ["self"] "Ratio.whole" (defScope s_Ratio_whole) f cdv A outer st H E)) := passes_of (X := (cxOf (L2.CX P w) P w K mg base ["self"] "Ratio.whole" (defScope s_Ratio_whole) f cdv A outer st H E)) rfl
  have nd : (["self"] : List Str).Nodup := by decide
  exact (vss_one (vs_ret (ve_cmp (opv_eq ⟨s.lib, tk, hr, duN⟩) (ve_fld s.lib (vb_var (i := 0)) (fl_under K)) ve_int (nomark _))))
theorem d_Ratio_floor {P : Program} {w : World} {K : PySem.W.Frag} {mg : Str → Option Value} {base : Heap} (s : Sx K mg) {r : Nat}   {f : Addr} {cdv : Value} {A : Around} {outer : List Env} {st : Shared} {H : Hp} {E : XK} (hr : Room (r + 2) (A.deeper (envOfC "Ratio.floor" (defScope s_Ratio_floor) st.heap.objs.size f cdv))) :
    VSs (cxOf (L2.CX P w) P w K mg base ["self"] "Ratio.floor" (defScope s_Ratio_floor) f cdv A outer st H E) (tab K) (fun cls d _ H => E cls d H) z0 (defBody s_Ratio_floor) t_Ratio_floor := by
  have hr0 := hr.mono (Nat.le_add_right r 2)
  have hr1 := hr.mono (show r + 1 ≤ r + 2 by omega)
  have tk : Takes (cxOf (L2.CX P w) P w K mg base ["self"] "Ratio.floor" (defScope s_Ratio_floor) f cdv A outer st H E) (fun cls d _ H => E cls d H) := takes_of rfl rfl rfl rfl
  have po : PassesOwn (model P w) (Cx.A (cxOf (L2.CX P w) P w K mg base ["self"] "Ratio.floor" (defScope s_Ratio_floor) f cdv A outer st H E)) (Cx.env (cxOf (L2.CX P w) P w K mg base ["self"] "Ratio.floor" (defScope s_Ratio_floor) f cdv A outer st H E)) (Cx.xe (cxOf (L2.CX P w) P w K mg base ["self"] "Ratio.floor" (defScope s_Ratio_floor) f cdv A outer st H E)) := passes_of (X := (cxOf (L2.CX P w) P w K mg base ["self"] "Ratio.floor" (defScope s_Ratio_floor) f cdv A outer st H E)) rfl
  have nd : (["self"] : List Str).Nodup := by decide
  exact (vss_one (vs_ret (ve_bin (opv_fdiv ⟨s.lib, tk, hr, duN⟩) (ve_fld s.lib (vb_var (i := 0)) (fl_top K)) (ve_fld s.lib (vb_var (i := 0)) (fl_under K)))))
theorem d_Ratio_ceiling {P : Program} {w : World} {K : PySem.W.Frag} {mg : Str → Option Value} {base : Heap} (s : Sx K mg) {r : Nat}   {f : Addr} {cdv : Value} {A : Around} {outer : List Env} {st : Shared} {H : Hp} {E : XK} (hr : Room (r + 2) (A.deeper (envOfC "Ratio.ceiling" (defScope s_Ratio_ceiling) st.heap.objs.size f cdv))) :
    VSs (cxOf (L2.CX P w) P w K mg base ["self"] "Ratio.ceiling" (defScope s_Ratio_ceiling) f cdv A outer st H E) (tab K) (fun cls d _ H => E cls d H) z0 (defBody s_Ratio_ceiling) t_Ratio_ceiling := by
  have hr0 := hr.mono (Nat.le_add_right r 2)
  have hr1 := hr.mono (show r + 1 ≤ r + 2 by omega)
  have tk : Takes (cxOf (L2.CX P w) P w K mg base ["self"] "Ratio.ceiling" (defScope s_Ratio_ceiling) f cdv A outer st H E) (fun cls d _ H => E cls d H) := takes_of rfl rfl rfl rfl
  have po : PassesOwn (model P w) (Cx.A (cxOf (L2.CX P w) P w K mg base ["self"] "Ratio.ceiling" (defScope s_Ratio_ceiling) f cdv A outer st H E)) (Cx.env (cxOf (L2.CX P w) P w K mg base ["self"] "Ratio.ceiling" (defScope s_Ratio_ceiling) f cdv A outer st H E)) (Cx.xe (cxOf (L2.CX P w) P w K mg base ["self"] "Ratio.ceiling" (defScope s_Ratio_ceiling) f cdv A outer st H E)) := passes_of (X := (cxOf (L2.CX P w) P w K mg base ["self"] "Ratio.ceiling" (defScope s_Ratio_ceiling) f cdv A outer st H E)) rfl
  have nd : (["self"] : List Str).Nodup := by decide
  exact (vss_one (vs_ret (ve_un (opu_neg ⟨s.lib, tk, hr, duN⟩) (ve_bin (opv_fdiv ⟨s.lib, tk, hr, duN⟩) (ve_un (opu_neg ⟨s.lib, tk, hr, duN⟩) (ve_fld s.lib (vb_var (i := 0)) (fl_top K))) (ve_fld s.lib (vb_var (i := 0)) (fl_under K))))))
theorem d_Ratio_over {P : Program} {w : World} {K : PySem.W.Frag} {mg : Str → Option Value} {base : Heap} (s : Sx K mg) {r : Nat} (C_as_ratio_1 : FnV P w K mg base (tab K) r (ga K "as_ratio") [false] [] sp_as_ratio) (M_Ratio_2 : MkV P w K mg base (tab K) r 0 [false, false] [] sp_Ratio___init__)  {f : Addr} {cdv : Value} {A : Around} {outer : List Env} {st : Shared} {H : Hp} {E : XK} (hr : Room (r + 2) (A.deeper (envOfC "Ratio.over" (defScope s_Ratio_over) st.heap.objs.size f cdv))) :
    VSs (cxOf (L2.CX P w) P w K mg base ["self", "number", "right"] "Ratio.over" (defScope s_Ratio_over) f cdv A outer st H E) (tab K) (fun cls d _ H => E cls d H) z0 (defBody s_Ratio_over) t_Ratio_over := by
  have hr0 := hr.mono (Nat.le_add_right r 2)
  have hr1 := hr.mono (show r + 1 ≤ r + 2 by omega)
  have tk : Takes (cxOf (L2.CX P w) P w K mg base ["self", "number", "right"] "Ratio.over" (defScope s_Ratio_over) f cdv A outer st H E) (fun cls d _ H => E cls d H) := takes_of rfl rfl rfl rfl
  have po : PassesOwn (model P w) (Cx.A (cxOf (L2.CX P w) P w K mg base ["self", "number", "right"] "Ratio.over" (defScope s_Ratio_over) f cdv A outer st H E)) (Cx.env (cxOf (L2.CX P w) P w K mg base ["self", "number", "right"] "Ratio.over" (defScope s_Ratio_over) f cdv A outer st H E)) (Cx.xe (cxOf (L2.CX P w) P w K mg base ["self", "number", "right"] "Ratio.over" (defScope s_Ratio_over) f cdv A outer st H E)) := passes_of (X := (cxOf (L2.CX P w) P w K mg base ["self", "number", "right"] "Ratio.over" (defScope s_Ratio_over) f cdv A outer st H E)) rfl
  have nd : (["self", "number", "right"] : List Str).Nodup := by decide
  exact (vss_cons (vs_set nd (i := 2) (ve_call C_as_ratio_1 hr0 tk rfl s.g_as_ratio (va_cons (ve_var (i := 1)) va_nil)))
    (vss_cons (vs_if (vt_cmp (opv_eq ⟨s.lib, tk, hr, duN⟩) (ve_fld s.lib (vb_var (i := 2)) (fl_top K)) ve_int (nomark _)) (vss_one (vs_raise (c := 2) s.r_ZeroUnder rfl tk rfl s.g_ZeroUnder)) vss_nil)
    (vss_one (vs_ret (ve_make M_Ratio_2 hr1 tk rfl s.g_Ratio (va_cons (ve_bin (opv_mul ⟨s.lib, tk, hr, duN⟩) (ve_fld s.lib (vb_var (i := 0)) (fl_top K)) (ve_fld s.lib (vb_var (i := 2)) (fl_under K))) (va_cons (ve_bin (opv_mul ⟨s.lib, tk, hr, duN⟩) (ve_fld s.lib (vb_var (i := 0)) (fl_under K)) (ve_fld s.lib (vb_var (i := 2)) (fl_top K))) va_nil)))))))
theorem d_Ratio___add__ {P : Program} {w : World} {K : PySem.W.Frag} {mg : Str → Option Value} {base : Heap} (s : Sx K mg) {r : Nat} (C_as_ratio_1 : FnV P w K mg base (tab K) r (ga K "as_ratio") [false] [] sp_as_ratio) (M_Ratio_2 : MkV P w K mg base (tab K) r 0 [false, false] [] sp_Ratio___init__)  {f : Addr} {cdv : Value} {A : Around} {outer : List Env} {st : Shared} {H : Hp} {E : XK} (hr : Room (r + 2) (A.deeper (envOfC "Ratio.__add__" (defScope s_Ratio___add__) st.heap.objs.size f cdv))) :
    VSs (cxOf (L2.CX P w) P w K mg base ["self", "other", "right"] "Ratio.__add__" (defScope s_Ratio___add__) f cdv A outer st H E) (tab K) (fun cls d _ H => E cls d H) z0 (defBody s_Ratio___add__) t_Ratio___add__ := by
  have hr0 := hr.mono (Nat.le_add_right r 2)
  have hr1 := hr.mono (show r + 1 ≤ r + 2 by omega)
  have tk : Takes (cxOf (L2.CX P w) P w K mg base ["self", "other", "right"] "Ratio.__add__" (defScope s_Ratio___add__) f cdv A outer st H E) (fun cls d _ H => E cls d H) := takes_of rfl rfl rfl rfl
  have po : PassesOwn (model P w) (Cx.A (cxOf (L2.CX P w) P w K mg base ["self", "other", "right"] "Ratio.__add__" (defScope s_Ratio___add__) f cdv A outer st H E)) (Cx.env (cxOf (L2.CX P w) P w K mg base ["self", "other", "right"] "Ratio.__add__" (defScope s_Ratio___add__) f cdv A outer st H E)) (Cx.xe (cxOf (L2.CX P w) P w K mg base ["self", "other", "right"] "Ratio.__add__" (defScope s_Ratio___add__) f cdv A outer st H E)) := passes_of (X := (cxOf (L2.CX P w) P w K mg base ["self", "other", "right"] "Ratio.__add__" (defScope s_Ratio___add__) f cdv A outer st H E)) rfl
  have nd : (["self", "other", "right"] : List Str).Nodup := by decide
  exact (vss_cons (vs_set nd (i := 2) (ve_call C_as_ratio_1 hr0 tk rfl s.g_as_ratio (va_cons (ve_var (i := 1)) va_nil)))
    (vss_one (vs_ret (ve_make M_Ratio_2 hr1 tk rfl s.g_Ratio (va_cons (ve_bin (opv_add ⟨s.lib, tk, hr, duN⟩) (ve_bin (opv_mul ⟨s.lib, tk, hr, duN⟩) (ve_fld s.lib (vb_var (i := 0)) (fl_top K)) (ve_fld s.lib (vb_var (i := 2)) (fl_under K))) (ve_bin (opv_mul ⟨s.lib, tk, hr, duN⟩) (ve_fld s.lib (vb_var (i := 2)) (fl_top K)) (ve_fld s.lib (vb_var (i := 0)) (fl_under K)))) (va_cons (ve_bin (opv_mul ⟨s.lib, tk, hr, duN⟩) (ve_fld s.lib (vb_var (i := 0)) (fl_under K)) (ve_fld s.lib (vb_var (i := 2)) (fl_under K))) va_nil))))))
theorem d_Ratio___radd__ {P : Program} {w : World} {K : PySem.W.Frag} {mg : Str → Option Value} {base : Heap} (s : Sx K mg) {r : Nat}  (du : ∀ c m sp, dn1 c m = some sp → c < (tab K).n → DnOk P w K mg base (tab K) r c m m.ms sp) {f : Addr} {cdv : Value} {A : Around} {outer : List Env} {st : Shared} {H : Hp} {E : XK} (hr : Room (r + 2) (A.deeper (envOfC "Ratio.__radd__" (defScope s_Ratio___radd__) st.heap.objs.size f cdv))) :
    VSs (cxOf (L2.CX P w) P w K mg base ["self", "other"] "Ratio.__radd__" (defScope s_Ratio___radd__) f cdv A outer st H E) (tab K) (fun cls d _ H => E cls d H) z0 (defBody s_Ratio___radd__) t_Ratio___radd__ := by
  have hr0 := hr.mono (Nat.le_add_right r 2)
  have hr1 := hr.mono (show r + 1 ≤ r + 2 by omega)
  have tk : Takes (cxOf (L2.CX P w) P w K mg base ["self", "other"] "Ratio.__radd__" (defScope s_Ratio___radd__) f cdv A outer st H E) (fun cls d _ H => E cls d H) := takes_of rfl rfl rfl rfl
  have po : PassesOwn (model P w) (Cx.A (cxOf (L2.CX P w) P w K mg base ["self", "other"] "Ratio.__radd__" (defScope s_Ratio___radd__) f cdv A outer st H E)) (Cx.env (cxOf (L2.CX P w) P w K mg base ["self", "other"] "Ratio.__radd__" (defScope s_Ratio___radd__) f cdv A outer st H E)) (Cx.xe (cxOf (L2.CX P w) P w K mg base ["self", "other"] "Ratio.__radd__" (defScope s_Ratio___radd__) f cdv A outer st H E)) := passes_of (X := (cxOf (L2.CX P w) P w K mg base ["self", "other"] "Ratio.__radd__" (defScope s_Ratio___radd__) f cdv A outer st H E)) rfl
  have nd : (["self", "other"] : List Str).Nodup := by decide
  exact (vss_one (vs_ret (ve_bin (opv_add ⟨s.lib, tk, hr, du⟩) (ve_var (i := 0)) (ve_var (i := 1)))))
theorem d_Ratio___sub__ {P : Program} {w : World} {K : PySem.W.Frag} {mg : Str → Option Value} {base : Heap} (s : Sx K mg) {r : Nat} (C_as_ratio_1 : FnV P w K mg base (tab K) r (ga K "as_ratio") [false] [] sp_as_ratio) (M_Ratio_2 : MkV P w K mg base (tab K) r 0 [false, false] [] sp_Ratio___init__)  {f : Addr} {cdv : Value} {A : Around} {outer : List Env} {st : Shared} {H : Hp} {E : XK} (hr : Room (r + 2) (A.deeper (envOfC "Ratio.__sub__" (defScope s_Ratio___sub__) st.heap.objs.size f cdv))) :
    VSs (cxOf (L2.CX P w) P w K mg base ["self", "other", "right"] "Ratio.__sub__" (defScope s_Ratio___sub__) f cdv A outer st H E) (tab K) (fun cls d _ H => E cls d H) z0 (defBody s_Ratio___sub__) t_Ratio___sub__ := by
  have hr0 := hr.mono (Nat.le_add_right r 2)
  have hr1 := hr.mono (show r + 1 ≤ r + 2 by omega)
  have tk : Takes (cxOf (L2.CX P w) P w K mg base ["self", "other", "right"] "Ratio.__sub__" (defScope s_Ratio___sub__) f cdv A outer st H E) (fun cls d _ H => E cls d H) := takes_of rfl rfl rfl rfl
  have po : PassesOwn (model P w) (Cx.A (cxOf (L2.CX P w) P w K mg base ["self", "other", "right"] "Ratio.__sub__" (defScope s_Ratio___sub__) f cdv A outer st H E)) (Cx.env (cxOf (L2.CX P w) P w K mg base ["self", "other", "right"] "Ratio.__sub__" (defScope s_Ratio___sub__) f cdv A outer st H E)) (Cx.xe (cxOf (L2.CX P w) P w K mg base ["self", "other", "right"] "Ratio.__sub__" (defScope s_Ratio___sub__) f cdv A outer st H E)) := passes_of (X := (cxOf (L2.CX P w) P w K mg base ["self", "other", "right"] "Ratio.__sub__" (defScope s_Ratio___sub__) f cdv A outer st H E)) rfl
  have nd : (["self", "other", "right"] : List Str).Nodup := by decide
  exact (vss_cons (vs_set nd (i := 2) (ve_call C_as_ratio_1 hr0 tk rfl s.g_as_ratio (va_cons (ve_var (i := 1)) va_nil)))
    (vss_one (vs_ret (ve_make M_Ratio_2 hr1 tk rfl s.g_Ratio (va_cons (ve_bin (opv_sub ⟨s.lib, tk, hr, duN⟩) (ve_bin (opv_mul ⟨s.lib, tk, hr, duN⟩) (ve_fld s.lib (vb_var (i := 0)) (fl_top K)) (ve_fld s.lib (vb_var (i := 2)) (fl_under K))) (ve_bin (opv_mul ⟨s.lib, tk, hr, duN⟩) (ve_fld s.lib (vb_var (i := 2)) (fl_top K)) (ve_fld s.lib (vb_var (i := 0)) (fl_under K)))) (va_cons (ve_bin (opv_mul ⟨s.lib, tk, hr, duN⟩) (ve_fld s.lib (vb_var (i := 0)) (fl_under K)) (ve_fld s.lib (vb_var (i := 2)) (fl_under K))) va_nil))))))
theorem d_Ratio___rsub__ {P : Program} {w : World} {K : PySem.W.Frag} {mg : Str → Option Value} {base : Heap} (s : Sx K mg) {r : Nat}  (du : ∀ c m sp, dn1 c m = some sp → c < (tab K).n → DnOk P w K mg base (tab K) r c m m.ms sp) {f : Addr} {cdv : Value} {A : Around} {outer : List Env} {st : Shared} {H : Hp} {E : XK} (hr : Room (r + 2) (A.deeper (envOfC "Ratio.__rsub__" (defScope s_Ratio___rsub__) st.heap.objs.size f cdv))) :
    VSs (cxOf (L2.CX P w) P w K mg base ["self", "other"] "Ratio.__rsub__" (defScope s_Ratio___rsub__) f cdv A outer st H E) (tab K) (fun cls d _ H => E cls d H) z0 (defBody s_Ratio___rsub__) t_Ratio___rsub__ := by
  have hr0 := hr.mono (Nat.le_add_right r 2)
  have hr1 := hr.mono (show r + 1 ≤ r + 2 by omega)
  have tk : Takes (cxOf (L2.CX P w) P w K mg base ["self", "other"] "Ratio.__rsub__" (defScope s_Ratio___rsub__) f cdv A outer st H E) (fun cls d _ H => E cls d H) := takes_of rfl rfl rfl rfl
  have po : PassesOwn (model P w) (Cx.A (cxOf (L2.CX P w) P w K mg base ["self", "other"] "Ratio.__rsub__" (defScope s_Ratio___rsub__) f cdv A outer st H E)) (Cx.env (cxOf (L2.CX P w) P w K mg base ["self", "other"] "Ratio.__rsub__" (defScope s_Ratio___rsub__) f cdv A outer st H E)) (Cx.xe (cxOf (L2.CX P w) P w K mg base ["self", "other"] "Ratio.__rsub__" (defScope s_Ratio___rsub__) f cdv A outer st H E)) := passes_of (X := (cxOf (L2.CX P w) P w K mg base ["self", "other"] "Ratio.__rsub__" (defScope s_Ratio___rsub__) f cdv A outer st H E)) rfl
  have nd : (["self", "other"] : List Str).Nodup := by decide
  exact (vss_one (vs_ret (ve_bin (opv_add ⟨s.lib, tk, hr, du⟩) (ve_un (opu_neg ⟨s.lib, tk, hr, du⟩) (ve_var (i := 0))) (ve_var (i := 1)))))
theorem d_Ratio___mul__ {P : Program} {w : World} {K : PySem.W.Frag} {mg : Str → Option Value} {base : Heap} (s : Sx K mg) {r : Nat} (C_as_ratio_1 : FnV P w K mg base (tab K) r (ga K "as_ratio") [false] [] sp_as_ratio) (M_Ratio_2 : MkV P w K mg base (tab K) r 0 [false, false] [] sp_Ratio___init__)  {f : Addr} {cdv : Value} {A : Around} {outer : List Env} {st : Shared} {H : Hp} {E : XK} (hr : Room (r + 2) (A.deeper (envOfC "Ratio.__mul__" (defScope s_Ratio___mul__) st.heap.objs.size f cdv))) :
    VSs (cxOf (L2.CX P w) P w K mg base ["self", "other", "right"] "Ratio.__mul__" (defScope s_Ratio___mul__) f cdv A outer st H E) (tab K) (fun cls d _ H => E cls d H) z0 (defBody s_Ratio___mul__) t_Ratio___mul__ := by
  have hr0 := hr.mono (Nat.le_add_right r 2)
  have hr1 := hr.mono (show r + 1 ≤ r + 2 by omega)
  have tk : Takes (cxOf (L2.CX P w) P w K mg base ["self", "other", "right"] "Ratio.__mul__" (defScope s_Ratio___mul__) f cdv A outer st H E) (fun cls d _ H => E cls d H) := takes_of rfl rfl rfl rfl
  have po : PassesOwn (model P w) (Cx.A (cxOf (L2.CX P w) P w K mg base ["self", "other", "right"] "Ratio.__mul__" (defScope s_Ratio___mul__) f cdv A outer st H E)) (Cx.env (cxOf (L2.CX P w) P w K mg base ["self", "other", "right"] "Ratio.__mul__" (defScope s_Ratio___mul__) f cdv A outer st H E)) (Cx.xe (cxOf (L2.CX P w) P w K mg base ["self", "other", "right"] "Ratio.__mul__" (defScope s_Ratio___mul__) f cdv A outer st H E)) := passes_of (X := (cxOf (L2.CX P w) P w K mg base ["self", "other", "right"] "Ratio.__mul__" (defScope s_Ratio___mul__) f cdv A outer st H E)) rfl
  have nd : (["self", "other", "right"] : List Str).Nodup := by decide
  exact (vss_cons (vs_set nd (i := 2) (ve_call C_as_ratio_1 hr0 tk rfl s.g_as_ratio (va_cons (ve_var (i := 1)) va_nil)))
    (vss_one (vs_ret (ve_make M_Ratio_2 hr1 tk rfl s.g_Ratio (va_cons (ve_bin (opv_mul ⟨s.lib, tk, hr, duN⟩) (ve_fld s.lib (vb_var (i := 0)) (fl_top K)) (ve_fld s.lib (vb_var (i := 2)) (fl_top K))) (va_cons (ve_bin (opv_mul ⟨s.lib, tk, hr, duN⟩) (ve_fld s.lib (vb_var (i := 0)) (fl_under K)) (ve_fld s.lib (vb_var (i := 2)) (fl_under K))) va_nil))))))
theorem d_Ratio___rmul__ {P : Program} {w : World} {K : PySem.W.Frag} {mg : Str → Option Value} {base : Heap} (s : Sx K mg) {r : Nat}  (du : ∀ c m sp, dn1 c m = some sp → c < (tab K).n → DnOk P w K mg base (tab K) r c m m.ms sp) {f : Addr} {cdv : Value} {A : Around} {outer : List Env} {st : Shared} {H : Hp} {E : XK} (hr : Room (r + 2) (A.deeper (envOfC "Ratio.__rmul__" (defScope s_Ratio___rmul__) st.heap.objs.size f cdv))) :
    VSs (cxOf (L2.CX P w) P w K mg base ["self", "other"] "Ratio.__rmul__" (defScope s_Ratio___rmul__) f cdv A outer st H E) (tab K) (fun cls d _ H => E cls d H) z0 (defBody s_Ratio___rmul__) t_Ratio___rmul__ := by
  have hr0 := hr.mono (Nat.le_add_right r 2)
  have hr1 := hr.mono (show r + 1 ≤ r + 2 by omega)
  have tk : Takes (cxOf (L2.CX P w) P w K mg base ["self", "other"] "Ratio.__rmul__" (defScope s_Ratio___rmul__) f cdv A outer st H E) (fun cls d _ H => E cls d H) := takes_of rfl rfl rfl rfl
  have po : PassesOwn (model P w) (Cx.A (cxOf (L2.CX P w) P w K mg base ["self", "other"] "Ratio.__rmul__" (defScope s_Ratio___rmul__) f cdv A outer st H E)) (Cx.env (cxOf (L2.CX P w) P w K mg base ["self", "other"] "Ratio.__rmul__" (defScope s_Ratio___rmul__) f cdv A outer st H E)) (Cx.xe (cxOf (L2.CX P w) P w K mg base ["self", "other"] "Ratio.__rmul__" (defScope s_Ratio___rmul__) f cdv A outer st H E)) := passes_of (X := (cxOf (L2.CX P w) P w K mg base ["self", "other"] "Ratio.__rmul__" (defScope s_Ratio___rmul__) f cdv A outer st H E)) rfl
  have nd : (["self", "other"] : List Str).Nodup := by decide
  exact (vss_one (vs_ret (ve_bin (opv_mul ⟨s.lib, tk, hr, du⟩) (ve_var (i := 0)) (ve_var (i := 1)))))
theorem d_Ratio___floordiv__ {P : Program} {w : World} {K : PySem.W.Frag} {mg : Str → Option Value} {base : Heap} (s : Sx K mg) {r : Nat} (C_as_ratio_1 : FnV P w K mg base (tab K) r (ga K "as_ratio") [false] [] sp_as_ratio)  {f : Addr} {cdv : Value} {A : Around} {outer : List Env} {st : Shared} {H : Hp} {E : XK} (hr : Room (r + 2) (A.deeper (envOfC "Ratio.__floordiv__" (defScope s_Ratio___floordiv__) st.heap.objs.size f cdv))) :
    VSs (cxOf (L2.CX P w) P w K mg base ["self", "other", "right"] "Ratio.__floordiv__" (defScope s_Ratio___floordiv__) f cdv A outer st H E) (tab K) (fun cls d _ H => E cls d H) z0 (defBody s_Ratio___floordiv__) t_Ratio___floordiv__ := by
  have hr0 := hr.mono (Nat.le_add_right r 2)
  have hr1 := hr.mono (show r + 1 ≤ r + 2 by omega)
  have tk : Takes (cxOf (L2.CX P w) P w K mg base ["self", "other", "right"] "Ratio.__floordiv__" (defScope s_Ratio___floordiv__) f cdv A outer st H E) (fun cls d _ H => E cls d H) := takes_of rfl rfl rfl rfl
  have po : PassesOwn (model P w) (Cx.A (cxOf (L2.CX P w) P w K mg base ["self", "other", "right"] "Ratio.__floordiv__" (defScope s_Ratio___floordiv__) f cdv A outer st H E)) (Cx.env (cxOf (L2.CX P w) P w K mg base ["self", "other", "right"] "Ratio.__floordiv__" (defScope s_Ratio___floordiv__) f cdv A outer st H E)) (Cx.xe (cxOf (L2.CX P w) P w K mg base ["self", "other", "right"] "Ratio.__floordiv__" (defScope s_Ratio___floordiv__) f cdv A outer st H E)) := passes_of (X := (cxOf (L2.CX P w) P w K mg base ["self", "other", "right"] "Ratio.__floordiv__" (defScope s_Ratio___floordiv__) f cdv A outer st H E)) rfl
  have nd : (["self", "other", "right"] : List Str).Nodup := by decide
  exact (vss_cons (vs_set nd (i := 2) (ve_call C_as_ratio_1 hr0 tk rfl s.g_as_ratio (va_cons (ve_var (i := 1)) va_nil)))
    (vss_cons (vs_if (vt_cmp (opv_eq ⟨s.lib, tk, hr, duN⟩) (ve_fld s.lib (vb_var (i := 2)) (fl_top K)) ve_int (nomark _)) (vss_one (vs_raise (c := 2) s.r_ZeroUnder rfl tk rfl s.g_ZeroUnder)) vss_nil)
    (vss_one (vs_ret (ve_bin (opv_fdiv ⟨s.lib, tk, hr, duN⟩) (ve_bin (opv_mul ⟨s.lib, tk, hr, duN⟩) (ve_fld s.lib (vb_var (i := 0)) (fl_top K)) (ve_fld s.lib (vb_var (i := 2)) (fl_under K))) (ve_bin (opv_mul ⟨s.lib, tk, hr, duN⟩) (ve_fld s.lib (vb_var (i := 0)) (fl_under K)) (ve_fld s.lib (vb_var (i := 2)) (fl_top K))))))))
theorem d_Ratio___mod__ {P : Program} {w : World} {K : PySem.W.Frag} {mg : Str → Option Value} {base : Heap} (s : Sx K mg) {r : Nat} (C_as_ratio_1 : FnV P w K mg base (tab K) r (ga K "as_ratio") [false] [] sp_as_ratio) (du : ∀ c m sp, dn1 c m = some sp → c < (tab K).n → DnOk P w K mg base (tab K) r c m m.ms sp) {f : Addr} {cdv : Value} {A : Around} {outer : List Env} {st : Shared} {H : Hp} {E : XK} (hr : Room (r + 2) (A.deeper (envOfC "Ratio.__mod__" (defScope s_Ratio___mod__) st.heap.objs.size f cdv))) :
    VSs (cxOf (L2.CX P w) P w K mg base ["self", "other", "right"] "Ratio.__mod__" (defScope s_Ratio___mod__) f cdv A outer st H E) (tab K) (fun cls d _ H => E cls d H) z0 (defBody s_Ratio___mod__) t_Ratio___mod__ := by
  have hr0 := hr.mono (Nat.le_add_right r 2)
  have hr1 := hr.mono (show r + 1 ≤ r + 2 by omega)
  have tk : Takes (cxOf (L2.CX P w) P w K mg base ["self", "other", "right"] "Ratio.__mod__" (defScope s_Ratio___mod__) f cdv A outer st H E) (fun cls d _ H => E cls d H) := takes_of rfl rfl rfl rfl
  have po : PassesOwn (model P w) (Cx.A (cxOf (L2.CX P w) P w K mg base ["self", "other", "right"] "Ratio.__mod__" (defScope s_Ratio___mod__) f cdv A outer st H E)) (Cx.env (cxOf (L2.CX P w) P w K mg base ["self", "other", "right"] "Ratio.__mod__" (defScope s_Ratio___mod__) f cdv A outer st H E)) (Cx.xe (cxOf (L2.CX P w) P w K mg base ["self", "other", "right"] "Ratio.__mod__" (defScope s_Ratio___mod__) f cdv A outer st H E)) := passes_of (X := (cxOf (L2.CX P w) P w K mg base ["self", "other", "right"] "Ratio.__mod__" (defScope s_Ratio___mod__) f cdv A outer st H E)) rfl
  have nd : (["self", "other", "right"] : List Str).Nodup := by decide
  exact (vss_cons (vs_set nd (i := 2) (ve_call C_as_ratio_1 hr0 tk rfl s.g_as_ratio (va_cons (ve_var (i := 1)) va_nil)))
    (vss_one (vs_ret (ve_bin (opv_sub ⟨s.lib, tk, hr, du⟩) (ve_var (i := 0)) (ve_bin (opv_mul ⟨s.lib, tk, hr, du⟩) (ve_var (i := 2)) (ve_bin (opv_fdiv ⟨s.lib, tk, hr, du⟩) (ve_var (i := 0)) (ve_var (i := 2))))))))
theorem d_Ratio___pow__ {P : Program} {w : World} {K : PySem.W.Frag} {mg : Str → Option Value} {base : Heap} (s : Sx K mg) {r : Nat} (M_Ratio_2 : MkV P w K mg base (tab K) r 0 [false, false] [] sp_Ratio___init__)  {f : Addr} {cdv : Value} {A : Around} {outer : List Env} {st : Shared} {H : Hp} {E : XK} (hr : Room (r + 2) (A.deeper (envOfC "Ratio.__pow__" (defScope s_Ratio___pow__) st.heap.objs.size f cdv))) :
    VSs (cxOf (L2.CX P w) P w K mg base ["self", "power", "top", "under", "_"] "Ratio.__pow__" (defScope s_Ratio___pow__) f cdv A outer st H E) (tab K) (fun cls d _ H => E cls d H) z0 (defBody s_Ratio___pow__) t_Ratio___pow__ := by
  have hr0 := hr.mono (Nat.le_add_right r 2)
  have hr1 := hr.mono (show r + 1 ≤ r + 2 by omega)
  have tk : Takes (cxOf (L2.CX P w) P w K mg base ["self", "power", "top", "under", "_"] "Ratio.__pow__" (defScope s_Ratio___pow__) f cdv A outer st H E) (fun cls d _ H => E cls d H) := takes_of rfl rfl rfl rfl
  have po : PassesOwn (model P w) (Cx.A (cxOf (L2.CX P w) P w K mg base ["self", "power", "top", "under", "_"] "Ratio.__pow__" (defScope s_Ratio___pow__) f cdv A outer st H E)) (Cx.env (cxOf (L2.CX P w) P w K mg base ["self", "power", "top", "under", "_"] "Ratio.__pow__" (defScope s_Ratio___pow__) f cdv A outer st H E)) (Cx.xe (cxOf (L2.CX P w) P w K mg base ["self", "power", "top", "under", "_"] "Ratio.__pow__" (defScope s_Ratio___pow__) f cdv A outer st H E)) := passes_of (X := (cxOf (L2.CX P w) P w K mg base ["self", "power", "top", "under", "_"] "Ratio.__pow__" (defScope s_Ratio___pow__) f cdv A outer st H E)) rfl
  have nd : (["self", "power", "top", "under", "_"] : List Str).Nodup := by decide
  exact (vss_cons (vs_if (vt_not (vt_chain (opv_le ⟨s.lib, tk, hr, duN⟩) (opv_le ⟨s.lib, tk, hr, duN⟩) ve_int (ve_var (i := 1)) (ve_con s.lib (vb_var (i := 0)) (fun p hp => by rw [List.mem_singleton.mp hp]; exact s.c_Ratio_MOST_POWER)))) (vss_one vs_never) vss_nil)
    (vss_cons (vs_set nd (i := 2) ve_int)
    (vss_cons (vs_set nd (i := 3) ve_int)
    (vss_cons (vs_for po rfl (vi_rng1 rfl s.n_range (ve_var (i := 1))) (vg_nm nd (i := 4)) (vss_cons (vs_set nd (i := 2) (ve_bin (opv_mul ⟨s.lib, tk, hr, duN⟩) (ve_var (i := 2)) (ve_fld s.lib (vb_var (i := 0)) (fl_top K))))
    (vss_one (vs_set nd (i := 3) (ve_bin (opv_mul ⟨s.lib, tk, hr, duN⟩) (ve_var (i := 3)) (ve_fld s.lib (vb_var (i := 0)) (fl_under K)))))))
    (vss_one (vs_ret (ve_make M_Ratio_2 hr1 tk rfl s.g_Ratio (va_cons (ve_var (i := 2)) (va_cons (ve_var (i := 3)) va_nil)))))))))
theorem d_Ratio___neg__ {P : Program} {w : World} {K : PySem.W.Frag} {mg : Str → Option Value} {base : Heap} (s : Sx K mg) {r : Nat} (M_Ratio_2 : MkV P w K mg base (tab K) r 0 [false, false] [] sp_Ratio___init__)  {f : Addr} {cdv : Value} {A : Around} {outer : List Env} {st : Shared} {H : Hp} {E : XK} (hr : Room (r + 2) (A.deeper (envOfC "Ratio.__neg__" (defScope s_Ratio___neg__) st.heap.objs.size f cdv))) :
    VSs (cxOf (L2.CX P w) P w K mg base ["self"] "Ratio.__neg__" (defScope s_Ratio___neg__) f cdv A outer st H E) (tab K) (fun cls d _ H => E cls d H) z0 (defBody s_Ratio___neg__) t_Ratio___neg__ := by
  have hr0 := hr.mono (Nat.le_add_right r 2)
  have hr1 := hr.mono (show r + 1 ≤ r + 2 by omega)
  have tk : Takes (cxOf (L2.CX P w) P w K mg base ["self"] "Ratio.__neg__" (defScope s_Ratio___neg__) f cdv A outer st H E) (fun cls d _ H => E cls d H) := takes_of rfl rfl rfl rfl
  have po : PassesOwn (model P w) (Cx.A (cxOf (L2.CX P w) P w K mg base ["self"] "Ratio.__neg__" (defScope s_Ratio___neg__) f cdv A outer st H E)) (Cx.env (cxOf (L2.CX P w) P w K mg base ["self"] "Ratio.__neg__" (defScope s_Ratio___neg__) f cdv A outer st H E)) (Cx.xe (cxOf (L2.CX P w) P w K mg base ["self"] "Ratio.__neg__" (defScope s_Ratio___neg__) f cdv A outer st H E)) := passes_of (X := (cxOf (L2.CX P w) P w K mg base ["self"] "Ratio.__neg__" (defScope s_Ratio___neg__) f cdv A outer st H E)) rfl
  have nd : (["self"] : List Str).Nodup := by decide
  exact (vss_one (vs_ret (ve_make M_Ratio_2 hr1 tk rfl s.g_Ratio (va_cons (ve_un (opu_neg ⟨s.lib, tk, hr, duN⟩) (ve_fld s.lib (vb_var (i := 0)) (fl_top K))) (va_cons (ve_fld s.lib (vb_var (i := 0)) (fl_under K)) va_nil)))))
theorem d_Ratio___abs__ {P : Program} {w : World} {K : PySem.W.Frag} {mg : Str → Option Value} {base : Heap} (s : Sx K mg) {r : Nat} (M_Ratio_2 : MkV P w K mg base (tab K) r 0 [false, false] [] sp_Ratio___init__)  {f : Addr} {cdv : Value} {A : Around} {outer : List Env} {st : Shared} {H : Hp} {E : XK} (hr : Room (r + 2) (A.deeper (envOfC "Ratio.__abs__" (defScope s_Ratio___abs__) st.heap.objs.size f cdv))) :
    VSs (cxOf (L2.CX P w) P w K mg base ["self"] "Ratio.__abs__" (defScope s_Ratio___abs__) f cdv A outer st H E) (tab K) (fun cls d _ H => E cls d H) z0 (defBody s_Ratio___abs__) t_Ratio___abs__ := by
  have hr0 := hr.mono (Nat.le_add_right r 2)
  have hr1 := hr.mono (show r + 1 ≤ r + 2 by omega)
  have tk : Takes (cxOf (L2.CX P w) P w K mg base ["self"] "Ratio.__abs__" (defScope s_Ratio___abs__) f cdv A outer st H E) (fun cls d _ H => E cls d H) := takes_of rfl rfl rfl rfl
  have po : PassesOwn (model P w) (Cx.A (cxOf (L2.CX P w) P w K mg base ["self"] "Ratio.__abs__" (defScope s_Ratio___abs__) f cdv A outer st H E)) (Cx.env (cxOf (L2.CX P w) P w K mg base ["self"] "Ratio.__abs__" (defScope s_Ratio___abs__) f cdv A outer st H E)) (Cx.xe (cxOf (L2.CX P w) P w K mg base ["self"] "Ratio.__abs__" (defScope s_Ratio___abs__) f cdv A outer st H E)) := passes_of (X := (cxOf (L2.CX P w) P w K mg base ["self"] "Ratio.__abs__" (defScope s_Ratio___abs__) f cdv A outer st H E)) rfl
  have nd : (["self"] : List Str).Nodup := by decide
  exact (vss_one (vs_ret (ve_make M_Ratio_2 hr1 tk rfl s.g_Ratio (va_cons (ve_blt (cv_abs ⟨s.lib, tk, hr, duN⟩) rfl s.n_abs (by decide +kernel) (vab_cons (VE.toL (ve_fld s.lib (vb_var (i := 0)) (fl_top K))) vab_nil)) (va_cons (ve_fld s.lib (vb_var (i := 0)) (fl_under K)) va_nil)))))
theorem d_Ratio___bool__ {P : Program} {w : World} {K : PySem.W.Frag} {mg : Str → Option Value} {base : Heap} (s : Sx K mg) {r : Nat}   {f : Addr} {cdv : Value} {A : Around} {outer : List Env} {st : Shared} {H : Hp} {E : XK} (hr : Room (r + 2) (A.deeper (envOfC "Ratio.__bool__" (defScope s_Ratio___bool__) st.heap.objs.size f cdv))) :
    VSs (cxOf (L2.CX P w) P w K mg base ["self"] "Ratio.__bool__" (defScope s_Ratio___bool__) f cdv A outer st H E) (tab K) (fun cls d _ H => E cls d H) z0 (defBody s_Ratio___bool__) t_Ratio___bool__ := by
  have hr0 := hr.mono (Nat.le_add_right r 2)
  have hr1 := hr.mono (show r + 1 ≤ r + 2 by omega)
  have tk : Takes (cxOf (L2.CX P w) P w K mg base ["self"] "Ratio.__bool__" (defScope s_Ratio___bool__) f cdv A outer st H E) (fun cls d _ H => E cls d H) := takes_of rfl rfl rfl rfl
  have po : PassesOwn (model P w) (Cx.A (cxOf (L2.CX P w) P w K mg base ["self"] "Ratio.__bool__" (defScope s_Ratio___bool__) f cdv A outer st H E)) (Cx.env (cxOf (L2.CX P w) P w K mg base ["self"] "Ratio.__bool__" (defScope s_Ratio___bool__) f cdv A outer st H E)) (Cx.xe (cxOf (L2.CX P w) P w K mg base ["self"] "Ratio.__bool__" (defScope s_Ratio___bool__) f cdv A outer st H E)) := passes_of (X := (cxOf (L2.CX P w) P w K mg base ["self"] "Ratio.__bool__" (defScope s_Ratio___bool__) f cdv A outer st H E)) rfl
  have nd : (["self"] : List Str).Nodup := by decide
  exact (vss_one (vs_ret (ve_bltT (cv_bool ⟨s.lib, tk, hr, duN⟩) rfl s.n_bool (by decide +kernel) (vab_cons (VE.toL (ve_fld s.lib (vb_var (i := 0)) (fl_top K))) vab_nil))))
theorem d_Ratio___eq__ {P : Program} {w : World} {K : PySem.W.Frag} {mg : Str → Option Value} {base : Heap} (s : Sx K mg) {r : Nat}   {f : Addr} {cdv : Value} {A : Around} {outer : List Env} {st : Shared} {H : Hp} {E : XK} (hr : Room (r + 2) (A.deeper (envOfC "Ratio.__eq__" (defScope s_Ratio___eq__) st.heap.objs.size f cdv))) :
    VSs (cxOf (L2.CX P w) P w K mg base ["self", "other"] "Ratio.__eq__" (defScope s_Ratio___eq__) f cdv A outer st H E) (tab K) (fun cls d _ H => E cls d H) z0 (defBody s_Ratio___eq__) t_Ratio___eq__ := by
  have hr0 := hr.mono (Nat.le_add_right r 2)
  have hr1 := hr.mono (show r + 1 ≤ r + 2 by omega)
  have tk : Takes (cxOf (L2.CX P w) P w K mg base ["self", "other"] "Ratio.__eq__" (defScope s_Ratio___eq__) f cdv A outer st H E) (fun cls d _ H => E cls d H) := takes_of rfl rfl rfl rfl
  have po : PassesOwn (model P w) (Cx.A (cxOf (L2.CX P w) P w K mg base ["self", "other"] "Ratio.__eq__" (defScope s_Ratio___eq__) f cdv A outer st H E)) (Cx.env (cxOf (L2.CX P w) P w K mg base ["self", "other"] "Ratio.__eq__" (defScope s_Ratio___eq__) f cdv A outer st H E)) (Cx.xe (cxOf (L2.CX P w) P w K mg base ["self", "other"] "Ratio.__eq__" (defScope s_Ratio___eq__) f cdv A outer st H E)) := passes_of (X := (cxOf (L2.CX P w) P w K mg base ["self", "other"] "Ratio.__eq__" (defScope s_Ratio___eq__) f cdv A outer st H E)) rfl
  have nd : (["self", "other"] : List Str).Nodup := by decide
  exact (vss_one (vs_ret (ve_and (ve_isC s.lib (c0 := 0) (show (0 : Nat) < 1 by decide) rfl s.n_isinstance rfl s.g_Ratio (vl_var (i := 1))) (ve_and (ve_cmp (opv_eq ⟨s.lib, tk, hr, duN⟩) (ve_fld s.lib (vb_var (i := 0)) (fl_top K)) (ve_fld s.lib (vb_var (i := 1)) (fl_top K)) (nomark _)) (ve_one (ve_cmp (opv_eq ⟨s.lib, tk, hr, duN⟩) (ve_fld s.lib (vb_var (i := 0)) (fl_under K)) (ve_fld s.lib (vb_var (i := 1)) (fl_under K)) (nomark _)))))))
theorem d_Ratio___lt__ {P : Program} {w : World} {K : PySem.W.Frag} {mg : Str → Option Value} {base : Heap} (s : Sx K mg) {r : Nat}   {f : Addr} {cdv : Value} {A : Around} {outer : List Env} {st : Shared} {H : Hp} {E : XK} (hr : Room (r + 2) (A.deeper (envOfC "Ratio.__lt__" (defScope s_Ratio___lt__) st.heap.objs.size f cdv))) :
    VSs (cxOf (L2.CX P w) P w K mg base ["self", "other"] "Ratio.__lt__" (defScope s_Ratio___lt__) f cdv A outer st H E) (tab K) (fun cls d _ H => E cls d H) z0 (defBody s_Ratio___lt__) t_Ratio___lt__ := by
  have hr0 := hr.mono (Nat.le_add_right r 2)
  have hr1 := hr.mono (show r + 1 ≤ r + 2 by omega)
  have tk : Takes (cxOf (L2.CX P w) P w K mg base ["self", "other"] "Ratio.__lt__" (defScope s_Ratio___lt__) f cdv A outer st H E) (fun cls d _ H => E cls d H) := takes_of rfl rfl rfl rfl
  have po : PassesOwn (model P w) (Cx.A (cxOf (L2.CX P w) P w K mg base ["self", "other"] "Ratio.__lt__" (defScope s_Ratio___lt__) f cdv A outer st H E)) (Cx.env (cxOf (L2.CX P w) P w K mg base ["self", "other"] "Ratio.__lt__" (defScope s_Ratio___lt__) f cdv A outer st H E)) (Cx.xe (cxOf (L2.CX P w) P w K mg base ["self", "other"] "Ratio.__lt__" (defScope s_Ratio___lt__) f cdv A outer st H E)) := passes_of (X := (cxOf (L2.CX P w) P w K mg base ["self", "other"] "Ratio.__lt__" (defScope s_Ratio___lt__) f cdv A outer st H E)) rfl
  have nd : (["self", "other"] : List Str).Nodup := by decide
  exact (vss_cons (vs_if (vt_not (vt_ofB (VLr.toB (VE.toL (ve_isC s.lib (c0 := 0) (show (0 : Nat) < 1 by decide) rfl s.n_isinstance rfl s.g_Ratio (vl_var (i := 1))))))) (vss_one vs_never) vss_nil)
    (vss_one (vs_ret (ve_cmp (opv_lt ⟨s.lib, tk, hr, duN⟩) (ve_bin (opv_mul ⟨s.lib, tk, hr, duN⟩) (ve_fld s.lib (vb_var (i := 0)) (fl_top K)) (ve_fld s.lib (vb_var (i := 1)) (fl_under K))) (ve_bin (opv_mul ⟨s.lib, tk, hr, duN⟩) (ve_fld s.lib (vb_var (i := 1)) (fl_top K)) (ve_fld s.lib (vb_var (i := 0)) (fl_under K))) (nomark _)))))
theorem d_Ratio___le__ {P : Program} {w : World} {K : PySem.W.Frag} {mg : Str → Option Value} {base : Heap} (s : Sx K mg) {r : Nat}   {f : Addr} {cdv : Value} {A : Around} {outer : List Env} {st : Shared} {H : Hp} {E : XK} (hr : Room (r + 2) (A.deeper (envOfC "Ratio.__le__" (defScope s_Ratio___le__) st.heap.objs.size f cdv))) :
    VSs (cxOf (L2.CX P w) P w K mg base ["self", "other"] "Ratio.__le__" (defScope s_Ratio___le__) f cdv A outer st H E) (tab K) (fun cls d _ H => E cls d H) z0 (defBody s_Ratio___le__) t_Ratio___le__ := by
  have hr0 := hr.mono (Nat.le_add_right r 2)
  have hr1 := hr.mono (show r + 1 ≤ r + 2 by omega)
  have tk : Takes (cxOf (L2.CX P w) P w K mg base ["self", "other"] "Ratio.__le__" (defScope s_Ratio___le__) f cdv A outer st H E) (fun cls d _ H => E cls d H) := takes_of rfl rfl rfl rfl
  have po : PassesOwn (model P w) (Cx.A (cxOf (L2.CX P w) P w K mg base ["self", "other"] "Ratio.__le__" (defScope s_Ratio___le__) f cdv A outer st H E)) (Cx.env (cxOf (L2.CX P w) P w K mg base ["self", "other"] "Ratio.__le__" (defScope s_Ratio___le__) f cdv A outer st H E)) (Cx.xe (cxOf (L2.CX P w) P w K mg base ["self", "other"] "Ratio.__le__" (defScope s_Ratio___le__) f cdv A outer st H E)) := passes_of (X := (cxOf (L2.CX P w) P w K mg base ["self", "other"] "Ratio.__le__" (defScope s_Ratio___le__) f cdv A outer st H E)) rfl
  have nd : (["self", "other"] : List Str).Nodup := by decide
  exact (vss_cons (vs_if (vt_not (vt_ofB (VLr.toB (VE.toL (ve_isC s.lib (c0 := 0) (show (0 : Nat) < 1 by decide) rfl s.n_isinstance rfl s.g_Ratio (vl_var (i := 1))))))) (vss_one vs_never) vss_nil)
    (vss_one (vs_ret (ve_cmp (opv_le ⟨s.lib, tk, hr, duN⟩) (ve_bin (opv_mul ⟨s.lib, tk, hr, duN⟩) (ve_fld s.lib (vb_var (i := 0)) (fl_top K)) (ve_fld s.lib (vb_var (i := 1)) (fl_under K))) (ve_bin (opv_mul ⟨s.lib, tk, hr, duN⟩) (ve_fld s.lib (vb_var (i := 1)) (fl_top K)) (ve_fld s.lib (vb_var (i := 0)) (fl_under K))) (nomark _)))))
theorem d_Ratio___gt__ {P : Program} {w : World} {K : PySem.W.Frag} {mg : Str → Option Value} {base : Heap} (s : Sx K mg) {r : Nat}   {f : Addr} {cdv : Value} {A : Around} {outer : List Env} {st : Shared} {H : Hp} {E : XK} (hr : Room (r + 2) (A.deeper (envOfC "Ratio.__gt__" (defScope s_Ratio___gt__) st.heap.objs.size f cdv))) :
    VSs (cxOf (L2.CX P w) P w K mg base ["self", "other"] "Ratio.__gt__" (defScope s_Ratio___gt__) f cdv A outer st H E) (tab K) (fun cls d _ H => E cls d H) z0 (defBody s_Ratio___gt__) t_Ratio___gt__ := by
  have hr0 := hr.mono (Nat.le_add_right r 2)
  have hr1 := hr.mono (show r + 1 ≤ r + 2 by omega)
  have tk : Takes (cxOf (L2.CX P w) P w K mg base ["self", "other"] "Ratio.__gt__" (defScope s_Ratio___gt__) f cdv A outer st H E) (fun cls d _ H => E cls d H) := takes_of rfl rfl rfl rfl
  have po : PassesOwn (model P w) (Cx.A (cxOf (L2.CX P w) P w K mg base ["self", "other"] "Ratio.__gt__" (defScope s_Ratio___gt__) f cdv A outer st H E)) (Cx.env (cxOf (L2.CX P w) P w K mg base ["self", "other"] "Ratio.__gt__" (defScope s_Ratio___gt__) f cdv A outer st H E)) (Cx.xe (cxOf (L2.CX P w) P w K mg base ["self", "other"] "Ratio.__gt__" (defScope s_Ratio___gt__) f cdv A outer st H E)) := passes_of (X := (cxOf (L2.CX P w) P w K mg base ["self", "other"] "Ratio.__gt__" (defScope s_Ratio___gt__) f cdv A outer st H E)) rfl
  have nd : (["self", "other"] : List Str).Nodup := by decide
  exact (vss_cons (vs_if (vt_not (vt_ofB (VLr.toB (VE.toL (ve_isC s.lib (c0 := 0) (show (0 : Nat) < 1 by decide) rfl s.n_isinstance rfl s.g_Ratio (vl_var (i := 1))))))) (vss_one vs_never) vss_nil)
    (vss_one (vs_ret (ve_cmp (opv_gt ⟨s.lib, tk, hr, duN⟩) (ve_bin (opv_mul ⟨s.lib, tk, hr, duN⟩) (ve_fld s.lib (vb_var (i := 0)) (fl_top K)) (ve_fld s.lib (vb_var (i := 1)) (fl_under K))) (ve_bin (opv_mul ⟨s.lib, tk, hr, duN⟩) (ve_fld s.lib (vb_var (i := 1)) (fl_top K)) (ve_fld s.lib (vb_var (i := 0)) (fl_under K))) (nomark _)))))
theorem d_Ratio___ge__ {P : Program} {w : World} {K : PySem.W.Frag} {mg : Str → Option Value} {base : Heap} (s : Sx K mg) {r : Nat}   {f : Addr} {cdv : Value} {A : Around} {outer : List Env} {st : Shared} {H : Hp} {E : XK} (hr : Room (r + 2) (A.deeper (envOfC "Ratio.__ge__" (defScope s_Ratio___ge__) st.heap.objs.size f cdv))) :
    VSs (cxOf (L2.CX P w) P w K mg base ["self", "other"] "Ratio.__ge__" (defScope s_Ratio___ge__) f cdv A outer st H E) (tab K) (fun cls d _ H => E cls d H) z0 (defBody s_Ratio___ge__) t_Ratio___ge__ := by
  have hr0 := hr.mono (Nat.le_add_right r 2)
  have hr1 := hr.mono (show r + 1 ≤ r + 2 by omega)
  have tk : Takes (cxOf (L2.CX P w) P w K mg base ["self", "other"] "Ratio.__ge__" (defScope s_Ratio___ge__) f cdv A outer st H E) (fun cls d _ H => E cls d H) := takes_of rfl rfl rfl rfl
  have po : PassesOwn (model P w) (Cx.A (cxOf (L2.CX P w) P w K mg base ["self", "other"] "Ratio.__ge__" (defScope s_Ratio___ge__) f cdv A outer st H E)) (Cx.env (cxOf (L2.CX P w) P w K mg base ["self", "other"] "Ratio.__ge__" (defScope s_Ratio___ge__) f cdv A outer st H E)) (Cx.xe (cxOf (L2.CX P w) P w K mg base ["self", "other"] "Ratio.__ge__" (defScope s_Ratio___ge__) f cdv A outer st H E)) := passes_of (X := (cxOf (L2.CX P w) P w K mg base ["self", "other"] "Ratio.__ge__" (defScope s_Ratio___ge__) f cdv A outer st H E)) rfl
  have nd : (["self", "other"] : List Str).Nodup := by decide
  exact (vss_cons (vs_if (vt_not (vt_ofB (VLr.toB (VE.toL (ve_isC s.lib (c0 := 0) (show (0 : Nat) < 1 by decide) rfl s.n_isinstance rfl s.g_Ratio (vl_var (i := 1))))))) (vss_one vs_never) vss_nil)
    (vss_one (vs_ret (ve_cmp (opv_ge ⟨s.lib, tk, hr, duN⟩) (ve_bin (opv_mul ⟨s.lib, tk, hr, duN⟩) (ve_fld s.lib (vb_var (i := 0)) (fl_top K)) (ve_fld s.lib (vb_var (i := 1)) (fl_under K))) (ve_bin (opv_mul ⟨s.lib, tk, hr, duN⟩) (ve_fld s.lib (vb_var (i := 1)) (fl_top K)) (ve_fld s.lib (vb_var (i := 0)) (fl_under K))) (nomark _)))))
theorem d_Ratio___str__ {P : Program} {w : World} {K : PySem.W.Frag} {mg : Str → Option Value} {base : Heap} (s : Sx K mg) {r : Nat}   {f : Addr} {cdv : Value} {A : Around} {outer : List Env} {st : Shared} {H : Hp} {E : XK} (hr : Room (r + 2) (A.deeper (envOfC "Ratio.__str__" (defScope s_Ratio___str__) st.heap.objs.size f cdv))) :
    VSs (cxOf (L2.CX P w) P w K mg base ["self"] "Ratio.__str__" (defScope s_Ratio___str__) f cdv A outer st H E) (tab K) (fun cls d _ H => E cls d H) z0 (defBody s_Ratio___str__) t_Ratio___str__ := by
  have hr0 := hr.mono (Nat.le_add_right r 2)
  have hr1 := hr.mono (show r + 1 ≤ r + 2 by omega)
  have tk : Takes (cxOf (L2.CX P w) P w K mg base ["self"] "Ratio.__str__" (defScope s_Ratio___str__) f cdv A outer st H E) (fun cls d _ H => E cls d H) := takes_of rfl rfl rfl rfl
  have po : PassesOwn (model P w) (Cx.A (cxOf (L2.CX P w) P w K mg base ["self"] "Ratio.__str__" (defScope s_Ratio___str__) f cdv A outer st H E)) (Cx.env (cxOf (L2.CX P w) P w K mg base ["self"] "Ratio.__str__" (defScope s_Ratio___str__) f cdv A outer st H E)) (Cx.xe (cxOf (L2.CX P w) P w K mg base ["self"] "Ratio.__str__" (defScope s_Ratio___str__) f cdv A outer st H E)) := passes_of (X := (cxOf (L2.CX P w) P w K mg base ["self"] "Ratio.__str__" (defScope s_Ratio___str__) f cdv A outer st H E)) rfl
  have nd : (["self"] : List Str).Nodup := by decide
  exact (vss_cons (vs_if (vt_cmp (opv_eq ⟨s.lib, tk, hr, duN⟩) (ve_fld s.lib (vb_var (i := 0)) (fl_under K)) ve_int (nomark _)) (vss_one (vs_ret (ve_bltT (cv_str ⟨s.lib, tk, hr, duN⟩) rfl s.n_str (by decide +kernel) (vab_cons (VE.toL (ve_fld s.lib (vb_var (i := 0)) (fl_top K))) vab_nil)))) vss_nil)
    (vss_one (vs_ret (ve_join (.cons (ve_fmt (ve_fld s.lib (vb_var (i := 0)) (fl_top K))) (.cons ve_str (.cons (ve_fmt (ve_fld s.lib (vb_var (i := 0)) (fl_under K))) .nil)))))))
theorem d_as_ratio {P : Program} {w : World} {K : PySem.W.Frag} {mg : Str → Option Value} {base : Heap} (s : Sx K mg) {r : Nat} (M_Ratio_1 : MkV P w K mg base (tab K) r 0 [false] [.int 1] sp_Ratio___init__)  {f : Addr} {cdv : Value} {A : Around} {outer : List Env} {st : Shared} {H : Hp} {E : XK} (hr : Room (r + 2) (A.deeper (envOfC "as_ratio" (defScope s_as_ratio) st.heap.objs.size f cdv))) :
    VSs (cxOf (L2.CX P w) P w K mg base ["number"] "as_ratio" (defScope s_as_ratio) f cdv A outer st H E) (tab K) (fun cls d _ H => E cls d H) z0 (defBody s_as_ratio) t_as_ratio := by
  have hr0 := hr.mono (Nat.le_add_right r 2)
  have hr1 := hr.mono (show r + 1 ≤ r + 2 by omega)
  have tk : Takes (cxOf (L2.CX P w) P w K mg base ["number"] "as_ratio" (defScope s_as_ratio) f cdv A outer st H E) (fun cls d _ H => E cls d H) := takes_of rfl rfl rfl rfl
  have po : PassesOwn (model P w) (Cx.A (cxOf (L2.CX P w) P w K mg base ["number"] "as_ratio" (defScope s_as_ratio) f cdv A outer st H E)) (Cx.env (cxOf (L2.CX P w) P w K mg base ["number"] "as_ratio" (defScope s_as_ratio) f cdv A outer st H E)) (Cx.xe (cxOf (L2.CX P w) P w K mg base ["number"] "as_ratio" (defScope s_as_ratio) f cdv A outer st H E)) := passes_of (X := (cxOf (L2.CX P w) P w K mg base ["number"] "as_ratio" (defScope s_as_ratio) f cdv A outer st H E)) rfl
  have nd : (["number"] : List Str).Nodup := by decide
  exact (vss_cons (vs_if (vt_ofB (VLr.toB (VE.toL (ve_isC s.lib (c0 := 0) (show (0 : Nat) < 1 by decide) rfl s.n_isinstance rfl s.g_Ratio (vl_var (i := 0)))))) (vss_one (vs_ret (ve_var (i := 0)))) vss_nil)
    (vss_one (vs_ret (ve_make M_Ratio_1 hr1 tk rfl s.g_Ratio (va_cons (ve_var (i := 0)) va_nil)))))
theorem d__law_cell {P : Program} {w : World} {K : PySem.W.Frag} {mg : Str → Option Value} {base : Heap} (s : Sx K mg) {r : Nat}  (du : ∀ c m sp, dn c m = some sp → c < (tab K).n → DnOk P w K mg base (tab K) r c m m.ms sp) {f : Addr} {cdv : Value} {A : Around} {outer : List Env} {st : Shared} {H : Hp} {E : XK} (hr : Room (r + 2) (A.deeper (envOfC "_law_cell" (defScope s__law_cell) st.heap.objs.size f cdv))) :
    VSs (cxOf (L2.CX P w) P w K mg base ["script", "k"] "_law_cell" (defScope s__law_cell) f cdv A outer st H E) (tab K) (fun cls d _ H => E cls d H) z0 (defBody s__law_cell) t__law_cell := by
  have hr0 := hr.mono (Nat.le_add_right r 2)
  have hr1 := hr.mono (show r + 1 ≤ r + 2 by omega)
  have tk : Takes (cxOf (L2.CX P w) P w K mg base ["script", "k"] "_law_cell" (defScope s__law_cell) f cdv A outer st H E) (fun cls d _ H => E cls d H) := takes_of rfl rfl rfl rfl
  have po : PassesOwn (model P w) (Cx.A (cxOf (L2.CX P w) P w K mg base ["script", "k"] "_law_cell" (defScope s__law_cell) f cdv A outer st H E)) (Cx.env (cxOf (L2.CX P w) P w K mg base ["script", "k"] "_law_cell" (defScope s__law_cell) f cdv A outer st H E)) (Cx.xe (cxOf (L2.CX P w) P w K mg base ["script", "k"] "_law_cell" (defScope s__law_cell) f cdv A outer st H E)) := passes_of (X := (cxOf (L2.CX P w) P w K mg base ["script", "k"] "_law_cell" (defScope s__law_cell) f cdv A outer st H E)) rfl
  have nd : (["script", "k"] : List Str).Nodup := by decide
  exact (vss_cons (vs_if (vt_cmp (opv_lt ⟨s.lib, tk, hr, du⟩) (ve_var (i := 1)) (ve_blt (cv_len ⟨s.lib, tk, hr, du⟩) rfl s.n_len (by decide +kernel) (vab_cons (vl_var (i := 0)) vab_nil)) (nomark _)) (vss_one (vs_ret (ve_blt (cv_abs ⟨s.lib, tk, hr, du⟩) rfl s.n_abs (by decide +kernel) (vab_cons (VE.toL (ve_ix (vl_var (i := 0)) (ve_var (i := 1)))) vab_nil)))) vss_nil)
    (vss_one (vs_ret ve_int)))
theorem d__law_draws {P : Program} {w : World} {K : PySem.W.Frag} {mg : Str → Option Value} {base : Heap} (s : Sx K mg) {r : Nat}  (du : ∀ c m sp, dn c m = some sp → c < (tab K).n → DnOk P w K mg base (tab K) r c m m.ms sp) {f : Addr} {cdv : Value} {A : Around} {outer : List Env} {st : Shared} {H : Hp} {E : XK} (hr : Room (r + 2) (A.deeper (envOfC "_law_draws" (defScope s__law_draws) st.heap.objs.size f cdv))) :
    VSs (cxOf (L2.CX P w) P w K mg base ["cell", "salt", "menu", "found", "rest", "mixed", "k"] "_law_draws" (defScope s__law_draws) f cdv A outer st H E) (tab K) (fun cls d _ H => E cls d H) z0 (defBody s__law_draws) t__law_draws := by
  have hr0 := hr.mono (Nat.le_add_right r 2)
  have hr1 := hr.mono (show r + 1 ≤ r + 2 by omega)
  have tk : Takes (cxOf (L2.CX P w) P w K mg base ["cell", "salt", "menu", "found", "rest", "mixed", "k"] "_law_draws" (defScope s__law_draws) f cdv A outer st H E) (fun cls d _ H => E cls d H) := takes_of rfl rfl rfl rfl
  have po : PassesOwn (model P w) (Cx.A (cxOf (L2.CX P w) P w K mg base ["cell", "salt", "menu", "found", "rest", "mixed", "k"] "_law_draws" (defScope s__law_draws) f cdv A outer st H E)) (Cx.env (cxOf (L2.CX P w) P w K mg base ["cell", "salt", "menu", "found", "rest", "mixed", "k"] "_law_draws" (defScope s__law_draws) f cdv A outer st H E)) (Cx.xe (cxOf (L2.CX P w) P w K mg base ["cell", "salt", "menu", "found", "rest", "mixed", "k"] "_law_draws" (defScope s__law_draws) f cdv A outer st H E)) := passes_of (X := (cxOf (L2.CX P w) P w K mg base ["cell", "salt", "menu", "found", "rest", "mixed", "k"] "_law_draws" (defScope s__law_draws) f cdv A outer st H E)) rfl
  have nd : (["cell", "salt", "menu", "found", "rest", "mixed", "k"] : List Str).Nodup := by decide
  exact (vss_cons (vs_own nd (i := 3) (ve_lst va_nil))
    (vss_cons (vs_set nd (i := 4) (ve_bin (opv_sub ⟨s.lib, tk, hr, du⟩) (ve_var (i := 0)) (ve_bin (opv_pow ⟨s.lib, tk, hr, du⟩) ve_int ve_int)))
    (vss_cons (vs_set nd (i := 5) (ve_bin (opv_add ⟨s.lib, tk, hr, du⟩) (ve_var (i := 0)) (ve_bin (opv_mul ⟨s.lib, tk, hr, du⟩) ve_int (ve_var (i := 1)))))
    (vss_cons (vs_for po rfl (vi_rng1 rfl s.n_range (ve_blt (cv_len ⟨s.lib, tk, hr, du⟩) rfl s.n_len (by decide +kernel) (vab_cons (vl_var (i := 2)) vab_nil))) (vg_nm nd (i := 6)) (vss_one (vs_if (vt_cmp (opv_ge ⟨s.lib, tk, hr, du⟩) (ve_var (i := 4)) ve_int (nomark _)) (vss_cons (vs_meth (i := 3) mu_append PySem.F.slot_list_append PySem.F.type_list_append (va_cons (ve_bin (opv_mod ⟨s.lib, tk, hr, du⟩) (ve_bltT (cv_int) rfl s.n_int (by decide +kernel) (vab_cons (vl_var (i := 4)) vab_nil)) (ve_ix (vl_var (i := 2)) (ve_var (i := 6)))) va_nil))
    (vss_one (vs_set nd (i := 4) (ve_bin (opv_fdiv ⟨s.lib, tk, hr, du⟩) (ve_var (i := 4)) (ve_ix (vl_var (i := 2)) (ve_var (i := 6))))))) (vss_cons (vs_set nd (i := 5) (ve_bin (opv_mod ⟨s.lib, tk, hr, du⟩) (ve_bltT (cv_int) rfl s.n_int (by decide +kernel) (vab_cons (VE.toL (ve_bin (opv_add ⟨s.lib, tk, hr, du⟩) (ve_bin (opv_add ⟨s.lib, tk, hr, du⟩) (ve_bin (opv_mul ⟨s.lib, tk, hr, du⟩) (ve_var (i := 5)) (ve_var (i := 5))) (ve_bin (opv_mul ⟨s.lib, tk, hr, du⟩) ve_int (ve_bin (opv_add ⟨s.lib, tk, hr, du⟩) (ve_var (i := 6)) ve_int))) ve_int)) vab_nil)) ve_int))
    (vss_cons (vs_set nd (i := 5) (ve_bin (opv_mod ⟨s.lib, tk, hr, du⟩) (ve_bltT (cv_int) rfl s.n_int (by decide +kernel) (vab_cons (VE.toL (ve_bin (opv_add ⟨s.lib, tk, hr, du⟩) (ve_bin (opv_mul ⟨s.lib, tk, hr, du⟩) (ve_var (i := 5)) (ve_var (i := 5))) (ve_bin (opv_fdiv ⟨s.lib, tk, hr, du⟩) (ve_var (i := 5)) ve_int))) vab_nil)) ve_int))
    (vss_one (vs_meth (i := 3) mu_append PySem.F.slot_list_append PySem.F.type_list_append (va_cons (ve_bin (opv_mod ⟨s.lib, tk, hr, du⟩) (ve_bltT (cv_int) rfl s.n_int (by decide +kernel) (vab_cons (VE.toL (ve_bin (opv_fdiv ⟨s.lib, tk, hr, du⟩) (ve_var (i := 5)) ve_int)) vab_nil)) (ve_ix (vl_var (i := 2)) (ve_var (i := 6)))) va_nil))))))))
    (vss_one (vs_retO (i := 3)))))))
theorem d__law_gcd {P : Program} {w : World} {K : PySem.W.Frag} {mg : Str → Option Value} {base : Heap} (s : Sx K mg) {r : Nat}  (du : ∀ c m sp, dn c m = some sp → c < (tab K).n → DnOk P w K mg base (tab K) r c m m.ms sp) {f : Addr} {cdv : Value} {A : Around} {outer : List Env} {st : Shared} {H : Hp} {E : XK} (hr : Room (r + 2) (A.deeper (envOfC "_law_gcd" (defScope s__law_gcd) st.heap.objs.size f cdv))) :
    VSs (cxOf (L2.CX P w) P w K mg base ["a", "b"] "_law_gcd" (defScope s__law_gcd) f cdv A outer st H E) (tab K) (fun cls d _ H => E cls d H) z0 (defBody s__law_gcd) t__law_gcd := by
  have hr0 := hr.mono (Nat.le_add_right r 2)
  have hr1 := hr.mono (show r + 1 ≤ r + 2 by omega)
  have tk : Takes (cxOf (L2.CX P w) P w K mg base ["a", "b"] "_law_gcd" (defScope s__law_gcd) f cdv A outer st H E) (fun cls d _ H => E cls d H) := takes_of rfl rfl rfl rfl
  have po : PassesOwn (model P w) (Cx.A (cxOf (L2.CX P w) P w K mg base ["a", "b"] "_law_gcd" (defScope s__law_gcd) f cdv A outer st H E)) (Cx.env (cxOf (L2.CX P w) P w K mg base ["a", "b"] "_law_gcd" (defScope s__law_gcd) f cdv A outer st H E)) (Cx.xe (cxOf (L2.CX P w) P w K mg base ["a", "b"] "_law_gcd" (defScope s__law_gcd) f cdv A outer st H E)) := passes_of (X := (cxOf (L2.CX P w) P w K mg base ["a", "b"] "_law_gcd" (defScope s__law_gcd) f cdv A outer st H E)) rfl
  have nd : (["a", "b"] : List Str).Nodup := by decide
  exact (vss_cons (vs_set nd (i := 0) (ve_blt (cv_abs ⟨s.lib, tk, hr, du⟩) rfl s.n_abs (by decide +kernel) (vab_cons (vl_var (i := 0)) vab_nil)))
    (vss_cons (vs_set nd (i := 1) (ve_blt (cv_abs ⟨s.lib, tk, hr, du⟩) rfl s.n_abs (by decide +kernel) (vab_cons (vl_var (i := 1)) vab_nil)))
    (vss_cons (vs_while po (vt_cmp (opv_gt ⟨s.lib, tk, hr, du⟩) (ve_var (i := 1)) ve_int (nomark _)) (vss_one (vs_par rfl nd (i := 0) (j := 1) (ve_var (i := 1)) (ve_bin (opv_mod ⟨s.lib, tk, hr, du⟩) (ve_bltT (cv_int) rfl s.n_int (by decide +kernel) (vab_cons (vl_var (i := 0)) vab_nil)) (ve_var (i := 1))))))
    (vss_one (vs_ret (ve_var (i := 0)))))))
theorem d__law_is_int {P : Program} {w : World} {K : PySem.W.Frag} {mg : Str → Option Value} {base : Heap} (s : Sx K mg) {r : Nat}  (du : ∀ c m sp, dn c m = some sp → c < (tab K).n → DnOk P w K mg base (tab K) r c m m.ms sp) {f : Addr} {cdv : Value} {A : Around} {outer : List Env} {st : Shared} {H : Hp} {E : XK} (hr : Room (r + 2) (A.deeper (envOfC "_law_is_int" (defScope s__law_is_int) st.heap.objs.size f cdv))) :
    VSs (cxOf (L2.CX P w) P w K mg base ["x"] "_law_is_int" (defScope s__law_is_int) f cdv A outer st H E) (tab K) (fun cls d _ H => E cls d H) z0 (defBody s__law_is_int) t__law_is_int := by
  have hr0 := hr.mono (Nat.le_add_right r 2)
  have hr1 := hr.mono (show r + 1 ≤ r + 2 by omega)
  have tk : Takes (cxOf (L2.CX P w) P w K mg base ["x"] "_law_is_int" (defScope s__law_is_int) f cdv A outer st H E) (fun cls d _ H => E cls d H) := takes_of rfl rfl rfl rfl
  have po : PassesOwn (model P w) (Cx.A (cxOf (L2.CX P w) P w K mg base ["x"] "_law_is_int" (defScope s__law_is_int) f cdv A outer st H E)) (Cx.env (cxOf (L2.CX P w) P w K mg base ["x"] "_law_is_int" (defScope s__law_is_int) f cdv A outer st H E)) (Cx.xe (cxOf (L2.CX P w) P w K mg base ["x"] "_law_is_int" (defScope s__law_is_int) f cdv A outer st H E)) := passes_of (X := (cxOf (L2.CX P w) P w K mg base ["x"] "_law_is_int" (defScope s__law_is_int) f cdv A outer st H E)) rfl
  have nd : (["x"] : List Str).Nodup := by decide
  exact (vss_one (vs_ret (ve_and (ve_isT (ty := .int) s.lib rfl s.n_isinstance rfl s.n_int (by decide +kernel) (vl_var (i := 0))) (ve_one (ve_not (ve_isT (ty := .bool) s.lib rfl s.n_isinstance rfl s.n_bool (by decide +kernel) (vl_var (i := 0))))))))
theorem d__law_is_ratio {P : Program} {w : World} {K : PySem.W.Frag} {mg : Str → Option Value} {base : Heap} (s : Sx K mg) {r : Nat} (C__law_is_int_1 : FnV P w K mg base (tab K) r (ga K "_law_is_int") [false] [] sp__law_is_int) (C__law_gcd_2 : FnV P w K mg base (tab K) r (ga K "_law_gcd") [false, false] [] sp__law_gcd) (du : ∀ c m sp, dn c m = some sp → c < (tab K).n → DnOk P w K mg base (tab K) r c m m.ms sp) {f : Addr} {cdv : Value} {A : Around} {outer : List Env} {st : Shared} {H : Hp} {E : XK} (hr : Room (r + 2) (A.deeper (envOfC "_law_is_ratio" (defScope s__law_is_ratio) st.heap.objs.size f cdv))) :
    VSs (cxOf (L2.CX P w) P w K mg base ["x"] "_law_is_ratio" (defScope s__law_is_ratio) f cdv A outer st H E) (tab K) (fun cls d _ H => E cls d H) z0 (defBody s__law_is_ratio) t__law_is_ratio := by
  have hr0 := hr.mono (Nat.le_add_right r 2)
  have hr1 := hr.mono (show r + 1 ≤ r + 2 by omega)
  have tk : Takes (cxOf (L2.CX P w) P w K mg base ["x"] "_law_is_ratio" (defScope s__law_is_ratio) f cdv A outer st H E) (fun cls d _ H => E cls d H) := takes_of rfl rfl rfl rfl
  have po : PassesOwn (model P w) (Cx.A (cxOf (L2.CX P w) P w K mg base ["x"] "_law_is_ratio" (defScope s__law_is_ratio) f cdv A outer st H E)) (Cx.env (cxOf (L2.CX P w) P w K mg base ["x"] "_law_is_ratio" (defScope s__law_is_ratio) f cdv A outer st H E)) (Cx.xe (cxOf (L2.CX P w) P w K mg base ["x"] "_law_is_ratio" (defScope s__law_is_ratio) f cdv A outer st H E)) := passes_of (X := (cxOf (L2.CX P w) P w K mg base ["x"] "_law_is_ratio" (defScope s__law_is_ratio) f cdv A outer st H E)) rfl
  have nd : (["x"] : List Str).Nodup := by decide
  exact (vss_cons (vs_if (vt_w (vw_or (vt_not (vt_ofB (VLr.toB (VE.toL (ve_isC s.lib (c0 := 0) (show (0 : Nat) < 1 by decide) rfl s.n_isinstance rfl s.g_Ratio (vl_var (i := 0))))))) (vw_or (vt_not (vt_ofB (VLr.toB (VE.toL (ve_call C__law_is_int_1 hr0 tk rfl s.g__law_is_int (va_cons (ve_fld s.lib (vb_var (i := 0)) (fl_top K)) va_nil)))))) (vw_one' (vt_not (vt_ofB (VLr.toB (VE.toL (ve_call C__law_is_int_1 hr0 tk rfl s.g__law_is_int (va_cons (ve_fld s.lib (vb_var (i := 0)) (fl_under K)) va_nil)))))))))) (vss_one (vs_ret ve_bl)) vss_nil)
    (vss_one (vs_ret (ve_and (ve_cmp (opv_ge ⟨s.lib, tk, hr, du⟩) (ve_fld s.lib (vb_var (i := 0)) (fl_under K)) ve_int (nomark _)) (ve_one (ve_cmp (opv_eq ⟨s.lib, tk, hr, du⟩) (ve_call C__law_gcd_2 hr0 tk rfl s.g__law_gcd (va_cons (ve_fld s.lib (vb_var (i := 0)) (fl_top K)) (va_cons (ve_fld s.lib (vb_var (i := 0)) (fl_under K)) va_nil))) ve_int (nomark _)))))))
theorem d__law_digits {P : Program} {w : World} {K : PySem.W.Frag} {mg : Str → Option Value} {base : Heap} (s : Sx K mg) {r : Nat} (C__law_draws_3 : FnV P w K mg base (tab K) r (ga K "_law_draws") [false, false, false] [] sp__law_draws) (du : ∀ c m sp, dn c m = some sp → c < (tab K).n → DnOk P w K mg base (tab K) r c m m.ms sp) {f : Addr} {cdv : Value} {A : Around} {outer : List Env} {st : Shared} {H : Hp} {E : XK} (hr : Room (r + 2) (A.deeper (envOfC "_law_digits" (defScope s__law_digits) st.heap.objs.size f cdv))) :
    VSs (cxOf (L2.CX P w) P w K mg base ["cell", "salt", "number", "piece"] "_law_digits" (defScope s__law_digits) f cdv A outer st H E) (tab K) (fun cls d _ H => E cls d H) z0 (defBody s__law_digits) t__law_digits := by
  have hr0 := hr.mono (Nat.le_add_right r 2)
  have hr1 := hr.mono (show r + 1 ≤ r + 2 by omega)
  have tk : Takes (cxOf (L2.CX P w) P w K mg base ["cell", "salt", "number", "piece"] "_law_digits" (defScope s__law_digits) f cdv A outer st H E) (fun cls d _ H => E cls d H) := takes_of rfl rfl rfl rfl
  have po : PassesOwn (model P w) (Cx.A (cxOf (L2.CX P w) P w K mg base ["cell", "salt", "number", "piece"] "_law_digits" (defScope s__law_digits) f cdv A outer st H E)) (Cx.env (cxOf (L2.CX P w) P w K mg base ["cell", "salt", "number", "piece"] "_law_digits" (defScope s__law_digits) f cdv A outer st H E)) (Cx.xe (cxOf (L2.CX P w) P w K mg base ["cell", "salt", "number", "piece"] "_law_digits" (defScope s__law_digits) f cdv A outer st H E)) := passes_of (X := (cxOf (L2.CX P w) P w K mg base ["cell", "salt", "number", "piece"] "_law_digits" (defScope s__law_digits) f cdv A outer st H E)) rfl
  have nd : (["cell", "salt", "number", "piece"] : List Str).Nodup := by decide
  exact (vss_cons (vs_set nd (i := 2) ve_int)
    (vss_cons (vs_for po rfl (vi_seq (ve_call C__law_draws_3 hr0 tk rfl s.g__law_draws (va_cons (ve_var (i := 0)) (va_cons (ve_var (i := 1)) (va_cons (ve_bin (opv_mul ⟨s.lib, tk, hr, du⟩) (ve_lst (va_cons (ve_bin (opv_pow ⟨s.lib, tk, hr, du⟩) ve_int ve_int) va_nil)) ve_int) va_nil))))) (vg_nm nd (i := 3)) (vss_one (vs_set nd (i := 2) (ve_bin (opv_add ⟨s.lib, tk, hr, du⟩) (ve_bin (opv_mul ⟨s.lib, tk, hr, du⟩) (ve_var (i := 2)) (ve_bin (opv_pow ⟨s.lib, tk, hr, du⟩) ve_int ve_int)) (ve_var (i := 3))))))
    (vss_one (vs_ret (ve_var (i := 2))))))
theorem d__law_numbers {P : Program} {w : World} {K : PySem.W.Frag} {mg : Str → Option Value} {base : Heap} (s : Sx K mg) {r : Nat} (C__law_cell_2 : FnV P w K mg base (tab K) r (ga K "_law_cell") [false, false] [] sp__law_cell) (C__law_digits_2 : FnV P w K mg base (tab K) r (ga K "_law_digits") [false, false] [] sp__law_digits) (C__law_draws_3 : FnV P w K mg base (tab K) r (ga K "_law_draws") [false, false, false] [] sp__law_draws) (du : ∀ c m sp, dn c m = some sp → c < (tab K).n → DnOk P w K mg base (tab K) r c m m.ms sp) {f : Addr} {cdv : Value} {A : Around} {outer : List Env} {st : Shared} {H : Hp} {E : XK} (hr : Room (r + 2) (A.deeper (envOfC "_law_numbers" (defScope s__law_numbers) st.heap.objs.size f cdv))) :
    VSs (cxOf (L2.CX P w) P w K mg base ["script", "one", "two", "more", "ways"] "_law_numbers" (defScope s__law_numbers) f cdv A outer st H E) (tab K) (fun cls d _ H => E cls d H) z0 (defBody s__law_numbers) t__law_numbers := by
  have hr0 := hr.mono (Nat.le_add_right r 2)
  have hr1 := hr.mono (show r + 1 ≤ r + 2 by omega)
  have tk : Takes (cxOf (L2.CX P w) P w K mg base ["script", "one", "two", "more", "ways"] "_law_numbers" (defScope s__law_numbers) f cdv A outer st H E) (fun cls d _ H => E cls d H) := takes_of rfl rfl rfl rfl
  have po : PassesOwn (model P w) (Cx.A (cxOf (L2.CX P w) P w K mg base ["script", "one", "two", "more", "ways"] "_law_numbers" (defScope s__law_numbers) f cdv A outer st H E)) (Cx.env (cxOf (L2.CX P w) P w K mg base ["script", "one", "two", "more", "ways"] "_law_numbers" (defScope s__law_numbers) f cdv A outer st H E)) (Cx.xe (cxOf (L2.CX P w) P w K mg base ["script", "one", "two", "more", "ways"] "_law_numbers" (defScope s__law_numbers) f cdv A outer st H E)) := passes_of (X := (cxOf (L2.CX P w) P w K mg base ["script", "one", "two", "more", "ways"] "_law_numbers" (defScope s__law_numbers) f cdv A outer st H E)) rfl
  have nd : (["script", "one", "two", "more", "ways"] : List Str).Nodup := by decide
  exact (vss_cons (vs_set nd (i := 1) (ve_call C__law_digits_2 hr0 tk rfl s.g__law_digits (va_cons (ve_call C__law_cell_2 hr0 tk rfl s.g__law_cell (va_cons (ve_var (i := 0)) (va_cons ve_int va_nil))) (va_cons ve_int va_nil))))
    (vss_cons (vs_set nd (i := 2) (ve_call C__law_digits_2 hr0 tk rfl s.g__law_digits (va_cons (ve_call C__law_cell_2 hr0 tk rfl s.g__law_cell (va_cons (ve_var (i := 0)) (va_cons ve_int va_nil))) (va_cons ve_int va_nil))))
    (vss_cons (vs_set nd (i := 3) (ve_call C__law_digits_2 hr0 tk rfl s.g__law_digits (va_cons (ve_call C__law_cell_2 hr0 tk rfl s.g__law_cell (va_cons (ve_var (i := 0)) (va_cons ve_int va_nil))) (va_cons ve_int va_nil))))
    (vss_cons (vs_set nd (i := 4) (ve_call C__law_draws_3 hr0 tk rfl s.g__law_draws (va_cons (ve_call C__law_cell_2 hr0 tk rfl s.g__law_cell (va_cons (ve_var (i := 0)) (va_cons ve_int va_nil))) (va_cons ve_int (va_cons (ve_lst (va_cons ve_int (va_cons ve_int (va_cons ve_int (va_cons ve_int va_nil))))) va_nil)))))
    (vss_cut (vs_if (vt_cmp (opv_eq ⟨s.lib, tk, hr, du⟩) (ve_ix (vl_var (i := 4)) ve_int) ve_int (nomark _)) (vss_cons (vs_set nd (i := 1) (ve_bin (opv_mul ⟨s.lib, tk, hr, du⟩) (ve_bin (opv_mod ⟨s.lib, tk, hr, du⟩) (ve_bltT (cv_int) rfl s.n_int (by decide +kernel) (vab_cons (vl_var (i := 1)) vab_nil)) (ve_bin (opv_pow ⟨s.lib, tk, hr, du⟩) ve_int ve_int)) (ve_bin (opv_add ⟨s.lib, tk, hr, du⟩) ve_int (ve_bin (opv_mod ⟨s.lib, tk, hr, du⟩) (ve_bltT (cv_int) rfl s.n_int (by decide +kernel) (vab_cons (vl_var (i := 3)) vab_nil)) (ve_bin (opv_pow ⟨s.lib, tk, hr, du⟩) ve_int ve_int)))))
    (vss_one (vs_set nd (i := 2) (ve_bin (opv_mul ⟨s.lib, tk, hr, du⟩) (ve_bin (opv_mod ⟨s.lib, tk, hr, du⟩) (ve_bltT (cv_int) rfl s.n_int (by decide +kernel) (vab_cons (vl_var (i := 2)) vab_nil)) (ve_bin (opv_pow ⟨s.lib, tk, hr, du⟩) ve_int ve_int)) (ve_bin (opv_add ⟨s.lib, tk, hr, du⟩) ve_int (ve_bin (opv_mod ⟨s.lib, tk, hr, du⟩) (ve_bltT (cv_int) rfl s.n_int (by decide +kernel) (vab_cons (vl_var (i := 3)) vab_nil)) (ve_bin (opv_pow ⟨s.lib, tk, hr, du⟩) ve_int ve_int))))))) vss_nil)
    (vss_cut (vs_if (vt_cmp (opv_eq ⟨s.lib, tk, hr, du⟩) (ve_ix (vl_var (i := 4)) ve_int) ve_int (nomark _)) (vss_cons (vs_set nd (i := 1) (ve_bin (opv_mul ⟨s.lib, tk, hr, du⟩) (ve_bin (opv_mod ⟨s.lib, tk, hr, du⟩) (ve_bltT (cv_int) rfl s.n_int (by decide +kernel) (vab_cons (vl_var (i := 1)) vab_nil)) ve_int) (ve_bin (opv_add ⟨s.lib, tk, hr, du⟩) ve_int (ve_bin (opv_mod ⟨s.lib, tk, hr, du⟩) (ve_bltT (cv_int) rfl s.n_int (by decide +kernel) (vab_cons (vl_var (i := 3)) vab_nil)) ve_int))))
    (vss_one (vs_set nd (i := 2) (ve_bin (opv_mul ⟨s.lib, tk, hr, du⟩) (ve_bin (opv_mod ⟨s.lib, tk, hr, du⟩) (ve_bltT (cv_int) rfl s.n_int (by decide +kernel) (vab_cons (vl_var (i := 2)) vab_nil)) ve_int) (ve_bin (opv_add ⟨s.lib, tk, hr, du⟩) ve_int (ve_bin (opv_mod ⟨s.lib, tk, hr, du⟩) (ve_bltT (cv_int) rfl s.n_int (by decide +kernel) (vab_cons (vl_var (i := 3)) vab_nil)) ve_int)))))) vss_nil)
    (vss_cut (vs_if (vt_cmp (opv_eq ⟨s.lib, tk, hr, du⟩) (ve_ix (vl_var (i := 4)) ve_int) ve_int (nomark _)) (vss_cons (vs_set nd (i := 2) (ve_bin (opv_mod ⟨s.lib, tk, hr, du⟩) (ve_bltT (cv_int) rfl s.n_int (by decide +kernel) (vab_cons (vl_var (i := 2)) vab_nil)) (ve_bin (opv_pow ⟨s.lib, tk, hr, du⟩) ve_int ve_int)))
    (vss_one (vs_set nd (i := 1) (ve_bin (opv_mul ⟨s.lib, tk, hr, du⟩) (ve_var (i := 2)) (ve_bin (opv_mod ⟨s.lib, tk, hr, du⟩) (ve_bltT (cv_int) rfl s.n_int (by decide +kernel) (vab_cons (vl_var (i := 3)) vab_nil)) (ve_bin (opv_pow ⟨s.lib, tk, hr, du⟩) ve_int ve_int)))))) vss_nil)
    (vss_cut (vs_if (vt_cmp (opv_eq ⟨s.lib, tk, hr, du⟩) (ve_ix (vl_var (i := 4)) ve_int) ve_int (nomark _)) (vss_cons (vs_set nd (i := 1) (ve_bin (opv_mod ⟨s.lib, tk, hr, du⟩) (ve_bltT (cv_int) rfl s.n_int (by decide +kernel) (vab_cons (vl_var (i := 1)) vab_nil)) (ve_bin (opv_pow ⟨s.lib, tk, hr, du⟩) ve_int ve_int)))
    (vss_one (vs_set nd (i := 2) (ve_bin (opv_mul ⟨s.lib, tk, hr, du⟩) (ve_var (i := 1)) (ve_bin (opv_mod ⟨s.lib, tk, hr, du⟩) (ve_bltT (cv_int) rfl s.n_int (by decide +kernel) (vab_cons (vl_var (i := 3)) vab_nil)) (ve_bin (opv_pow ⟨s.lib, tk, hr, du⟩) ve_int ve_int)))))) vss_nil)
    (vss_cut (vs_if (vt_cmp (opv_eq ⟨s.lib, tk, hr, du⟩) (ve_ix (vl_var (i := 4)) ve_int) ve_int (nomark _)) (vss_one (vs_set nd (i := 1) ve_int)) vss_nil)
    (vss_cut (vs_if (vt_cmp (opv_eq ⟨s.lib, tk, hr, du⟩) (ve_ix (vl_var (i := 4)) ve_int) ve_int (nomark _)) (vss_one (vs_set nd (i := 2) ve_int)) vss_nil)
    (vss_cut (vs_if (vt_cmp (opv_eq ⟨s.lib, tk, hr, du⟩) (ve_ix (vl_var (i := 4)) ve_int) ve_int (nomark _)) (vss_one (vs_set nd (i := 1) (ve_bin (opv_sub ⟨s.lib, tk, hr, du⟩) ve_int (ve_var (i := 1))))) vss_nil)
    (vss_cut (vs_if (vt_cmp (opv_eq ⟨s.lib, tk, hr, du⟩) (ve_ix (vl_var (i := 4)) ve_int) ve_int (nomark _)) (vss_one (vs_set nd (i := 2) (ve_bin (opv_sub ⟨s.lib, tk, hr, du⟩) ve_int (ve_var (i := 2))))) vss_nil)
    (vss_one (vs_ret (ve_tup (va_cons (ve_var (i := 1)) (va_cons (ve_var (i := 2)) va_nil)))))))))))))))))
theorem d__law_shows {P : Program} {w : World} {K : PySem.W.Frag} {mg : Str → Option Value} {base : Heap} (s : Sx K mg) {r : Nat} (C__law_is_ratio_1 : FnV P w K mg base (tab K) r (ga K "_law_is_ratio") [false] [] sp__law_is_ratio) (P_Ratio_whole : FnV P w K mg base (tab K) r (pga K (ma K (ga K "Ratio") "whole")) [false] [] sp_Ratio_whole) (du : ∀ c m sp, dn c m = some sp → c < (tab K).n → DnOk P w K mg base (tab K) r c m m.ms sp) {f : Addr} {cdv : Value} {A : Around} {outer : List Env} {st : Shared} {H : Hp} {E : XK} (hr : Room (r + 2) (A.deeper (envOfC "_law_shows" (defScope s__law_shows) st.heap.objs.size f cdv))) :
    VSs (cxOf (L2.CX P w) P w K mg base ["x", "top", "under", "text"] "_law_shows" (defScope s__law_shows) f cdv A outer st H E) (tab K) (fun cls d _ H => E cls d H) z0 (defBody s__law_shows) t__law_shows := by
  have hr0 := hr.mono (Nat.le_add_right r 2)
  have hr1 := hr.mono (show r + 1 ≤ r + 2 by omega)
  have tk : Takes (cxOf (L2.CX P w) P w K mg base ["x", "top", "under", "text"] "_law_shows" (defScope s__law_shows) f cdv A outer st H E) (fun cls d _ H => E cls d H) := takes_of rfl rfl rfl rfl
  have po : PassesOwn (model P w) (Cx.A (cxOf (L2.CX P w) P w K mg base ["x", "top", "under", "text"] "_law_shows" (defScope s__law_shows) f cdv A outer st H E)) (Cx.env (cxOf (L2.CX P w) P w K mg base ["x", "top", "under", "text"] "_law_shows" (defScope s__law_shows) f cdv A outer st H E)) (Cx.xe (cxOf (L2.CX P w) P w K mg base ["x", "top", "under", "text"] "_law_shows" (defScope s__law_shows) f cdv A outer st H E)) := passes_of (X := (cxOf (L2.CX P w) P w K mg base ["x", "top", "under", "text"] "_law_shows" (defScope s__law_shows) f cdv A outer st H E)) rfl
  have nd : (["x", "top", "under", "text"] : List Str).Nodup := by decide
  exact (vss_cons (vs_if (vt_w (vw_or (vt_not (vt_ofB (VLr.toB (VE.toL (ve_call C__law_is_ratio_1 hr0 tk rfl s.g__law_is_ratio (va_cons (ve_var (i := 0)) va_nil)))))) (vw_one' (vt_cmp (opv_ne ⟨s.lib, tk, hr, du⟩) (ve_bin (opv_mul ⟨s.lib, tk, hr, du⟩) (ve_fld s.lib (vb_var (i := 0)) (fl_top K)) (ve_var (i := 2))) (ve_bin (opv_mul ⟨s.lib, tk, hr, du⟩) (ve_var (i := 1)) (ve_fld s.lib (vb_var (i := 0)) (fl_under K))) (nomark _))))) (vss_one (vs_ret ve_bl)) vss_nil)
    (vss_cons (vs_set nd (i := 3) (ve_bltT (cv_str ⟨s.lib, tk, hr, du⟩) rfl s.n_str (by decide +kernel) (vab_cons (VE.toL (ve_fld s.lib (vb_var (i := 0)) (fl_top K))) vab_nil)))
    (vss_cons (vs_if (vt_cmp (opv_eq ⟨s.lib, tk, hr, du⟩) (ve_fld s.lib (vb_var (i := 0)) (fl_under K)) ve_int (nomark _)) (vss_one (vs_ret (ve_and (ve_cmpB opb_is (VE.toB (ve_prop s.lib (ve_var (i := 0)) s.p_Ratio_whole P_Ratio_whole hr1)) (VE.toB ve_bl) (nomark _)) (ve_one (ve_cmp (opv_eq ⟨s.lib, tk, hr, du⟩) (ve_bltT (cv_str ⟨s.lib, tk, hr, du⟩) rfl s.n_str (by decide +kernel) (vab_cons (vl_var (i := 0)) vab_nil)) (ve_var (i := 3)) (nomark _)))))) vss_nil)
    (vss_one (vs_ret (ve_and (ve_cmpB opb_is (VE.toB (ve_prop s.lib (ve_var (i := 0)) s.p_Ratio_whole P_Ratio_whole hr1)) (VE.toB ve_bl) (nomark _)) (ve_one (ve_cmp (opv_eq ⟨s.lib, tk, hr, du⟩) (ve_bltT (cv_str ⟨s.lib, tk, hr, du⟩) rfl s.n_str (by decide +kernel) (vab_cons (vl_var (i := 0)) vab_nil)) (ve_bin (opv_add ⟨s.lib, tk, hr, du⟩) (ve_bin (opv_add ⟨s.lib, tk, hr, du⟩) (ve_var (i := 3)) ve_str) (ve_bltT (cv_str ⟨s.lib, tk, hr, du⟩) rfl s.n_str (by decide +kernel) (vab_cons (VE.toL (ve_fld s.lib (vb_var (i := 0)) (fl_under K))) vab_nil))) (nomark _)))))))))
theorem d__law_refused {P : Program} {w : World} {K : PySem.W.Frag} {mg : Str → Option Value} {base : Heap} (s : Sx K mg) {r : Nat} (M_Ratio_2 : MkV P w K mg base (tab K) r 0 [false, false] [] sp_Ratio___init__) (du : ∀ c m sp, dn c m = some sp → c < (tab K).n → DnOk P w K mg base (tab K) r c m m.ms sp) {f : Addr} {cdv : Value} {A : Around} {outer : List Env} {st : Shared} {H : Hp} {E : XK} (hr : Room (r + 2) (A.deeper (envOfC "_law_refused" (defScope s__law_refused) st.heap.objs.size f cdv))) :
    VSs (cxOf (L2.CX P w) P w K mg base ["top", "told", "e"] "_law_refused" (defScope s__law_refused) f cdv A outer st H E) (tab K) (fun cls d _ H => E cls d H) z0 (defBody s__law_refused) t__law_refused := by
  have hr0 := hr.mono (Nat.le_add_right r 2)
  have hr1 := hr.mono (show r + 1 ≤ r + 2 by omega)
  have tk : Takes (cxOf (L2.CX P w) P w K mg base ["top", "told", "e"] "_law_refused" (defScope s__law_refused) f cdv A outer st H E) (fun cls d _ H => E cls d H) := takes_of rfl rfl rfl rfl
  have po : PassesOwn (model P w) (Cx.A (cxOf (L2.CX P w) P w K mg base ["top", "told", "e"] "_law_refused" (defScope s__law_refused) f cdv A outer st H E)) (Cx.env (cxOf (L2.CX P w) P w K mg base ["top", "told", "e"] "_law_refused" (defScope s__law_refused) f cdv A outer st H E)) (Cx.xe (cxOf (L2.CX P w) P w K mg base ["top", "told", "e"] "_law_refused" (defScope s__law_refused) f cdv A outer st H E)) := passes_of (X := (cxOf (L2.CX P w) P w K mg base ["top", "told", "e"] "_law_refused" (defScope s__law_refused) f cdv A outer st H E)) rfl
  have nd : (["top", "told", "e"] : List Str).Nodup := by decide
  exact (vss_cons (vs_set nd (i := 1) (ve_lst va_nil))
    (vss_cons (vs_tryAs (i := 2) rfl rfl nd ⟨rfl, by decide, .inl s.g_WatchError⟩ tk s.e_WatchError (fun W pn xe tk po => (vss_one (vs_expr (ve_make M_Ratio_2 hr1 tk rfl s.g_Ratio (va_cons (ve_var (i := 0)) (va_cons ve_int va_nil)))))) (fun a oe cls d pn hz hf => (vss_one (vs_set nd (i := 1) (ve_lst (va_cons (ve_isX (i := 2) (cvV := .ref (ga K "ZeroUnder")) (cv := .ref (ga K "ZeroUnder")) hz hf (fun u h => h) s.x_ZeroUnder rfl s.n_isinstance (pe_glob rfl s.g_ZeroUnder rfl)) (va_cons (ve_isX (i := 2) (cvV := .ty "ValueError") (cv := .type "ValueError") hz hf (fun u h => h) s.x_ValueError rfl s.n_isinstance (pe_bltn (v := .ty "ValueError") rfl s.n_ValueError (by decide +kernel) rfl)) (va_cons (ve_isX (i := 2) (cvV := .ref (ga K "BadNumber")) (cv := .ref (ga K "BadNumber")) hz hf (fun u h => h) s.x_BadNumber rfl s.n_isinstance (pe_glob rfl s.g_BadNumber rfl)) (va_cons (ve_isX (i := 2) (cvV := .ref (ga K "Refused")) (cv := .ref (ga K "Refused")) hz hf (fun u h => h) s.x_Refused rfl s.n_isinstance (pe_glob rfl s.g_Refused rfl)) va_nil)))))))))
    (vss_one (vs_ret (ve_cmp (opv_eq ⟨s.lib, tk, hr, du⟩) (ve_var (i := 1)) (ve_lst (va_cons ve_bl (va_cons ve_bl (va_cons ve_bl (va_cons ve_bl va_nil))))) (nomark _))))))
theorem d__law_part_a {P : Program} {w : World} {K : PySem.W.Frag} {mg : Str → Option Value} {base : Heap} (s : Sx K mg) {r : Nat} (C__law_numbers_1 : FnV P w K mg base (tab K) r (ga K "_law_numbers") [false] [] sp__law_numbers) (C__law_refused_1 : FnV P w K mg base (tab K) r (ga K "_law_refused") [false] [] sp__law_refused) (M_Ratio_1 : MkV P w K mg base (tab K) r 0 [false] [.int 1] sp_Ratio___init__) (C__law_shows_3 : FnV P w K mg base (tab K) r (ga K "_law_shows") [false, false, false] [] sp__law_shows) (C_as_ratio_1 : FnV P w K mg base (tab K) r (ga K "as_ratio") [false] [] sp_as_ratio) (M_Ratio_2 : MkV P w K mg base (tab K) r 0 [false, false] [] sp_Ratio___init__) (du : ∀ c m sp, dn c m = some sp → c < (tab K).n → DnOk P w K mg base (tab K) r c m m.ms sp) {f : Addr} {cdv : Value} {A : Around} {outer : List Env} {st : Shared} {H : Hp} {E : XK} (hr : Room (r + 2) (A.deeper (envOfC "_law_part_a" (defScope s__law_part_a) st.heap.objs.size f cdv))) :
    VSs (cxOf (L2.CX P w) P w K mg base ["script", "top", "under", "first"] "_law_part_a" (defScope s__law_part_a) f cdv A outer st H E) (tab K) (fun cls d _ H => E cls d H) z0 (defBody s__law_part_a) t__law_part_a := by
  have hr0 := hr.mono (Nat.le_add_right r 2)
  have hr1 := hr.mono (show r + 1 ≤ r + 2 by omega)
  have tk : Takes (cxOf (L2.CX P w) P w K mg base ["script", "top", "under", "first"] "_law_part_a" (defScope s__law_part_a) f cdv A outer st H E) (fun cls d _ H => E cls d H) := takes_of rfl rfl rfl rfl
  have po : PassesOwn (model P w) (Cx.A (cxOf (L2.CX P w) P w K mg base ["script", "top", "under", "first"] "_law_part_a" (defScope s__law_part_a) f cdv A outer st H E)) (Cx.env (cxOf (L2.CX P w) P w K mg base ["script", "top", "under", "first"] "_law_part_a" (defScope s__law_part_a) f cdv A outer st H E)) (Cx.xe (cxOf (L2.CX P w) P w K mg base ["script", "top", "under", "first"] "_law_part_a" (defScope s__law_part_a) f cdv A outer st H E)) := passes_of (X := (cxOf (L2.CX P w) P w K mg base ["script", "top", "under", "first"] "_law_part_a" (defScope s__law_part_a) f cdv A outer st H E)) rfl
  have nd : (["script", "top", "under", "first"] : List Str).Nodup := by decide
  exact (vss_cons (vs_unp (ve_call C__law_numbers_1 hr0 tk rfl s.g__law_numbers (va_cons (ve_var (i := 0)) va_nil)) (vg_tup rfl (vgs_cons (vg_nm nd (i := 1)) (vgs_cons (vg_nm nd (i := 2)) vgs_nil))))
    (vss_cons (vs_if (vt_w (vw_or (vt_not (vt_ofB (VLr.toB (VE.toL (ve_call C__law_refused_1 hr0 tk rfl s.g__law_refused (va_cons (ve_var (i := 1)) va_nil)))))) (vw_one' (vt_not (vt_ofB (VLr.toB (VE.toL (ve_call C__law_refused_1 hr0 tk rfl s.g__law_refused (va_cons ve_int va_nil))))))))) (vss_one (vs_ret ve_bl)) vss_nil)
    (vss_cons (vs_if (vt_w (vw_or (vt_not (vt_ofB (VLr.toB (VE.toL (ve_call C__law_shows_3 hr0 tk rfl s.g__law_shows (va_cons (ve_make M_Ratio_1 hr1 tk rfl s.g_Ratio (va_cons (ve_var (i := 1)) va_nil)) (va_cons (ve_var (i := 1)) (va_cons ve_int va_nil)))))))) (vw_one' (vt_not (vt_ofB (VLr.toB (VE.toL (ve_call C__law_shows_3 hr0 tk rfl s.g__law_shows (va_cons (ve_call C_as_ratio_1 hr0 tk rfl s.g_as_ratio (va_cons (ve_var (i := 1)) va_nil)) (va_cons (ve_var (i := 1)) (va_cons ve_int va_nil))))))))))) (vss_one (vs_ret ve_bl)) vss_nil)
    (vss_cons (vs_if (vt_cmp (opv_eq ⟨s.lib, tk, hr, du⟩) (ve_var (i := 2)) ve_int (nomark _)) (vss_one (vs_ret ve_bl)) vss_nil)
    (vss_cons (vs_set nd (i := 3) (ve_make M_Ratio_2 hr1 tk rfl s.g_Ratio (va_cons (ve_var (i := 1)) (va_cons (ve_var (i := 2)) va_nil))))
    (vss_cons (vs_if (vt_w (vw_or (vt_not (vt_ofB (VLr.toB (VE.toL (ve_call C__law_shows_3 hr0 tk rfl s.g__law_shows (va_cons (ve_var (i := 3)) (va_cons (ve_var (i := 1)) (va_cons (ve_var (i := 2)) va_nil)))))))) (vw_one' (vt_not (vt_ofB (VLr.toB (VE.toL (ve_call C__law_shows_3 hr0 tk rfl s.g__law_shows (va_cons (ve_call C_as_ratio_1 hr0 tk rfl s.g_as_ratio (va_cons (ve_var (i := 3)) va_nil)) (va_cons (ve_var (i := 1)) (va_cons (ve_var (i := 2)) va_nil))))))))))) (vss_one (vs_ret ve_bl)) vss_nil)
    (vss_cons (vs_if (vt_w (vw_or (vt_not (vt_ofB (VLr.toB (VE.toL (ve_call C__law_shows_3 hr0 tk rfl s.g__law_shows (va_cons (ve_make M_Ratio_2 hr1 tk rfl s.g_Ratio (va_cons (ve_bin (opv_sub ⟨s.lib, tk, hr, du⟩) ve_int (ve_var (i := 1))) (va_cons (ve_bin (opv_sub ⟨s.lib, tk, hr, du⟩) ve_int (ve_var (i := 2))) va_nil))) (va_cons (ve_var (i := 1)) (va_cons (ve_var (i := 2)) va_nil)))))))) (vw_one' (vt_not (vt_ofB (VLr.toB (VE.toL (ve_call C__law_shows_3 hr0 tk rfl s.g__law_shows (va_cons (ve_make M_Ratio_2 hr1 tk rfl s.g_Ratio (va_cons (ve_bin (opv_sub ⟨s.lib, tk, hr, du⟩) ve_int (ve_var (i := 1))) (va_cons (ve_var (i := 2)) va_nil))) (va_cons (ve_bin (opv_sub ⟨s.lib, tk, hr, du⟩) ve_int (ve_var (i := 1))) (va_cons (ve_var (i := 2)) va_nil))))))))))) (vss_one (vs_ret ve_bl)) vss_nil)
    (vss_cons (vs_if (vt_w (vw_and (vt_cmp (opv_ne ⟨s.lib, tk, hr, du⟩) (ve_var (i := 1)) ve_int (nomark _)) (vw_one (vt_not (vt_ofB (VLr.toB (VE.toL (ve_call C__law_shows_3 hr0 tk rfl s.g__law_shows (va_cons (ve_make M_Ratio_2 hr1 tk rfl s.g_Ratio (va_cons (ve_var (i := 2)) (va_cons (ve_var (i := 1)) va_nil))) (va_cons (ve_var (i := 2)) (va_cons (ve_var (i := 1)) va_nil))))))))))) (vss_one (vs_ret ve_bl)) vss_nil)
    (vss_one (vs_ret (ve_and (ve_call C__law_shows_3 hr0 tk rfl s.g__law_shows (va_cons (ve_make M_Ratio_2 hr1 tk rfl s.g_Ratio (va_cons (ve_fld s.lib (vb_var (i := 3)) (fl_top K)) (va_cons (ve_fld s.lib (vb_var (i := 3)) (fl_under K)) va_nil))) (va_cons (ve_var (i := 1)) (va_cons (ve_var (i := 2)) va_nil)))) (ve_one (ve_call C__law_shows_3 hr0 tk rfl s.g__law_shows (va_cons (ve_var (i := 3)) (va_cons (ve_var (i := 1)) (va_cons (ve_var (i := 2)) va_nil))))))))))))))))
theorem d__law_worth {P : Program} {w : World} {K : PySem.W.Frag} {mg : Str → Option Value} {base : Heap} (s : Sx K mg) {r : Nat} (C__law_is_ratio_1 : FnV P w K mg base (tab K) r (ga K "_law_is_ratio") [false] [] sp__law_is_ratio) (du : ∀ c m sp, dn c m = some sp → c < (tab K).n → DnOk P w K mg base (tab K) r c m m.ms sp) {f : Addr} {cdv : Value} {A : Around} {outer : List Env} {st : Shared} {H : Hp} {E : XK} (hr : Room (r + 2) (A.deeper (envOfC "_law_worth" (defScope s__law_worth) st.heap.objs.size f cdv))) :
    VSs (cxOf (L2.CX P w) P w K mg base ["x", "top", "under"] "_law_worth" (defScope s__law_worth) f cdv A outer st H E) (tab K) (fun cls d _ H => E cls d H) z0 (defBody s__law_worth) t__law_worth := by
  have hr0 := hr.mono (Nat.le_add_right r 2)
  have hr1 := hr.mono (show r + 1 ≤ r + 2 by omega)
  have tk : Takes (cxOf (L2.CX P w) P w K mg base ["x", "top", "under"] "_law_worth" (defScope s__law_worth) f cdv A outer st H E) (fun cls d _ H => E cls d H) := takes_of rfl rfl rfl rfl
  have po : PassesOwn (model P w) (Cx.A (cxOf (L2.CX P w) P w K mg base ["x", "top", "under"] "_law_worth" (defScope s__law_worth) f cdv A outer st H E)) (Cx.env (cxOf (L2.CX P w) P w K mg base ["x", "top", "under"] "_law_worth" (defScope s__law_worth) f cdv A outer st H E)) (Cx.xe (cxOf (L2.CX P w) P w K mg base ["x", "top", "under"] "_law_worth" (defScope s__law_worth) f cdv A outer st H E)) := passes_of (X := (cxOf (L2.CX P w) P w K mg base ["x", "top", "under"] "_law_worth" (defScope s__law_worth) f cdv A outer st H E)) rfl
  have nd : (["x", "top", "under"] : List Str).Nodup := by decide
  exact (vss_one (vs_ret (ve_and (ve_call C__law_is_ratio_1 hr0 tk rfl s.g__law_is_ratio (va_cons (ve_var (i := 0)) va_nil)) (ve_one (ve_cmp (opv_eq ⟨s.lib, tk, hr, du⟩) (ve_bin (opv_mul ⟨s.lib, tk, hr, du⟩) (ve_fld s.lib (vb_var (i := 0)) (fl_top K)) (ve_var (i := 2))) (ve_bin (opv_mul ⟨s.lib, tk, hr, du⟩) (ve_var (i := 1)) (ve_fld s.lib (vb_var (i := 0)) (fl_under K))) (nomark _))))))
theorem d__law_fraction {P : Program} {w : World} {K : PySem.W.Frag} {mg : Str → Option Value} {base : Heap} (s : Sx K mg) {r : Nat} (C__law_cell_2 : FnV P w K mg base (tab K) r (ga K "_law_cell") [false, false] [] sp__law_cell) (C__law_digits_2 : FnV P w K mg base (tab K) r (ga K "_law_digits") [false, false] [] sp__law_digits) (du : ∀ c m sp, dn c m = some sp → c < (tab K).n → DnOk P w K mg base (tab K) r c m m.ms sp) {f : Addr} {cdv : Value} {A : Around} {outer : List Env} {st : Shared} {H : Hp} {E : XK} (hr : Room (r + 2) (A.deeper (envOfC "_law_fraction" (defScope s__law_fraction) st.heap.objs.size f cdv))) :
    VSs (cxOf (L2.CX P w) P w K mg base ["script", "k", "size", "top", "under"] "_law_fraction" (defScope s__law_fraction) f cdv A outer st H E) (tab K) (fun cls d _ H => E cls d H) z0 (defBody s__law_fraction) t__law_fraction := by
  have hr0 := hr.mono (Nat.le_add_right r 2)
  have hr1 := hr.mono (show r + 1 ≤ r + 2 by omega)
  have tk : Takes (cxOf (L2.CX P w) P w K mg base ["script", "k", "size", "top", "under"] "_law_fraction" (defScope s__law_fraction) f cdv A outer st H E) (fun cls d _ H => E cls d H) := takes_of rfl rfl rfl rfl
  have po : PassesOwn (model P w) (Cx.A (cxOf (L2.CX P w) P w K mg base ["script", "k", "size", "top", "under"] "_law_fraction" (defScope s__law_fraction) f cdv A outer st H E)) (Cx.env (cxOf (L2.CX P w) P w K mg base ["script", "k", "size", "top", "under"] "_law_fraction" (defScope s__law_fraction) f cdv A outer st H E)) (Cx.xe (cxOf (L2.CX P w) P w K mg base ["script", "k", "size", "top", "under"] "_law_fraction" (defScope s__law_fraction) f cdv A outer st H E)) := passes_of (X := (cxOf (L2.CX P w) P w K mg base ["script", "k", "size", "top", "under"] "_law_fraction" (defScope s__law_fraction) f cdv A outer st H E)) rfl
  have nd : (["script", "k", "size", "top", "under"] : List Str).Nodup := by decide
  exact (vss_cons (vs_set nd (i := 3) (ve_call C__law_digits_2 hr0 tk rfl s.g__law_digits (va_cons (ve_call C__law_cell_2 hr0 tk rfl s.g__law_cell (va_cons (ve_var (i := 0)) (va_cons (ve_var (i := 1)) va_nil))) (va_cons (ve_bin (opv_add ⟨s.lib, tk, hr, du⟩) ve_int (ve_var (i := 1))) va_nil))))
    (vss_cons (vs_set nd (i := 4) (ve_call C__law_digits_2 hr0 tk rfl s.g__law_digits (va_cons (ve_call C__law_cell_2 hr0 tk rfl s.g__law_cell (va_cons (ve_var (i := 0)) (va_cons (ve_bin (opv_add ⟨s.lib, tk, hr, du⟩) (ve_var (i := 1)) ve_int) va_nil))) (va_cons (ve_bin (opv_add ⟨s.lib, tk, hr, du⟩) ve_int (ve_var (i := 1))) va_nil))))
    (vss_cons (vs_if (vt_cmp (opv_eq ⟨s.lib, tk, hr, du⟩) (ve_var (i := 2)) ve_int (nomark _)) (vss_cons (vs_set nd (i := 3) (ve_bin (opv_mod ⟨s.lib, tk, hr, du⟩) (ve_bltT (cv_int) rfl s.n_int (by decide +kernel) (vab_cons (vl_var (i := 3)) vab_nil)) ve_int))
    (vss_one (vs_set nd (i := 4) (ve_bin (opv_mod ⟨s.lib, tk, hr, du⟩) (ve_bltT (cv_int) rfl s.n_int (by decide +kernel) (vab_cons (vl_var (i := 4)) vab_nil)) ve_int)))) vss_nil)
    (vss_cons (vs_if (vt_cmp (opv_ge ⟨s.lib, tk, hr, du⟩) (ve_var (i := 2)) ve_int (nomark _)) (vss_cons (vs_set nd (i := 3) (ve_bin (opv_mod ⟨s.lib, tk, hr, du⟩) (ve_bltT (cv_int) rfl s.n_int (by decide +kernel) (vab_cons (vl_var (i := 3)) vab_nil)) (ve_bin (opv_pow ⟨s.lib, tk, hr, du⟩) ve_int ve_int)))
    (vss_one (vs_set nd (i := 4) (ve_bin (opv_mod ⟨s.lib, tk, hr, du⟩) (ve_bltT (cv_int) rfl s.n_int (by decide +kernel) (vab_cons (vl_var (i := 4)) vab_nil)) (ve_bin (opv_pow ⟨s.lib, tk, hr, du⟩) ve_int ve_int))))) vss_nil)
    (vss_one (vs_ret (ve_tup (va_cons (ve_var (i := 3)) (va_cons (ve_bin (opv_add ⟨s.lib, tk, hr, du⟩) ve_int (ve_bin (opv_mod ⟨s.lib, tk, hr, du⟩) (ve_bltT (cv_int) rfl s.n_int (by decide +kernel) (vab_cons (vl_var (i := 4)) vab_nil)) (ve_bin (opv_sub ⟨s.lib, tk, hr, du⟩) (ve_bin (opv_pow ⟨s.lib, tk, hr, du⟩) ve_int ve_int) ve_int))) va_nil)))))))))
theorem d__law_power_to_21 {P : Program} {w : World} {K : PySem.W.Frag} {mg : Str → Option Value} {base : Heap} (s : Sx K mg) {r : Nat}  (du : ∀ c m sp, dn c m = some sp → c < (tab K).n → DnOk P w K mg base (tab K) r c m m.ms sp) {f : Addr} {cdv : Value} {A : Around} {outer : List Env} {st : Shared} {H : Hp} {E : XK} (hr : Room (r + 2) (A.deeper (envOfC "_law_power_to_21" (defScope s__law_power_to_21) st.heap.objs.size f cdv))) :
    VSs (cxOf (L2.CX P w) P w K mg base ["x", "n"] "_law_power_to_21" (defScope s__law_power_to_21) f cdv A outer st H E) (tab K) (fun cls d _ H => E cls d H) z0 (defBody s__law_power_to_21) t__law_power_to_21 := by
  have hr0 := hr.mono (Nat.le_add_right r 2)
  have hr1 := hr.mono (show r + 1 ≤ r + 2 by omega)
  have tk : Takes (cxOf (L2.CX P w) P w K mg base ["x", "n"] "_law_power_to_21" (defScope s__law_power_to_21) f cdv A outer st H E) (fun cls d _ H => E cls d H) := takes_of rfl rfl rfl rfl
  have po : PassesOwn (model P w) (Cx.A (cxOf (L2.CX P w) P w K mg base ["x", "n"] "_law_power_to_21" (defScope s__law_power_to_21) f cdv A outer st H E)) (Cx.env (cxOf (L2.CX P w) P w K mg base ["x", "n"] "_law_power_to_21" (defScope s__law_power_to_21) f cdv A outer st H E)) (Cx.xe (cxOf (L2.CX P w) P w K mg base ["x", "n"] "_law_power_to_21" (defScope s__law_power_to_21) f cdv A outer st H E)) := passes_of (X := (cxOf (L2.CX P w) P w K mg base ["x", "n"] "_law_power_to_21" (defScope s__law_power_to_21) f cdv A outer st H E)) rfl
  have nd : (["x", "n"] : List Str).Nodup := by decide
  exact (vss_cons (vs_if (vt_cmp (opv_eq ⟨s.lib, tk, hr, du⟩) (ve_var (i := 1)) ve_int (nomark _)) (vss_one (vs_ret (ve_bin (opv_pow ⟨s.lib, tk, hr, du⟩) (ve_var (i := 0)) ve_int))) vss_nil)
    (vss_cons (vs_if (vt_cmp (opv_eq ⟨s.lib, tk, hr, du⟩) (ve_var (i := 1)) ve_int (nomark _)) (vss_one (vs_ret (ve_bin (opv_pow ⟨s.lib, tk, hr, du⟩) (ve_var (i := 0)) ve_int))) vss_nil)
    (vss_cons (vs_if (vt_cmp (opv_eq ⟨s.lib, tk, hr, du⟩) (ve_var (i := 1)) ve_int (nomark _)) (vss_one (vs_ret (ve_bin (opv_pow ⟨s.lib, tk, hr, du⟩) (ve_var (i := 0)) ve_int))) vss_nil)
    (vss_cons (vs_if (vt_cmp (opv_eq ⟨s.lib, tk, hr, du⟩) (ve_var (i := 1)) ve_int (nomark _)) (vss_one (vs_ret (ve_bin (opv_pow ⟨s.lib, tk, hr, du⟩) (ve_var (i := 0)) ve_int))) vss_nil)
    (vss_cons (vs_if (vt_cmp (opv_eq ⟨s.lib, tk, hr, du⟩) (ve_var (i := 1)) ve_int (nomark _)) (vss_one (vs_ret (ve_bin (opv_pow ⟨s.lib, tk, hr, du⟩) (ve_var (i := 0)) ve_int))) vss_nil)
    (vss_cons (vs_if (vt_cmp (opv_eq ⟨s.lib, tk, hr, du⟩) (ve_var (i := 1)) ve_int (nomark _)) (vss_one (vs_ret (ve_bin (opv_pow ⟨s.lib, tk, hr, du⟩) (ve_var (i := 0)) ve_int))) vss_nil)
    (vss_cons (vs_if (vt_cmp (opv_eq ⟨s.lib, tk, hr, du⟩) (ve_var (i := 1)) ve_int (nomark _)) (vss_one (vs_ret (ve_bin (opv_pow ⟨s.lib, tk, hr, du⟩) (ve_var (i := 0)) ve_int))) vss_nil)
    (vss_cons (vs_if (vt_cmp (opv_eq ⟨s.lib, tk, hr, du⟩) (ve_var (i := 1)) ve_int (nomark _)) (vss_one (vs_ret (ve_bin (opv_pow ⟨s.lib, tk, hr, du⟩) (ve_var (i := 0)) ve_int))) vss_nil)
    (vss_cons (vs_if (vt_cmp (opv_eq ⟨s.lib, tk, hr, du⟩) (ve_var (i := 1)) ve_int (nomark _)) (vss_one (vs_ret (ve_bin (opv_pow ⟨s.lib, tk, hr, du⟩) (ve_var (i := 0)) ve_int))) vss_nil)
    (vss_cons (vs_if (vt_cmp (opv_eq ⟨s.lib, tk, hr, du⟩) (ve_var (i := 1)) ve_int (nomark _)) (vss_one (vs_ret (ve_bin (opv_pow ⟨s.lib, tk, hr, du⟩) (ve_var (i := 0)) ve_int))) vss_nil)
    (vss_cons (vs_if (vt_cmp (opv_eq ⟨s.lib, tk, hr, du⟩) (ve_var (i := 1)) ve_int (nomark _)) (vss_one (vs_ret (ve_bin (opv_pow ⟨s.lib, tk, hr, du⟩) (ve_var (i := 0)) ve_int))) vss_nil)
    (vss_cons (vs_if (vt_cmp (opv_eq ⟨s.lib, tk, hr, du⟩) (ve_var (i := 1)) ve_int (nomark _)) (vss_one (vs_ret (ve_bin (opv_pow ⟨s.lib, tk, hr, du⟩) (ve_var (i := 0)) ve_int))) vss_nil)
    (vss_cons (vs_if (vt_cmp (opv_eq ⟨s.lib, tk, hr, du⟩) (ve_var (i := 1)) ve_int (nomark _)) (vss_one (vs_ret (ve_bin (opv_pow ⟨s.lib, tk, hr, du⟩) (ve_var (i := 0)) ve_int))) vss_nil)
    (vss_cons (vs_if (vt_cmp (opv_eq ⟨s.lib, tk, hr, du⟩) (ve_var (i := 1)) ve_int (nomark _)) (vss_one (vs_ret (ve_bin (opv_pow ⟨s.lib, tk, hr, du⟩) (ve_var (i := 0)) ve_int))) vss_nil)
    (vss_cons (vs_if (vt_cmp (opv_eq ⟨s.lib, tk, hr, du⟩) (ve_var (i := 1)) ve_int (nomark _)) (vss_one (vs_ret (ve_bin (opv_pow ⟨s.lib, tk, hr, du⟩) (ve_var (i := 0)) ve_int))) vss_nil)
    (vss_cons (vs_if (vt_cmp (opv_eq ⟨s.lib, tk, hr, du⟩) (ve_var (i := 1)) ve_int (nomark _)) (vss_one (vs_ret (ve_bin (opv_pow ⟨s.lib, tk, hr, du⟩) (ve_var (i := 0)) ve_int))) vss_nil)
    (vss_cons (vs_if (vt_cmp (opv_eq ⟨s.lib, tk, hr, du⟩) (ve_var (i := 1)) ve_int (nomark _)) (vss_one (vs_ret (ve_bin (opv_pow ⟨s.lib, tk, hr, du⟩) (ve_var (i := 0)) ve_int))) vss_nil)
    (vss_cons (vs_if (vt_cmp (opv_eq ⟨s.lib, tk, hr, du⟩) (ve_var (i := 1)) ve_int (nomark _)) (vss_one (vs_ret (ve_bin (opv_pow ⟨s.lib, tk, hr, du⟩) (ve_var (i := 0)) ve_int))) vss_nil)
    (vss_cons (vs_if (vt_cmp (opv_eq ⟨s.lib, tk, hr, du⟩) (ve_var (i := 1)) ve_int (nomark _)) (vss_one (vs_ret (ve_bin (opv_pow ⟨s.lib, tk, hr, du⟩) (ve_var (i := 0)) ve_int))) vss_nil)
    (vss_cons (vs_if (vt_cmp (opv_eq ⟨s.lib, tk, hr, du⟩) (ve_var (i := 1)) ve_int (nomark _)) (vss_one (vs_ret (ve_bin (opv_pow ⟨s.lib, tk, hr, du⟩) (ve_var (i := 0)) ve_int))) vss_nil)
    (vss_cons (vs_if (vt_cmp (opv_eq ⟨s.lib, tk, hr, du⟩) (ve_var (i := 1)) ve_int (nomark _)) (vss_one (vs_ret (ve_bin (opv_pow ⟨s.lib, tk, hr, du⟩) (ve_var (i := 0)) ve_int))) vss_nil)
    (vss_one (vs_ret (ve_bin (opv_pow ⟨s.lib, tk, hr, du⟩) (ve_var (i := 0)) ve_int))))))))))))))))))))))))
theorem d__law_power_to_43 {P : Program} {w : World} {K : PySem.W.Frag} {mg : Str → Option Value} {base : Heap} (s : Sx K mg) {r : Nat}  (du : ∀ c m sp, dn c m = some sp → c < (tab K).n → DnOk P w K mg base (tab K) r c m m.ms sp) {f : Addr} {cdv : Value} {A : Around} {outer : List Env} {st : Shared} {H : Hp} {E : XK} (hr : Room (r + 2) (A.deeper (envOfC "_law_power_to_43" (defScope s__law_power_to_43) st.heap.objs.size f cdv))) :
    VSs (cxOf (L2.CX P w) P w K mg base ["x", "n"] "_law_power_to_43" (defScope s__law_power_to_43) f cdv A outer st H E) (tab K) (fun cls d _ H => E cls d H) z0 (defBody s__law_power_to_43) t__law_power_to_43 := by
  have hr0 := hr.mono (Nat.le_add_right r 2)
  have hr1 := hr.mono (show r + 1 ≤ r + 2 by omega)
  have tk : Takes (cxOf (L2.CX P w) P w K mg base ["x", "n"] "_law_power_to_43" (defScope s__law_power_to_43) f cdv A outer st H E) (fun cls d _ H => E cls d H) := takes_of rfl rfl rfl rfl
  have po : PassesOwn (model P w) (Cx.A (cxOf (L2.CX P w) P w K mg base ["x", "n"] "_law_power_to_43" (defScope s__law_power_to_43) f cdv A outer st H E)) (Cx.env (cxOf (L2.CX P w) P w K mg base ["x", "n"] "_law_power_to_43" (defScope s__law_power_to_43) f cdv A outer st H E)) (Cx.xe (cxOf (L2.CX P w) P w K mg base ["x", "n"] "_law_power_to_43" (defScope s__law_power_to_43) f cdv A outer st H E)) := passes_of (X := (cxOf (L2.CX P w) P w K mg base ["x", "n"] "_law_power_to_43" (defScope s__law_power_to_43) f cdv A outer st H E)) rfl
  have nd : (["x", "n"] : List Str).Nodup := by decide
  exact (vss_cons (vs_if (vt_cmp (opv_eq ⟨s.lib, tk, hr, du⟩) (ve_var (i := 1)) ve_int (nomark _)) (vss_one (vs_ret (ve_bin (opv_pow ⟨s.lib, tk, hr, du⟩) (ve_var (i := 0)) ve_int))) vss_nil)
    (vss_cons (vs_if (vt_cmp (opv_eq ⟨s.lib, tk, hr, du⟩) (ve_var (i := 1)) ve_int (nomark _)) (vss_one (vs_ret (ve_bin (opv_pow ⟨s.lib, tk, hr, du⟩) (ve_var (i := 0)) ve_int))) vss_nil)
    (vss_cons (vs_if (vt_cmp (opv_eq ⟨s.lib, tk, hr, du⟩) (ve_var (i := 1)) ve_int (nomark _)) (vss_one (vs_ret (ve_bin (opv_pow ⟨s.lib, tk, hr, du⟩) (ve_var (i := 0)) ve_int))) vss_nil)
    (vss_cons (vs_if (vt_cmp (opv_eq ⟨s.lib, tk, hr, du⟩) (ve_var (i := 1)) ve_int (nomark _)) (vss_one (vs_ret (ve_bin (opv_pow ⟨s.lib, tk, hr, du⟩) (ve_var (i := 0)) ve_int))) vss_nil)
    (vss_cons (vs_if (vt_cmp (opv_eq ⟨s.lib, tk, hr, du⟩) (ve_var (i := 1)) ve_int (nomark _)) (vss_one (vs_ret (ve_bin (opv_pow ⟨s.lib, tk, hr, du⟩) (ve_var (i := 0)) ve_int))) vss_nil)
    (vss_cons (vs_if (vt_cmp (opv_eq ⟨s.lib, tk, hr, du⟩) (ve_var (i := 1)) ve_int (nomark _)) (vss_one (vs_ret (ve_bin (opv_pow ⟨s.lib, tk, hr, du⟩) (ve_var (i := 0)) ve_int))) vss_nil)
    (vss_cons (vs_if (vt_cmp (opv_eq ⟨s.lib, tk, hr, du⟩) (ve_var (i := 1)) ve_int (nomark _)) (vss_one (vs_ret (ve_bin (opv_pow ⟨s.lib, tk, hr, du⟩) (ve_var (i := 0)) ve_int))) vss_nil)
    (vss_cons (vs_if (vt_cmp (opv_eq ⟨s.lib, tk, hr, du⟩) (ve_var (i := 1)) ve_int (nomark _)) (vss_one (vs_ret (ve_bin (opv_pow ⟨s.lib, tk, hr, du⟩) (ve_var (i := 0)) ve_int))) vss_nil)
    (vss_cons (vs_if (vt_cmp (opv_eq ⟨s.lib, tk, hr, du⟩) (ve_var (i := 1)) ve_int (nomark _)) (vss_one (vs_ret (ve_bin (opv_pow ⟨s.lib, tk, hr, du⟩) (ve_var (i := 0)) ve_int))) vss_nil)
    (vss_cons (vs_if (vt_cmp (opv_eq ⟨s.lib, tk, hr, du⟩) (ve_var (i := 1)) ve_int (nomark _)) (vss_one (vs_ret (ve_bin (opv_pow ⟨s.lib, tk, hr, du⟩) (ve_var (i := 0)) ve_int))) vss_nil)
    (vss_cons (vs_if (vt_cmp (opv_eq ⟨s.lib, tk, hr, du⟩) (ve_var (i := 1)) ve_int (nomark _)) (vss_one (vs_ret (ve_bin (opv_pow ⟨s.lib, tk, hr, du⟩) (ve_var (i := 0)) ve_int))) vss_nil)
    (vss_cons (vs_if (vt_cmp (opv_eq ⟨s.lib, tk, hr, du⟩) (ve_var (i := 1)) ve_int (nomark _)) (vss_one (vs_ret (ve_bin (opv_pow ⟨s.lib, tk, hr, du⟩) (ve_var (i := 0)) ve_int))) vss_nil)
    (vss_cons (vs_if (vt_cmp (opv_eq ⟨s.lib, tk, hr, du⟩) (ve_var (i := 1)) ve_int (nomark _)) (vss_one (vs_ret (ve_bin (opv_pow ⟨s.lib, tk, hr, du⟩) (ve_var (i := 0)) ve_int))) vss_nil)
    (vss_cons (vs_if (vt_cmp (opv_eq ⟨s.lib, tk, hr, du⟩) (ve_var (i := 1)) ve_int (nomark _)) (vss_one (vs_ret (ve_bin (opv_pow ⟨s.lib, tk, hr, du⟩) (ve_var (i := 0)) ve_int))) vss_nil)
    (vss_cons (vs_if (vt_cmp (opv_eq ⟨s.lib, tk, hr, du⟩) (ve_var (i := 1)) ve_int (nomark _)) (vss_one (vs_ret (ve_bin (opv_pow ⟨s.lib, tk, hr, du⟩) (ve_var (i := 0)) ve_int))) vss_nil)
    (vss_cons (vs_if (vt_cmp (opv_eq ⟨s.lib, tk, hr, du⟩) (ve_var (i := 1)) ve_int (nomark _)) (vss_one (vs_ret (ve_bin (opv_pow ⟨s.lib, tk, hr, du⟩) (ve_var (i := 0)) ve_int))) vss_nil)
    (vss_cons (vs_if (vt_cmp (opv_eq ⟨s.lib, tk, hr, du⟩) (ve_var (i := 1)) ve_int (nomark _)) (vss_one (vs_ret (ve_bin (opv_pow ⟨s.lib, tk, hr, du⟩) (ve_var (i := 0)) ve_int))) vss_nil)
    (vss_cons (vs_if (vt_cmp (opv_eq ⟨s.lib, tk, hr, du⟩) (ve_var (i := 1)) ve_int (nomark _)) (vss_one (vs_ret (ve_bin (opv_pow ⟨s.lib, tk, hr, du⟩) (ve_var (i := 0)) ve_int))) vss_nil)
    (vss_cons (vs_if (vt_cmp (opv_eq ⟨s.lib, tk, hr, du⟩) (ve_var (i := 1)) ve_int (nomark _)) (vss_one (vs_ret (ve_bin (opv_pow ⟨s.lib, tk, hr, du⟩) (ve_var (i := 0)) ve_int))) vss_nil)
    (vss_cons (vs_if (vt_cmp (opv_eq ⟨s.lib, tk, hr, du⟩) (ve_var (i := 1)) ve_int (nomark _)) (vss_one (vs_ret (ve_bin (opv_pow ⟨s.lib, tk, hr, du⟩) (ve_var (i := 0)) ve_int))) vss_nil)
    (vss_cons (vs_if (vt_cmp (opv_eq ⟨s.lib, tk, hr, du⟩) (ve_var (i := 1)) ve_int (nomark _)) (vss_one (vs_ret (ve_bin (opv_pow ⟨s.lib, tk, hr, du⟩) (ve_var (i := 0)) ve_int))) vss_nil)
    (vss_one (vs_ret (ve_bin (opv_pow ⟨s.lib, tk, hr, du⟩) (ve_var (i := 0)) ve_int))))))))))))))))))))))))
theorem d__law_power_to_64 {P : Program} {w : World} {K : PySem.W.Frag} {mg : Str → Option Value} {base : Heap} (s : Sx K mg) {r : Nat}  (du : ∀ c m sp, dn c m = some sp → c < (tab K).n → DnOk P w K mg base (tab K) r c m m.ms sp) {f : Addr} {cdv : Value} {A : Around} {outer : List Env} {st : Shared} {H : Hp} {E : XK} (hr : Room (r + 2) (A.deeper (envOfC "_law_power_to_64" (defScope s__law_power_to_64) st.heap.objs.size f cdv))) :
    VSs (cxOf (L2.CX P w) P w K mg base ["x", "n"] "_law_power_to_64" (defScope s__law_power_to_64) f cdv A outer st H E) (tab K) (fun cls d _ H => E cls d H) z0 (defBody s__law_power_to_64) t__law_power_to_64 := by
  have hr0 := hr.mono (Nat.le_add_right r 2)
  have hr1 := hr.mono (show r + 1 ≤ r + 2 by omega)
  have tk : Takes (cxOf (L2.CX P w) P w K mg base ["x", "n"] "_law_power_to_64" (defScope s__law_power_to_64) f cdv A outer st H E) (fun cls d _ H => E cls d H) := takes_of rfl rfl rfl rfl
  have po : PassesOwn (model P w) (Cx.A (cxOf (L2.CX P w) P w K mg base ["x", "n"] "_law_power_to_64" (defScope s__law_power_to_64) f cdv A outer st H E)) (Cx.env (cxOf (L2.CX P w) P w K mg base ["x", "n"] "_law_power_to_64" (defScope s__law_power_to_64) f cdv A outer st H E)) (Cx.xe (cxOf (L2.CX P w) P w K mg base ["x", "n"] "_law_power_to_64" (defScope s__law_power_to_64) f cdv A outer st H E)) := passes_of (X := (cxOf (L2.CX P w) P w K mg base ["x", "n"] "_law_power_to_64" (defScope s__law_power_to_64) f cdv A outer st H E)) rfl
  have nd : (["x", "n"] : List Str).Nodup := by decide
  exact (vss_cons (vs_if (vt_cmp (opv_eq ⟨s.lib, tk, hr, du⟩) (ve_var (i := 1)) ve_int (nomark _)) (vss_one (vs_ret (ve_bin (opv_pow ⟨s.lib, tk, hr, du⟩) (ve_var (i := 0)) ve_int))) vss_nil)
    (vss_cons (vs_if (vt_cmp (opv_eq ⟨s.lib, tk, hr, du⟩) (ve_var (i := 1)) ve_int (nomark _)) (vss_one (vs_ret (ve_bin (opv_pow ⟨s.lib, tk, hr, du⟩) (ve_var (i := 0)) ve_int))) vss_nil)
    (vss_cons (vs_if (vt_cmp (opv_eq ⟨s.lib, tk, hr, du⟩) (ve_var (i := 1)) ve_int (nomark _)) (vss_one (vs_ret (ve_bin (opv_pow ⟨s.lib, tk, hr, du⟩) (ve_var (i := 0)) ve_int))) vss_nil)
    (vss_cons (vs_if (vt_cmp (opv_eq ⟨s.lib, tk, hr, du⟩) (ve_var (i := 1)) ve_int (nomark _)) (vss_one (vs_ret (ve_bin (opv_pow ⟨s.lib, tk, hr, du⟩) (ve_var (i := 0)) ve_int))) vss_nil)
    (vss_cons (vs_if (vt_cmp (opv_eq ⟨s.lib, tk, hr, du⟩) (ve_var (i := 1)) ve_int (nomark _)) (vss_one (vs_ret (ve_bin (opv_pow ⟨s.lib, tk, hr, du⟩) (ve_var (i := 0)) ve_int))) vss_nil)
    (vss_cons (vs_if (vt_cmp (opv_eq ⟨s.lib, tk, hr, du⟩) (ve_var (i := 1)) ve_int (nomark _)) (vss_one (vs_ret (ve_bin (opv_pow ⟨s.lib, tk, hr, du⟩) (ve_var (i := 0)) ve_int))) vss_nil)
    (vss_cons (vs_if (vt_cmp (opv_eq ⟨s.lib, tk, hr, du⟩) (ve_var (i := 1)) ve_int (nomark _)) (vss_one (vs_ret (ve_bin (opv_pow ⟨s.lib, tk, hr, du⟩) (ve_var (i := 0)) ve_int))) vss_nil)
    (vss_cons (vs_if (vt_cmp (opv_eq ⟨s.lib, tk, hr, du⟩) (ve_var (i := 1)) ve_int (nomark _)) (vss_one (vs_ret (ve_bin (opv_pow ⟨s.lib, tk, hr, du⟩) (ve_var (i := 0)) ve_int))) vss_nil)
    (vss_cons (vs_if (vt_cmp (opv_eq ⟨s.lib, tk, hr, du⟩) (ve_var (i := 1)) ve_int (nomark _)) (vss_one (vs_ret (ve_bin (opv_pow ⟨s.lib, tk, hr, du⟩) (ve_var (i := 0)) ve_int))) vss_nil)
    (vss_cons (vs_if (vt_cmp (opv_eq ⟨s.lib, tk, hr, du⟩) (ve_var (i := 1)) ve_int (nomark _)) (vss_one (vs_ret (ve_bin (opv_pow ⟨s.lib, tk, hr, du⟩) (ve_var (i := 0)) ve_int))) vss_nil)
    (vss_cons (vs_if (vt_cmp (opv_eq ⟨s.lib, tk, hr, du⟩) (ve_var (i := 1)) ve_int (nomark _)) (vss_one (vs_ret (ve_bin (opv_pow ⟨s.lib, tk, hr, du⟩) (ve_var (i := 0)) ve_int))) vss_nil)
    (vss_cons (vs_if (vt_cmp (opv_eq ⟨s.lib, tk, hr, du⟩) (ve_var (i := 1)) ve_int (nomark _)) (vss_one (vs_ret (ve_bin (opv_pow ⟨s.lib, tk, hr, du⟩) (ve_var (i := 0)) ve_int))) vss_nil)
    (vss_cons (vs_if (vt_cmp (opv_eq ⟨s.lib, tk, hr, du⟩) (ve_var (i := 1)) ve_int (nomark _)) (vss_one (vs_ret (ve_bin (opv_pow ⟨s.lib, tk, hr, du⟩) (ve_var (i := 0)) ve_int))) vss_nil)
    (vss_cons (vs_if (vt_cmp (opv_eq ⟨s.lib, tk, hr, du⟩) (ve_var (i := 1)) ve_int (nomark _)) (vss_one (vs_ret (ve_bin (opv_pow ⟨s.lib, tk, hr, du⟩) (ve_var (i := 0)) ve_int))) vss_nil)
    (vss_cons (vs_if (vt_cmp (opv_eq ⟨s.lib, tk, hr, du⟩) (ve_var (i := 1)) ve_int (nomark _)) (vss_one (vs_ret (ve_bin (opv_pow ⟨s.lib, tk, hr, du⟩) (ve_var (i := 0)) ve_int))) vss_nil)
    (vss_cons (vs_if (vt_cmp (opv_eq ⟨s.lib, tk, hr, du⟩) (ve_var (i := 1)) ve_int (nomark _)) (vss_one (vs_ret (ve_bin (opv_pow ⟨s.lib, tk, hr, du⟩) (ve_var (i := 0)) ve_int))) vss_nil)
    (vss_cons (vs_if (vt_cmp (opv_eq ⟨s.lib, tk, hr, du⟩) (ve_var (i := 1)) ve_int (nomark _)) (vss_one (vs_ret (ve_bin (opv_pow ⟨s.lib, tk, hr, du⟩) (ve_var (i := 0)) ve_int))) vss_nil)
    (vss_cons (vs_if (vt_cmp (opv_eq ⟨s.lib, tk, hr, du⟩) (ve_var (i := 1)) ve_int (nomark _)) (vss_one (vs_ret (ve_bin (opv_pow ⟨s.lib, tk, hr, du⟩) (ve_var (i := 0)) ve_int))) vss_nil)
    (vss_cons (vs_if (vt_cmp (opv_eq ⟨s.lib, tk, hr, du⟩) (ve_var (i := 1)) ve_int (nomark _)) (vss_one (vs_ret (ve_bin (opv_pow ⟨s.lib, tk, hr, du⟩) (ve_var (i := 0)) ve_int))) vss_nil)
    (vss_cons (vs_if (vt_cmp (opv_eq ⟨s.lib, tk, hr, du⟩) (ve_var (i := 1)) ve_int (nomark _)) (vss_one (vs_ret (ve_bin (opv_pow ⟨s.lib, tk, hr, du⟩) (ve_var (i := 0)) ve_int))) vss_nil)
    (vss_one (vs_ret (ve_bin (opv_pow ⟨s.lib, tk, hr, du⟩) (ve_var (i := 0)) ve_int)))))))))))))))))))))))
theorem d__law_power {P : Program} {w : World} {K : PySem.W.Frag} {mg : Str → Option Value} {base : Heap} (s : Sx K mg) {r : Nat} (C__law_power_to_21_2 : FnV P w K mg base (tab K) r (ga K "_law_power_to_21") [false, false] [] sp__law_power_to_21) (C__law_power_to_43_2 : FnV P w K mg base (tab K) r (ga K "_law_power_to_43") [false, false] [] sp__law_power_to_43) (C__law_power_to_64_2 : FnV P w K mg base (tab K) r (ga K "_law_power_to_64") [false, false] [] sp__law_power_to_64) (du : ∀ c m sp, dn c m = some sp → c < (tab K).n → DnOk P w K mg base (tab K) r c m m.ms sp) {f : Addr} {cdv : Value} {A : Around} {outer : List Env} {st : Shared} {H : Hp} {E : XK} (hr : Room (r + 2) (A.deeper (envOfC "_law_power" (defScope s__law_power) st.heap.objs.size f cdv))) :
    VSs (cxOf (L2.CX P w) P w K mg base ["x", "n"] "_law_power" (defScope s__law_power) f cdv A outer st H E) (tab K) (fun cls d _ H => E cls d H) z0 (defBody s__law_power) t__law_power := by
  have hr0 := hr.mono (Nat.le_add_right r 2)
  have hr1 := hr.mono (show r + 1 ≤ r + 2 by omega)
  have tk : Takes (cxOf (L2.CX P w) P w K mg base ["x", "n"] "_law_power" (defScope s__law_power) f cdv A outer st H E) (fun cls d _ H => E cls d H) := takes_of rfl rfl rfl rfl
  have po : PassesOwn (model P w) (Cx.A (cxOf (L2.CX P w) P w K mg base ["x", "n"] "_law_power" (defScope s__law_power) f cdv A outer st H E)) (Cx.env (cxOf (L2.CX P w) P w K mg base ["x", "n"] "_law_power" (defScope s__law_power) f cdv A outer st H E)) (Cx.xe (cxOf (L2.CX P w) P w K mg base ["x", "n"] "_law_power" (defScope s__law_power) f cdv A outer st H E)) := passes_of (X := (cxOf (L2.CX P w) P w K mg base ["x", "n"] "_law_power" (defScope s__law_power) f cdv A outer st H E)) rfl
  have nd : (["x", "n"] : List Str).Nodup := by decide
  exact (vss_cons (vs_if (vt_cmp (opv_lt ⟨s.lib, tk, hr, du⟩) (ve_var (i := 1)) ve_int (nomark _)) (vss_one (vs_ret (ve_call C__law_power_to_21_2 hr0 tk rfl s.g__law_power_to_21 (va_cons (ve_var (i := 0)) (va_cons (ve_var (i := 1)) va_nil))))) vss_nil)
    (vss_cons (vs_if (vt_cmp (opv_lt ⟨s.lib, tk, hr, du⟩) (ve_var (i := 1)) ve_int (nomark _)) (vss_one (vs_ret (ve_call C__law_power_to_43_2 hr0 tk rfl s.g__law_power_to_43 (va_cons (ve_var (i := 0)) (va_cons (ve_var (i := 1)) va_nil))))) vss_nil)
    (vss_one (vs_ret (ve_call C__law_power_to_64_2 hr0 tk rfl s.g__law_power_to_64 (va_cons (ve_var (i := 0)) (va_cons (ve_var (i := 1)) va_nil)))))))
theorem d__law_sums {P : Program} {w : World} {K : PySem.W.Frag} {mg : Str → Option Value} {base : Heap} (s : Sx K mg) {r : Nat} (C__law_worth_3 : FnV P w K mg base (tab K) r (ga K "_law_worth") [false, false, false] [] sp__law_worth) (du : ∀ c m sp, dn c m = some sp → c < (tab K).n → DnOk P w K mg base (tab K) r c m m.ms sp) {f : Addr} {cdv : Value} {A : Around} {outer : List Env} {st : Shared} {H : Hp} {E : XK} (hr : Room (r + 2) (A.deeper (envOfC "_law_sums" (defScope s__law_sums) st.heap.objs.size f cdv))) :
    VSs (cxOf (L2.CX P w) P w K mg base ["one", "two", "a", "b", "c", "d"] "_law_sums" (defScope s__law_sums) f cdv A outer st H E) (tab K) (fun cls d _ H => E cls d H) z0 (defBody s__law_sums) t__law_sums := by
  have hr0 := hr.mono (Nat.le_add_right r 2)
  have hr1 := hr.mono (show r + 1 ≤ r + 2 by omega)
  have tk : Takes (cxOf (L2.CX P w) P w K mg base ["one", "two", "a", "b", "c", "d"] "_law_sums" (defScope s__law_sums) f cdv A outer st H E) (fun cls d _ H => E cls d H) := takes_of rfl rfl rfl rfl
  have po : PassesOwn (model P w) (Cx.A (cxOf (L2.CX P w) P w K mg base ["one", "two", "a", "b", "c", "d"] "_law_sums" (defScope s__law_sums) f cdv A outer st H E)) (Cx.env (cxOf (L2.CX P w) P w K mg base ["one", "two", "a", "b", "c", "d"] "_law_sums" (defScope s__law_sums) f cdv A outer st H E)) (Cx.xe (cxOf (L2.CX P w) P w K mg base ["one", "two", "a", "b", "c", "d"] "_law_sums" (defScope s__law_sums) f cdv A outer st H E)) := passes_of (X := (cxOf (L2.CX P w) P w K mg base ["one", "two", "a", "b", "c", "d"] "_law_sums" (defScope s__law_sums) f cdv A outer st H E)) rfl
  have nd : (["one", "two", "a", "b", "c", "d"] : List Str).Nodup := by decide
  exact (vss_cons (vs_if (vt_w (vw_or (vt_not (vt_ofB (VLr.toB (VE.toL (ve_call C__law_worth_3 hr0 tk rfl s.g__law_worth (va_cons (ve_bin (opv_add ⟨s.lib, tk, hr, du⟩) (ve_var (i := 0)) (ve_var (i := 1))) (va_cons (ve_bin (opv_add ⟨s.lib, tk, hr, du⟩) (ve_bin (opv_mul ⟨s.lib, tk, hr, du⟩) (ve_var (i := 2)) (ve_var (i := 5))) (ve_bin (opv_mul ⟨s.lib, tk, hr, du⟩) (ve_var (i := 4)) (ve_var (i := 3)))) (va_cons (ve_bin (opv_mul ⟨s.lib, tk, hr, du⟩) (ve_var (i := 3)) (ve_var (i := 5))) va_nil)))))))) (vw_one' (vt_not (vt_ofB (VLr.toB (VE.toL (ve_call C__law_worth_3 hr0 tk rfl s.g__law_worth (va_cons (ve_bin (opv_sub ⟨s.lib, tk, hr, du⟩) (ve_var (i := 0)) (ve_var (i := 1))) (va_cons (ve_bin (opv_sub ⟨s.lib, tk, hr, du⟩) (ve_bin (opv_mul ⟨s.lib, tk, hr, du⟩) (ve_var (i := 2)) (ve_var (i := 5))) (ve_bin (opv_mul ⟨s.lib, tk, hr, du⟩) (ve_var (i := 4)) (ve_var (i := 3)))) (va_cons (ve_bin (opv_mul ⟨s.lib, tk, hr, du⟩) (ve_var (i := 3)) (ve_var (i := 5))) va_nil))))))))))) (vss_one (vs_ret ve_bl)) vss_nil)
    (vss_one (vs_ret (ve_call C__law_worth_3 hr0 tk rfl s.g__law_worth (va_cons (ve_bin (opv_mul ⟨s.lib, tk, hr, du⟩) (ve_var (i := 0)) (ve_var (i := 1))) (va_cons (ve_bin (opv_mul ⟨s.lib, tk, hr, du⟩) (ve_var (i := 2)) (ve_var (i := 4))) (va_cons (ve_bin (opv_mul ⟨s.lib, tk, hr, du⟩) (ve_var (i := 3)) (ve_var (i := 5))) va_nil)))))))
theorem d__law_signs {P : Program} {w : World} {K : PySem.W.Frag} {mg : Str → Option Value} {base : Heap} (s : Sx K mg) {r : Nat} (C__law_worth_3 : FnV P w K mg base (tab K) r (ga K "_law_worth") [false, false, false] [] sp__law_worth) (du : ∀ c m sp, dn c m = some sp → c < (tab K).n → DnOk P w K mg base (tab K) r c m m.ms sp) {f : Addr} {cdv : Value} {A : Around} {outer : List Env} {st : Shared} {H : Hp} {E : XK} (hr : Room (r + 2) (A.deeper (envOfC "_law_signs" (defScope s__law_signs) st.heap.objs.size f cdv))) :
    VSs (cxOf (L2.CX P w) P w K mg base ["one", "a", "b"] "_law_signs" (defScope s__law_signs) f cdv A outer st H E) (tab K) (fun cls d _ H => E cls d H) z0 (defBody s__law_signs) t__law_signs := by
  have hr0 := hr.mono (Nat.le_add_right r 2)
  have hr1 := hr.mono (show r + 1 ≤ r + 2 by omega)
  have tk : Takes (cxOf (L2.CX P w) P w K mg base ["one", "a", "b"] "_law_signs" (defScope s__law_signs) f cdv A outer st H E) (fun cls d _ H => E cls d H) := takes_of rfl rfl rfl rfl
  have po : PassesOwn (model P w) (Cx.A (cxOf (L2.CX P w) P w K mg base ["one", "a", "b"] "_law_signs" (defScope s__law_signs) f cdv A outer st H E)) (Cx.env (cxOf (L2.CX P w) P w K mg base ["one", "a", "b"] "_law_signs" (defScope s__law_signs) f cdv A outer st H E)) (Cx.xe (cxOf (L2.CX P w) P w K mg base ["one", "a", "b"] "_law_signs" (defScope s__law_signs) f cdv A outer st H E)) := passes_of (X := (cxOf (L2.CX P w) P w K mg base ["one", "a", "b"] "_law_signs" (defScope s__law_signs) f cdv A outer st H E)) rfl
  have nd : (["one", "a", "b"] : List Str).Nodup := by decide
  exact (vss_one (vs_ret (ve_and (ve_call C__law_worth_3 hr0 tk rfl s.g__law_worth (va_cons (ve_un (opu_neg ⟨s.lib, tk, hr, du⟩) (ve_var (i := 0))) (va_cons (ve_bin (opv_sub ⟨s.lib, tk, hr, du⟩) ve_int (ve_var (i := 1))) (va_cons (ve_var (i := 2)) va_nil)))) (ve_and (ve_call C__law_worth_3 hr0 tk rfl s.g__law_worth (va_cons (ve_blt (cv_abs ⟨s.lib, tk, hr, du⟩) rfl s.n_abs (by decide +kernel) (vab_cons (vl_var (i := 0)) vab_nil)) (va_cons (ve_blt (cv_abs ⟨s.lib, tk, hr, du⟩) rfl s.n_abs (by decide +kernel) (vab_cons (vl_var (i := 1)) vab_nil)) (va_cons (ve_var (i := 2)) va_nil)))) (ve_one (ve_call C__law_worth_3 hr0 tk rfl s.g__law_worth (va_cons (ve_var (i := 0)) (va_cons (ve_var (i := 1)) (va_cons (ve_var (i := 2)) va_nil)))))))))
theorem d__law_powers {P : Program} {w : World} {K : PySem.W.Frag} {mg : Str → Option Value} {base : Heap} (s : Sx K mg) {r : Nat} (C__law_power_2 : FnV P w K mg base (tab K) r (ga K "_law_power") [false, false] [] sp__law_power) (C__law_worth_3 : FnV P w K mg base (tab K) r (ga K "_law_worth") [false, false, false] [] sp__law_worth) (du : ∀ c m sp, dn c m = some sp → c < (tab K).n → DnOk P w K mg base (tab K) r c m m.ms sp) {f : Addr} {cdv : Value} {A : Around} {outer : List Env} {st : Shared} {H : Hp} {E : XK} (hr : Room (r + 2) (A.deeper (envOfC "_law_powers" (defScope s__law_powers) st.heap.objs.size f cdv))) :
    VSs (cxOf (L2.CX P w) P w K mg base ["third", "nothing", "p", "q", "n", "top", "under", "k"] "_law_powers" (defScope s__law_powers) f cdv A outer st H E) (tab K) (fun cls d _ H => E cls d H) z0 (defBody s__law_powers) t__law_powers := by
  have hr0 := hr.mono (Nat.le_add_right r 2)
  have hr1 := hr.mono (show r + 1 ≤ r + 2 by omega)
  have tk : Takes (cxOf (L2.CX P w) P w K mg base ["third", "nothing", "p", "q", "n", "top", "under", "k"] "_law_powers" (defScope s__law_powers) f cdv A outer st H E) (fun cls d _ H => E cls d H) := takes_of rfl rfl rfl rfl
  have po : PassesOwn (model P w) (Cx.A (cxOf (L2.CX P w) P w K mg base ["third", "nothing", "p", "q", "n", "top", "under", "k"] "_law_powers" (defScope s__law_powers) f cdv A outer st H E)) (Cx.env (cxOf (L2.CX P w) P w K mg base ["third", "nothing", "p", "q", "n", "top", "under", "k"] "_law_powers" (defScope s__law_powers) f cdv A outer st H E)) (Cx.xe (cxOf (L2.CX P w) P w K mg base ["third", "nothing", "p", "q", "n", "top", "under", "k"] "_law_powers" (defScope s__law_powers) f cdv A outer st H E)) := passes_of (X := (cxOf (L2.CX P w) P w K mg base ["third", "nothing", "p", "q", "n", "top", "under", "k"] "_law_powers" (defScope s__law_powers) f cdv A outer st H E)) rfl
  have nd : (["third", "nothing", "p", "q", "n", "top", "under", "k"] : List Str).Nodup := by decide
  exact (vss_cons (vs_set nd (i := 5) ve_int)
    (vss_cons (vs_set nd (i := 6) ve_int)
    (vss_cons (vs_for po rfl (vi_rng1 rfl s.n_range (ve_var (i := 4))) (vg_nm nd (i := 7)) (vss_cons (vs_set nd (i := 5) (ve_bin (opv_mul ⟨s.lib, tk, hr, du⟩) (ve_var (i := 5)) (ve_var (i := 2))))
    (vss_one (vs_set nd (i := 6) (ve_bin (opv_mul ⟨s.lib, tk, hr, du⟩) (ve_var (i := 6)) (ve_var (i := 3)))))))
    (vss_cons (vs_if (vt_w (vw_or (vt_not (vt_ofB (VLr.toB (VE.toL (ve_call C__law_worth_3 hr0 tk rfl s.g__law_worth (va_cons (ve_call C__law_power_2 hr0 tk rfl s.g__law_power (va_cons (ve_var (i := 0)) (va_cons (ve_var (i := 4)) va_nil))) (va_cons (ve_var (i := 5)) (va_cons (ve_var (i := 6)) va_nil)))))))) (vw_one' (vt_not (vt_ofB (VLr.toB (VE.toL (ve_call C__law_worth_3 hr0 tk rfl s.g__law_worth (va_cons (ve_var (i := 0)) (va_cons (ve_var (i := 2)) (va_cons (ve_var (i := 3)) va_nil))))))))))) (vss_one (vs_ret ve_bl)) vss_nil)
    (vss_one (vs_ret (ve_and (ve_call C__law_worth_3 hr0 tk rfl s.g__law_worth (va_cons (ve_call C__law_power_2 hr0 tk rfl s.g__law_power (va_cons (ve_var (i := 1)) (va_cons (ve_var (i := 4)) va_nil))) (va_cons (ve_bltT (cv_int) rfl s.n_int (by decide +kernel) (vab_cons (VE.toL (ve_cmp (opv_eq ⟨s.lib, tk, hr, du⟩) (ve_var (i := 4)) ve_int (nomark _))) vab_nil)) (va_cons ve_int va_nil)))) (ve_one (ve_call C__law_worth_3 hr0 tk rfl s.g__law_worth (va_cons (ve_bin (opv_pow ⟨s.lib, tk, hr, du⟩) (ve_var (i := 1)) ve_int) (va_cons ve_int (va_cons ve_int va_nil))))))))))))
theorem d__law_part_b {P : Program} {w : World} {K : PySem.W.Frag} {mg : Str → Option Value} {base : Heap} (s : Sx K mg) {r : Nat} (C__law_cell_2 : FnV P w K mg base (tab K) r (ga K "_law_cell") [false, false] [] sp__law_cell) (C__law_draws_3 : FnV P w K mg base (tab K) r (ga K "_law_draws") [false, false, false] [] sp__law_draws) (C__law_fraction_3 : FnV P w K mg base (tab K) r (ga K "_law_fraction") [false, false, false] [] sp__law_fraction) (M_Ratio_2 : MkV P w K mg base (tab K) r 0 [false, false] [] sp_Ratio___init__) (C__law_sums_6 : FnV P w K mg base (tab K) r (ga K "_law_sums") [false, false, false, false, false, false] [] sp__law_sums) (C__law_worth_3 : FnV P w K mg base (tab K) r (ga K "_law_worth") [false, false, false] [] sp__law_worth) (C__law_powers_5 : FnV P w K mg base (tab K) r (ga K "_law_powers") [false, false, false, false, false] [] sp__law_powers) (C__law_signs_3 : FnV P w K mg base (tab K) r (ga K "_law_signs") [false, false, false] [] sp__law_signs) (du : ∀ c m sp, dn c m = some sp → c < (tab K).n → DnOk P w K mg base (tab K) r c m m.ms sp) {f : Addr} {cdv : Value} {A : Around} {outer : List Env} {st : Shared} {H : Hp} {E : XK} (hr : Room (r + 2) (A.deeper (envOfC "_law_part_b" (defScope s__law_part_b) st.heap.objs.size f cdv))) :
    VSs (cxOf (L2.CX P w) P w K mg base ["script", "ways", "a", "b", "c", "d", "p", "q", "one", "two", "grown"] "_law_part_b" (defScope s__law_part_b) f cdv A outer st H E) (tab K) (fun cls d _ H => E cls d H) z0 (defBody s__law_part_b) t__law_part_b := by
  have hr0 := hr.mono (Nat.le_add_right r 2)
  have hr1 := hr.mono (show r + 1 ≤ r + 2 by omega)
  have tk : Takes (cxOf (L2.CX P w) P w K mg base ["script", "ways", "a", "b", "c", "d", "p", "q", "one", "two", "grown"] "_law_part_b" (defScope s__law_part_b) f cdv A outer st H E) (fun cls d _ H => E cls d H) := takes_of rfl rfl rfl rfl
  have po : PassesOwn (model P w) (Cx.A (cxOf (L2.CX P w) P w K mg base ["script", "ways", "a", "b", "c", "d", "p", "q", "one", "two", "grown"] "_law_part_b" (defScope s__law_part_b) f cdv A outer st H E)) (Cx.env (cxOf (L2.CX P w) P w K mg base ["script", "ways", "a", "b", "c", "d", "p", "q", "one", "two", "grown"] "_law_part_b" (defScope s__law_part_b) f cdv A outer st H E)) (Cx.xe (cxOf (L2.CX P w) P w K mg base ["script", "ways", "a", "b", "c", "d", "p", "q", "one", "two", "grown"] "_law_part_b" (defScope s__law_part_b) f cdv A outer st H E)) := passes_of (X := (cxOf (L2.CX P w) P w K mg base ["script", "ways", "a", "b", "c", "d", "p", "q", "one", "two", "grown"] "_law_part_b" (defScope s__law_part_b) f cdv A outer st H E)) rfl
  have nd : (["script", "ways", "a", "b", "c", "d", "p", "q", "one", "two", "grown"] : List Str).Nodup := by decide
  exact (vss_cons (vs_set nd (i := 1) (ve_call C__law_draws_3 hr0 tk rfl s.g__law_draws (va_cons (ve_call C__law_cell_2 hr0 tk rfl s.g__law_cell (va_cons (ve_var (i := 0)) (va_cons ve_int va_nil))) (va_cons ve_int (va_cons (ve_lst (va_cons ve_int (va_cons ve_int (va_cons ve_int (va_cons ve_int (va_cons ve_int (va_cons ve_int (va_cons ve_int va_nil)))))))) va_nil)))))
    (vss_cons (vs_unp (ve_call C__law_fraction_3 hr0 tk rfl s.g__law_fraction (va_cons (ve_var (i := 0)) (va_cons ve_int (va_cons (ve_ix (vl_var (i := 1)) ve_int) va_nil)))) (vg_tup rfl (vgs_cons (vg_nm nd (i := 2)) (vgs_cons (vg_nm nd (i := 3)) vgs_nil))))
    (vss_cons (vs_unp (ve_call C__law_fraction_3 hr0 tk rfl s.g__law_fraction (va_cons (ve_var (i := 0)) (va_cons ve_int (va_cons (ve_ix (vl_var (i := 1)) ve_int) va_nil)))) (vg_tup rfl (vgs_cons (vg_nm nd (i := 4)) (vgs_cons (vg_nm nd (i := 5)) vgs_nil))))
    (vss_cons (vs_unp (ve_call C__law_fraction_3 hr0 tk rfl s.g__law_fraction (va_cons (ve_var (i := 0)) (va_cons ve_int (va_cons (ve_bin (opv_sub ⟨s.lib, tk, hr, du⟩) ve_int (ve_ix (vl_var (i := 1)) ve_int)) va_nil)))) (vg_tup rfl (vgs_cons (vg_nm nd (i := 6)) (vgs_cons (vg_nm nd (i := 7)) vgs_nil))))
    (vss_cut (vs_if (vt_cmp (opv_eq ⟨s.lib, tk, hr, du⟩) (ve_ix (vl_var (i := 1)) ve_int) ve_int (nomark _)) (vss_one (vs_set nd (i := 2) (ve_bin (opv_sub ⟨s.lib, tk, hr, du⟩) ve_int (ve_var (i := 2))))) vss_nil)
    (vss_cut (vs_if (vt_cmp (opv_eq ⟨s.lib, tk, hr, du⟩) (ve_ix (vl_var (i := 1)) ve_int) ve_int (nomark _)) (vss_one (vs_set nd (i := 4) (ve_bin (opv_sub ⟨s.lib, tk, hr, du⟩) ve_int (ve_var (i := 4))))) vss_nil)
    (vss_cut (vs_if (vt_cmp (opv_eq ⟨s.lib, tk, hr, du⟩) (ve_ix (vl_var (i := 1)) ve_int) ve_int (nomark _)) (vss_one (vs_set nd (i := 6) (ve_bin (opv_sub ⟨s.lib, tk, hr, du⟩) ve_int (ve_var (i := 6))))) vss_nil)
    (vss_cut (vs_if (vt_cmp (opv_le ⟨s.lib, tk, hr, du⟩) (ve_ix (vl_var (i := 1)) ve_int) ve_int (nomark _)) (vss_one (vs_set nd (i := 5) (ve_var (i := 3)))) vss_nil)
    (vss_cut (vs_if (vt_cmp (opv_eq ⟨s.lib, tk, hr, du⟩) (ve_ix (vl_var (i := 1)) ve_int) ve_int (nomark _)) (vss_one (vs_set nd (i := 4) (ve_bin (opv_sub ⟨s.lib, tk, hr, du⟩) ve_int (ve_var (i := 2))))) vss_nil)
    (vss_cons (vs_set nd (i := 8) (ve_make M_Ratio_2 hr1 tk rfl s.g_Ratio (va_cons (ve_var (i := 2)) (va_cons (ve_var (i := 3)) va_nil))))
    (vss_cons (vs_set nd (i := 9) (ve_make M_Ratio_2 hr1 tk rfl s.g_Ratio (va_cons (ve_var (i := 4)) (va_cons (ve_var (i := 5)) va_nil))))
    (vss_cons (vs_if (vt_w (vw_or (vt_not (vt_ofB (VLr.toB (VE.toL (ve_call C__law_sums_6 hr0 tk rfl s.g__law_sums (va_cons (ve_var (i := 8)) (va_cons (ve_var (i := 9)) (va_cons (ve_var (i := 2)) (va_cons (ve_var (i := 3)) (va_cons (ve_var (i := 4)) (va_cons (ve_var (i := 5)) va_nil))))))))))) (vw_one' (vt_not (vt_ofB (VLr.toB (VE.toL (ve_call C__law_sums_6 hr0 tk rfl s.g__law_sums (va_cons (ve_var (i := 9)) (va_cons (ve_var (i := 8)) (va_cons (ve_var (i := 4)) (va_cons (ve_var (i := 5)) (va_cons (ve_var (i := 2)) (va_cons (ve_var (i := 3)) va_nil)))))))))))))) (vss_one (vs_ret ve_bl)) vss_nil)
    (vss_cons (vs_if (vt_w (vw_or (vt_not (vt_ofB (VLr.toB (VE.toL (ve_call C__law_sums_6 hr0 tk rfl s.g__law_sums (va_cons (ve_var (i := 8)) (va_cons (ve_var (i := 4)) (va_cons (ve_var (i := 2)) (va_cons (ve_var (i := 3)) (va_cons (ve_var (i := 4)) (va_cons ve_int va_nil))))))))))) (vw_or (vt_not (vt_ofB (VLr.toB (VE.toL (ve_call C__law_sums_6 hr0 tk rfl s.g__law_sums (va_cons (ve_var (i := 4)) (va_cons (ve_var (i := 8)) (va_cons (ve_var (i := 4)) (va_cons ve_int (va_cons (ve_var (i := 2)) (va_cons (ve_var (i := 3)) va_nil))))))))))) (vw_one' (vt_not (vt_ofB (VLr.toB (VE.toL (ve_call C__law_sums_6 hr0 tk rfl s.g__law_sums (va_cons (ve_var (i := 8)) (va_cons (ve_var (i := 8)) (va_cons (ve_var (i := 2)) (va_cons (ve_var (i := 3)) (va_cons (ve_var (i := 2)) (va_cons (ve_var (i := 3)) va_nil))))))))))))))) (vss_one (vs_ret ve_bl)) vss_nil)
    (vss_cons (vs_if (vt_not (vt_ofB (VLr.toB (VE.toL (ve_call C__law_worth_3 hr0 tk rfl s.g__law_worth (va_cons (ve_bin (opv_mul ⟨s.lib, tk, hr, du⟩) (ve_bin (opv_add ⟨s.lib, tk, hr, du⟩) (ve_var (i := 8)) (ve_var (i := 9))) (ve_bin (opv_sub ⟨s.lib, tk, hr, du⟩) (ve_var (i := 8)) (ve_var (i := 9)))) (va_cons (ve_bin (opv_mul ⟨s.lib, tk, hr, du⟩) (ve_bin (opv_add ⟨s.lib, tk, hr, du⟩) (ve_bin (opv_mul ⟨s.lib, tk, hr, du⟩) (ve_var (i := 2)) (ve_var (i := 5))) (ve_bin (opv_mul ⟨s.lib, tk, hr, du⟩) (ve_var (i := 4)) (ve_var (i := 3)))) (ve_bin (opv_sub ⟨s.lib, tk, hr, du⟩) (ve_bin (opv_mul ⟨s.lib, tk, hr, du⟩) (ve_var (i := 2)) (ve_var (i := 5))) (ve_bin (opv_mul ⟨s.lib, tk, hr, du⟩) (ve_var (i := 4)) (ve_var (i := 3))))) (va_cons (ve_bin (opv_mul ⟨s.lib, tk, hr, du⟩) (ve_bin (opv_mul ⟨s.lib, tk, hr, du⟩) (ve_bin (opv_mul ⟨s.lib, tk, hr, du⟩) (ve_var (i := 3)) (ve_var (i := 5))) (ve_var (i := 3))) (ve_var (i := 5))) va_nil)))))))) (vss_one (vs_ret ve_bl)) vss_nil)
    (vss_cons (vs_if (vt_not (vt_ofB (VLr.toB (VE.toL (ve_call C__law_powers_5 hr0 tk rfl s.g__law_powers (va_cons (ve_make M_Ratio_2 hr1 tk rfl s.g_Ratio (va_cons (ve_var (i := 6)) (va_cons (ve_var (i := 7)) va_nil))) (va_cons (ve_bin (opv_sub ⟨s.lib, tk, hr, du⟩) (ve_var (i := 8)) (ve_var (i := 8))) (va_cons (ve_var (i := 6)) (va_cons (ve_var (i := 7)) (va_cons (ve_ix (vl_var (i := 1)) ve_int) va_nil)))))))))) (vss_one (vs_ret ve_bl)) vss_nil)
    (vss_cons (vs_set nd (i := 10) (ve_var (i := 8)))
    (vss_cons (vs_aug nd (i := 10) (opv_iadd ⟨s.lib, tk, hr, du⟩) (ve_var (i := 9)))
    (vss_cons (vs_aug nd (i := 10) (opv_imul ⟨s.lib, tk, hr, du⟩) (ve_var (i := 9)))
    (vss_cons (vs_if (vt_not (vt_ofB (VLr.toB (VE.toL (ve_call C__law_worth_3 hr0 tk rfl s.g__law_worth (va_cons (ve_var (i := 10)) (va_cons (ve_bin (opv_mul ⟨s.lib, tk, hr, du⟩) (ve_bin (opv_add ⟨s.lib, tk, hr, du⟩) (ve_bin (opv_mul ⟨s.lib, tk, hr, du⟩) (ve_var (i := 2)) (ve_var (i := 5))) (ve_bin (opv_mul ⟨s.lib, tk, hr, du⟩) (ve_var (i := 4)) (ve_var (i := 3)))) (ve_var (i := 4))) (va_cons (ve_bin (opv_mul ⟨s.lib, tk, hr, du⟩) (ve_bin (opv_mul ⟨s.lib, tk, hr, du⟩) (ve_var (i := 3)) (ve_var (i := 5))) (ve_var (i := 5))) va_nil)))))))) (vss_one (vs_ret ve_bl)) vss_nil)
    (vss_cons (vs_aug nd (i := 10) (opv_isub ⟨s.lib, tk, hr, du⟩) (ve_var (i := 8)))
    (vss_cons (vs_if (vt_not (vt_ofB (VLr.toB (VE.toL (ve_call C__law_worth_3 hr0 tk rfl s.g__law_worth (va_cons (ve_var (i := 10)) (va_cons (ve_bin (opv_sub ⟨s.lib, tk, hr, du⟩) (ve_bin (opv_mul ⟨s.lib, tk, hr, du⟩) (ve_bin (opv_mul ⟨s.lib, tk, hr, du⟩) (ve_bin (opv_add ⟨s.lib, tk, hr, du⟩) (ve_bin (opv_mul ⟨s.lib, tk, hr, du⟩) (ve_var (i := 2)) (ve_var (i := 5))) (ve_bin (opv_mul ⟨s.lib, tk, hr, du⟩) (ve_var (i := 4)) (ve_var (i := 3)))) (ve_var (i := 4))) (ve_var (i := 3))) (ve_bin (opv_mul ⟨s.lib, tk, hr, du⟩) (ve_bin (opv_mul ⟨s.lib, tk, hr, du⟩) (ve_bin (opv_mul ⟨s.lib, tk, hr, du⟩) (ve_var (i := 2)) (ve_var (i := 3))) (ve_var (i := 5))) (ve_var (i := 5)))) (va_cons (ve_bin (opv_mul ⟨s.lib, tk, hr, du⟩) (ve_bin (opv_mul ⟨s.lib, tk, hr, du⟩) (ve_bin (opv_mul ⟨s.lib, tk, hr, du⟩) (ve_var (i := 3)) (ve_var (i := 5))) (ve_var (i := 5))) (ve_var (i := 3))) va_nil)))))))) (vss_one (vs_ret ve_bl)) vss_nil)
    (vss_one (vs_ret (ve_and (ve_call C__law_signs_3 hr0 tk rfl s.g__law_signs (va_cons (ve_var (i := 9)) (va_cons (ve_var (i := 4)) (va_cons (ve_var (i := 5)) va_nil)))) (ve_one (ve_call C__law_signs_3 hr0 tk rfl s.g__law_signs (va_cons (ve_var (i := 8)) (va_cons (ve_var (i := 2)) (va_cons (ve_var (i := 3)) va_nil)))))))))))))))))))))))))))))
theorem d__law_fraction_c {P : Program} {w : World} {K : PySem.W.Frag} {mg : Str → Option Value} {base : Heap} (s : Sx K mg) {r : Nat} (C__law_cell_2 : FnV P w K mg base (tab K) r (ga K "_law_cell") [false, false] [] sp__law_cell) (C__law_digits_2 : FnV P w K mg base (tab K) r (ga K "_law_digits") [false, false] [] sp__law_digits) (du : ∀ c m sp, dn c m = some sp → c < (tab K).n → DnOk P w K mg base (tab K) r c m m.ms sp) {f : Addr} {cdv : Value} {A : Around} {outer : List Env} {st : Shared} {H : Hp} {E : XK} (hr : Room (r + 2) (A.deeper (envOfC "_law_fraction_c" (defScope s__law_fraction_c) st.heap.objs.size f cdv))) :
    VSs (cxOf (L2.CX P w) P w K mg base ["script", "k", "size", "top", "under"] "_law_fraction_c" (defScope s__law_fraction_c) f cdv A outer st H E) (tab K) (fun cls d _ H => E cls d H) z0 (defBody s__law_fraction_c) t__law_fraction_c := by
  have hr0 := hr.mono (Nat.le_add_right r 2)
  have hr1 := hr.mono (show r + 1 ≤ r + 2 by omega)
  have tk : Takes (cxOf (L2.CX P w) P w K mg base ["script", "k", "size", "top", "under"] "_law_fraction_c" (defScope s__law_fraction_c) f cdv A outer st H E) (fun cls d _ H => E cls d H) := takes_of rfl rfl rfl rfl
  have po : PassesOwn (model P w) (Cx.A (cxOf (L2.CX P w) P w K mg base ["script", "k", "size", "top", "under"] "_law_fraction_c" (defScope s__law_fraction_c) f cdv A outer st H E)) (Cx.env (cxOf (L2.CX P w) P w K mg base ["script", "k", "size", "top", "under"] "_law_fraction_c" (defScope s__law_fraction_c) f cdv A outer st H E)) (Cx.xe (cxOf (L2.CX P w) P w K mg base ["script", "k", "size", "top", "under"] "_law_fraction_c" (defScope s__law_fraction_c) f cdv A outer st H E)) := passes_of (X := (cxOf (L2.CX P w) P w K mg base ["script", "k", "size", "top", "under"] "_law_fraction_c" (defScope s__law_fraction_c) f cdv A outer st H E)) rfl
  have nd : (["script", "k", "size", "top", "under"] : List Str).Nodup := by decide
  exact (vss_cons (vs_set nd (i := 3) (ve_call C__law_digits_2 hr0 tk rfl s.g__law_digits (va_cons (ve_call C__law_cell_2 hr0 tk rfl s.g__law_cell (va_cons (ve_var (i := 0)) (va_cons (ve_var (i := 1)) va_nil))) (va_cons (ve_bin (opv_add ⟨s.lib, tk, hr, du⟩) ve_int (ve_var (i := 1))) va_nil))))
    (vss_cons (vs_set nd (i := 4) (ve_call C__law_digits_2 hr0 tk rfl s.g__law_digits (va_cons (ve_call C__law_cell_2 hr0 tk rfl s.g__law_cell (va_cons (ve_var (i := 0)) (va_cons (ve_bin (opv_add ⟨s.lib, tk, hr, du⟩) (ve_var (i := 1)) ve_int) va_nil))) (va_cons (ve_bin (opv_add ⟨s.lib, tk, hr, du⟩) ve_int (ve_var (i := 1))) va_nil))))
    (vss_cons (vs_if (vt_cmp (opv_eq ⟨s.lib, tk, hr, du⟩) (ve_var (i := 2)) ve_int (nomark _)) (vss_cons (vs_set nd (i := 3) (ve_bin (opv_mod ⟨s.lib, tk, hr, du⟩) (ve_bltT (cv_int) rfl s.n_int (by decide +kernel) (vab_cons (vl_var (i := 3)) vab_nil)) ve_int))
    (vss_one (vs_set nd (i := 4) (ve_bin (opv_mod ⟨s.lib, tk, hr, du⟩) (ve_bltT (cv_int) rfl s.n_int (by decide +kernel) (vab_cons (vl_var (i := 4)) vab_nil)) ve_int)))) vss_nil)
    (vss_cons (vs_if (vt_cmp (opv_eq ⟨s.lib, tk, hr, du⟩) (ve_var (i := 2)) ve_int (nomark _)) (vss_cons (vs_set nd (i := 3) (ve_bin (opv_mod ⟨s.lib, tk, hr, du⟩) (ve_bltT (cv_int) rfl s.n_int (by decide +kernel) (vab_cons (vl_var (i := 3)) vab_nil)) (ve_bin (opv_pow ⟨s.lib, tk, hr, du⟩) ve_int ve_int)))
    (vss_one (vs_set nd (i := 4) (ve_bin (opv_mod ⟨s.lib, tk, hr, du⟩) (ve_bltT (cv_int) rfl s.n_int (by decide +kernel) (vab_cons (vl_var (i := 4)) vab_nil)) (ve_bin (opv_pow ⟨s.lib, tk, hr, du⟩) ve_int ve_int))))) vss_nil)
    (vss_cons (vs_if (vt_cmp (opv_eq ⟨s.lib, tk, hr, du⟩) (ve_var (i := 2)) ve_int (nomark _)) (vss_cons (vs_set nd (i := 3) (ve_bin (opv_mod ⟨s.lib, tk, hr, du⟩) (ve_bltT (cv_int) rfl s.n_int (by decide +kernel) (vab_cons (vl_var (i := 3)) vab_nil)) (ve_bin (opv_pow ⟨s.lib, tk, hr, du⟩) ve_int ve_int)))
    (vss_one (vs_set nd (i := 4) (ve_bin (opv_mod ⟨s.lib, tk, hr, du⟩) (ve_bltT (cv_int) rfl s.n_int (by decide +kernel) (vab_cons (vl_var (i := 4)) vab_nil)) (ve_bin (opv_pow ⟨s.lib, tk, hr, du⟩) ve_int ve_int))))) vss_nil)
    (vss_one (vs_ret (ve_tup (va_cons (ve_var (i := 3)) (va_cons (ve_bin (opv_add ⟨s.lib, tk, hr, du⟩) ve_int (ve_bin (opv_mod ⟨s.lib, tk, hr, du⟩) (ve_bltT (cv_int) rfl s.n_int (by decide +kernel) (vab_cons (vl_var (i := 4)) vab_nil)) (ve_bin (opv_sub ⟨s.lib, tk, hr, du⟩) (ve_bin (opv_pow ⟨s.lib, tk, hr, du⟩) ve_int ve_int) ve_int))) va_nil))))))))))
theorem d__law_two_fractions {P : Program} {w : World} {K : PySem.W.Frag} {mg : Str → Option Value} {base : Heap} (s : Sx K mg) {r : Nat} (C__law_cell_2 : FnV P w K mg base (tab K) r (ga K "_law_cell") [false, false] [] sp__law_cell) (C__law_draws_3 : FnV P w K mg base (tab K) r (ga K "_law_draws") [false, false, false] [] sp__law_draws) (C__law_fraction_c_3 : FnV P w K mg base (tab K) r (ga K "_law_fraction_c") [false, false, false] [] sp__law_fraction_c) (C__law_digits_2 : FnV P w K mg base (tab K) r (ga K "_law_digits") [false, false] [] sp__law_digits) (du : ∀ c m sp, dn c m = some sp → c < (tab K).n → DnOk P w K mg base (tab K) r c m m.ms sp) {f : Addr} {cdv : Value} {A : Around} {outer : List Env} {st : Shared} {H : Hp} {E : XK} (hr : Room (r + 2) (A.deeper (envOfC "_law_two_fractions" (defScope s__law_two_fractions) st.heap.objs.size f cdv))) :
    VSs (cxOf (L2.CX P w) P w K mg base ["script", "ways", "size", "a", "b", "c", "d", "factor"] "_law_two_fractions" (defScope s__law_two_fractions) f cdv A outer st H E) (tab K) (fun cls d _ H => E cls d H) z0 (defBody s__law_two_fractions) t__law_two_fractions := by
  have hr0 := hr.mono (Nat.le_add_right r 2)
  have hr1 := hr.mono (show r + 1 ≤ r + 2 by omega)
  have tk : Takes (cxOf (L2.CX P w) P w K mg base ["script", "ways", "size", "a", "b", "c", "d", "factor"] "_law_two_fractions" (defScope s__law_two_fractions) f cdv A outer st H E) (fun cls d _ H => E cls d H) := takes_of rfl rfl rfl rfl
  have po : PassesOwn (model P w) (Cx.A (cxOf (L2.CX P w) P w K mg base ["script", "ways", "size", "a", "b", "c", "d", "factor"] "_law_two_fractions" (defScope s__law_two_fractions) f cdv A outer st H E)) (Cx.env (cxOf (L2.CX P w) P w K mg base ["script", "ways", "size", "a", "b", "c", "d", "factor"] "_law_two_fractions" (defScope s__law_two_fractions) f cdv A outer st H E)) (Cx.xe (cxOf (L2.CX P w) P w K mg base ["script", "ways", "size", "a", "b", "c", "d", "factor"] "_law_two_fractions" (defScope s__law_two_fractions) f cdv A outer st H E)) := passes_of (X := (cxOf (L2.CX P w) P w K mg base ["script", "ways", "size", "a", "b", "c", "d", "factor"] "_law_two_fractions" (defScope s__law_two_fractions) f cdv A outer st H E)) rfl
  have nd : (["script", "ways", "size", "a", "b", "c", "d", "factor"] : List Str).Nodup := by decide
  exact (vss_cons (vs_set nd (i := 1) (ve_call C__law_draws_3 hr0 tk rfl s.g__law_draws (va_cons (ve_call C__law_cell_2 hr0 tk rfl s.g__law_cell (va_cons (ve_var (i := 0)) (va_cons ve_int va_nil))) (va_cons ve_int (va_cons (ve_lst (va_cons ve_int (va_cons ve_int (va_cons ve_int (va_cons ve_int va_nil))))) va_nil)))))
    (vss_cons (vs_set nd (i := 2) (ve_ix (vl_var (i := 1)) ve_int))
    (vss_cut (vs_if (vt_w (vw_and (vt_cmp (opv_le ⟨s.lib, tk, hr, du⟩) (ve_ix (vl_var (i := 1)) ve_int) ve_int (nomark _)) (vw_one (vt_cmp (opv_eq ⟨s.lib, tk, hr, du⟩) (ve_var (i := 2)) ve_int (nomark _))))) (vss_one (vs_set nd (i := 2) ve_int)) vss_nil)
    (vss_cons (vs_unp (ve_call C__law_fraction_c_3 hr0 tk rfl s.g__law_fraction_c (va_cons (ve_var (i := 0)) (va_cons ve_int (va_cons (ve_var (i := 2)) va_nil)))) (vg_tup rfl (vgs_cons (vg_nm nd (i := 3)) (vgs_cons (vg_nm nd (i := 4)) vgs_nil))))
    (vss_cons (vs_unp (ve_call C__law_fraction_c_3 hr0 tk rfl s.g__law_fraction_c (va_cons (ve_var (i := 0)) (va_cons ve_int (va_cons (ve_var (i := 2)) va_nil)))) (vg_tup rfl (vgs_cons (vg_nm nd (i := 5)) (vgs_cons (vg_nm nd (i := 6)) vgs_nil))))
    (vss_cons (vs_set nd (i := 7) (ve_bin (opv_add ⟨s.lib, tk, hr, du⟩) ve_int (ve_bin (opv_mod ⟨s.lib, tk, hr, du⟩) (ve_bltT (cv_int) rfl s.n_int (by decide +kernel) (vab_cons (VE.toL (ve_call C__law_digits_2 hr0 tk rfl s.g__law_digits (va_cons (ve_call C__law_cell_2 hr0 tk rfl s.g__law_cell (va_cons (ve_var (i := 0)) (va_cons ve_int va_nil))) (va_cons ve_int va_nil)))) vab_nil)) (ve_bin (opv_pow ⟨s.lib, tk, hr, du⟩) ve_int ve_int))))
    (vss_cut (vs_if (vt_cmp (opv_eq ⟨s.lib, tk, hr, du⟩) (ve_var (i := 2)) ve_int (nomark _)) (vss_one (vs_set nd (i := 7) (ve_bin (opv_add ⟨s.lib, tk, hr, du⟩) ve_int (ve_bin (opv_mod ⟨s.lib, tk, hr, du⟩) (ve_bltT (cv_int) rfl s.n_int (by decide +kernel) (vab_cons (vl_var (i := 7)) vab_nil)) ve_int)))) vss_nil)
    (vss_cut (vs_if (vt_cmp (opv_eq ⟨s.lib, tk, hr, du⟩) (ve_ix (vl_var (i := 1)) ve_int) ve_int (nomark _)) (vss_cons (vs_set nd (i := 5) (ve_var (i := 3)))
    (vss_cons (vs_set nd (i := 3) (ve_bin (opv_mul ⟨s.lib, tk, hr, du⟩) (ve_var (i := 3)) (ve_var (i := 4))))
    (vss_one (vs_set nd (i := 6) ve_int)))) vss_nil)
    (vss_cut (vs_if (vt_cmp (opv_eq ⟨s.lib, tk, hr, du⟩) (ve_ix (vl_var (i := 1)) ve_int) ve_int (nomark _)) (vss_cons (vs_set nd (i := 3) (ve_bin (opv_sub ⟨s.lib, tk, hr, du⟩) ve_int (ve_var (i := 3))))
    (vss_one (vs_set nd (i := 5) (ve_bin (opv_sub ⟨s.lib, tk, hr, du⟩) ve_int (ve_var (i := 5)))))) vss_nil)
    (vss_cut (vs_if (vt_w (vw_and (vt_cmp (opv_eq ⟨s.lib, tk, hr, du⟩) (ve_ix (vl_var (i := 1)) ve_int) ve_int (nomark _)) (vw_one (vt_cmp (opv_ge ⟨s.lib, tk, hr, du⟩) (ve_ix (vl_var (i := 1)) ve_int) ve_int (nomark _))))) (vss_one (vs_set nd (i := 5) (ve_bin (opv_sub ⟨s.lib, tk, hr, du⟩) ve_int (ve_var (i := 5))))) vss_nil)
    (vss_cut (vs_if (vt_cmp (opv_le ⟨s.lib, tk, hr, du⟩) (ve_ix (vl_var (i := 1)) ve_int) ve_int (nomark _)) (vss_cons (vs_set nd (i := 5) (ve_bin (opv_add ⟨s.lib, tk, hr, du⟩) (ve_bin (opv_mul ⟨s.lib, tk, hr, du⟩) (ve_var (i := 3)) (ve_var (i := 7))) (ve_ix (vl_var (i := 1)) ve_int)))
    (vss_one (vs_set nd (i := 6) (ve_bin (opv_mul ⟨s.lib, tk, hr, du⟩) (ve_var (i := 4)) (ve_var (i := 7)))))) vss_nil)
    (vss_cut (vs_if (vt_cmp (opv_eq ⟨s.lib, tk, hr, du⟩) (ve_ix (vl_var (i := 1)) ve_int) ve_int (nomark _)) (vss_one (vs_set nd (i := 5) ve_int)) vss_nil)
    (vss_one (vs_ret (ve_tup (va_cons (ve_var (i := 3)) (va_cons (ve_var (i := 4)) (va_cons (ve_var (i := 5)) (va_cons (ve_var (i := 6)) va_nil)))))))))))))))))))
theorem d__law_orders {P : Program} {w : World} {K : PySem.W.Frag} {mg : Str → Option Value} {base : Heap} (s : Sx K mg) {r : Nat}  (du : ∀ c m sp, dn c m = some sp → c < (tab K).n → DnOk P w K mg base (tab K) r c m m.ms sp) {f : Addr} {cdv : Value} {A : Around} {outer : List Env} {st : Shared} {H : Hp} {E : XK} (hr : Room (r + 2) (A.deeper (envOfC "_law_orders" (defScope s__law_orders) st.heap.objs.size f cdv))) :
    VSs (cxOf (L2.CX P w) P w K mg base ["one", "two", "left", "right", "found", "due", "k"] "_law_orders" (defScope s__law_orders) f cdv A outer st H E) (tab K) (fun cls d _ H => E cls d H) z0 (defBody s__law_orders) t__law_orders := by
  have hr0 := hr.mono (Nat.le_add_right r 2)
  have hr1 := hr.mono (show r + 1 ≤ r + 2 by omega)
  have tk : Takes (cxOf (L2.CX P w) P w K mg base ["one", "two", "left", "right", "found", "due", "k"] "_law_orders" (defScope s__law_orders) f cdv A outer st H E) (fun cls d _ H => E cls d H) := takes_of rfl rfl rfl rfl
  have po : PassesOwn (model P w) (Cx.A (cxOf (L2.CX P w) P w K mg base ["one", "two", "left", "right", "found", "due", "k"] "_law_orders" (defScope s__law_orders) f cdv A outer st H E)) (Cx.env (cxOf (L2.CX P w) P w K mg base ["one", "two", "left", "right", "found", "due", "k"] "_law_orders" (defScope s__law_orders) f cdv A outer st H E)) (Cx.xe (cxOf (L2.CX P w) P w K mg base ["one", "two", "left", "right", "found", "due", "k"] "_law_orders" (defScope s__law_orders) f cdv A outer st H E)) := passes_of (X := (cxOf (L2.CX P w) P w K mg base ["one", "two", "left", "right", "found", "due", "k"] "_law_orders" (defScope s__law_orders) f cdv A outer st H E)) rfl
  have nd : (["one", "two", "left", "right", "found", "due", "k"] : List Str).Nodup := by decide
  exact (vss_cons (vs_set nd (i := 4) (ve_lst (va_cons (ve_cmp (opv_lt ⟨s.lib, tk, hr, du⟩) (ve_var (i := 0)) (ve_var (i := 1)) (nomark _)) (va_cons (ve_cmp (opv_le ⟨s.lib, tk, hr, du⟩) (ve_var (i := 0)) (ve_var (i := 1)) (nomark _)) (va_cons (ve_cmp (opv_gt ⟨s.lib, tk, hr, du⟩) (ve_var (i := 0)) (ve_var (i := 1)) (nomark _)) (va_cons (ve_cmp (opv_ge ⟨s.lib, tk, hr, du⟩) (ve_var (i := 0)) (ve_var (i := 1)) (nomark _)) (va_cons (ve_cmp (opv_eq ⟨s.lib, tk, hr, du⟩) (ve_var (i := 0)) (ve_var (i := 1)) (nomark _)) (va_cons (ve_cmp (opv_ne ⟨s.lib, tk, hr, du⟩) (ve_var (i := 0)) (ve_var (i := 1)) (nomark _)) va_nil))))))))
    (vss_cons (vs_set nd (i := 5) (ve_lst (va_cons (ve_cmp (opv_lt ⟨s.lib, tk, hr, du⟩) (ve_var (i := 2)) (ve_var (i := 3)) (nomark _)) (va_cons (ve_cmp (opv_le ⟨s.lib, tk, hr, du⟩) (ve_var (i := 2)) (ve_var (i := 3)) (nomark _)) (va_cons (ve_cmp (opv_gt ⟨s.lib, tk, hr, du⟩) (ve_var (i := 2)) (ve_var (i := 3)) (nomark _)) (va_cons (ve_cmp (opv_ge ⟨s.lib, tk, hr, du⟩) (ve_var (i := 2)) (ve_var (i := 3)) (nomark _)) (va_cons (ve_cmp (opv_eq ⟨s.lib, tk, hr, du⟩) (ve_var (i := 2)) (ve_var (i := 3)) (nomark _)) (va_cons (ve_cmp (opv_ne ⟨s.lib, tk, hr, du⟩) (ve_var (i := 2)) (ve_var (i := 3)) (nomark _)) va_nil))))))))
    (vss_cons (vs_for po rfl (vi_rng1 rfl s.n_range ve_int) (vg_nm nd (i := 6)) (vss_one (vs_if (vt_w (vw_or (vt_w (vw_and (vt_ofB (VLr.toB (VE.toL (ve_ix (vl_var (i := 5)) (ve_var (i := 6)))))) (vw_one (vt_cmpB opb_isNot (VE.toB (ve_ix (vl_var (i := 4)) (ve_var (i := 6)))) (VE.toB ve_bl) (nomark _))))) (vw_one' (vt_w (vw_and (vt_not (vt_ofB (VLr.toB (VE.toL (ve_ix (vl_var (i := 5)) (ve_var (i := 6))))))) (vw_one (vt_cmpB opb_isNot (VE.toB (ve_ix (vl_var (i := 4)) (ve_var (i := 6)))) (VE.toB ve_bl) (nomark _)))))))) (vss_one (vs_ret ve_bl)) vss_nil)))
    (vss_one (vs_ret ve_bl)))))
theorem d__law_rounded {P : Program} {w : World} {K : PySem.W.Frag} {mg : Str → Option Value} {base : Heap} (s : Sx K mg) {r : Nat} (D_Ratio_floor_0 : FnV P w K mg base (tab K) r (ma K ((tab K).cls 0) "floor") [false] [] sp_Ratio_floor) (D_Ratio_ceiling_0 : FnV P w K mg base (tab K) r (ma K ((tab K).cls 0) "ceiling") [false] [] sp_Ratio_ceiling) (C__law_is_int_1 : FnV P w K mg base (tab K) r (ga K "_law_is_int") [false] [] sp__law_is_int) (du : ∀ c m sp, dn c m = some sp → c < (tab K).n → DnOk P w K mg base (tab K) r c m m.ms sp) {f : Addr} {cdv : Value} {A : Around} {outer : List Env} {st : Shared} {H : Hp} {E : XK} (hr : Room (r + 2) (A.deeper (envOfC "_law_rounded" (defScope s__law_rounded) st.heap.objs.size f cdv))) :
    VSs (cxOf (L2.CX P w) P w K mg base ["one", "a", "b", "low", "high"] "_law_rounded" (defScope s__law_rounded) f cdv A outer st H E) (tab K) (fun cls d _ H => E cls d H) z0 (defBody s__law_rounded) t__law_rounded := by
  have hr0 := hr.mono (Nat.le_add_right r 2)
  have hr1 := hr.mono (show r + 1 ≤ r + 2 by omega)
  have tk : Takes (cxOf (L2.CX P w) P w K mg base ["one", "a", "b", "low", "high"] "_law_rounded" (defScope s__law_rounded) f cdv A outer st H E) (fun cls d _ H => E cls d H) := takes_of rfl rfl rfl rfl
  have po : PassesOwn (model P w) (Cx.A (cxOf (L2.CX P w) P w K mg base ["one", "a", "b", "low", "high"] "_law_rounded" (defScope s__law_rounded) f cdv A outer st H E)) (Cx.env (cxOf (L2.CX P w) P w K mg base ["one", "a", "b", "low", "high"] "_law_rounded" (defScope s__law_rounded) f cdv A outer st H E)) (Cx.xe (cxOf (L2.CX P w) P w K mg base ["one", "a", "b", "low", "high"] "_law_rounded" (defScope s__law_rounded) f cdv A outer st H E)) := passes_of (X := (cxOf (L2.CX P w) P w K mg base ["one", "a", "b", "low", "high"] "_law_rounded" (defScope s__law_rounded) f cdv A outer st H E)) rfl
  have nd : (["one", "a", "b", "low", "high"] : List Str).Nodup := by decide
  exact (vss_cons (vs_set nd (i := 3) (ve_meth0 s.lib (ve_var (i := 0)) s.m_Ratio_floor D_Ratio_floor_0 hr0 tk))
    (vss_cons (vs_set nd (i := 4) (ve_meth0 s.lib (ve_var (i := 0)) s.m_Ratio_ceiling D_Ratio_ceiling_0 hr0 tk))
    (vss_cons (vs_if (vt_w (vw_or (vt_not (vt_ofB (VLr.toB (VE.toL (ve_call C__law_is_int_1 hr0 tk rfl s.g__law_is_int (va_cons (ve_var (i := 3)) va_nil)))))) (vw_or (vt_cmp (opv_gt ⟨s.lib, tk, hr, du⟩) (ve_bin (opv_mul ⟨s.lib, tk, hr, du⟩) (ve_var (i := 3)) (ve_var (i := 2))) (ve_var (i := 1)) (nomark _)) (vw_one' (vt_cmp (opv_le ⟨s.lib, tk, hr, du⟩) (ve_bin (opv_mul ⟨s.lib, tk, hr, du⟩) (ve_bin (opv_add ⟨s.lib, tk, hr, du⟩) (ve_var (i := 3)) ve_int) (ve_var (i := 2))) (ve_var (i := 1)) (nomark _)))))) (vss_one (vs_ret ve_bl)) vss_nil)
    (vss_one (vs_ret (ve_and (ve_call C__law_is_int_1 hr0 tk rfl s.g__law_is_int (va_cons (ve_var (i := 4)) va_nil)) (ve_and (ve_cmp (opv_ge ⟨s.lib, tk, hr, du⟩) (ve_bin (opv_mul ⟨s.lib, tk, hr, du⟩) (ve_var (i := 4)) (ve_var (i := 2))) (ve_var (i := 1)) (nomark _)) (ve_one (ve_cmp (opv_lt ⟨s.lib, tk, hr, du⟩) (ve_bin (opv_mul ⟨s.lib, tk, hr, du⟩) (ve_bin (opv_sub ⟨s.lib, tk, hr, du⟩) (ve_var (i := 4)) ve_int) (ve_var (i := 2))) (ve_var (i := 1)) (nomark _))))))))))
theorem d__law_zero_refused {P : Program} {w : World} {K : PySem.W.Frag} {mg : Str → Option Value} {base : Heap} (s : Sx K mg) {r : Nat} (D_Ratio_over_1 : FnV P w K mg base (tab K) r (ma K ((tab K).cls 0) "over") [false, false] [] sp_Ratio_over) (du : ∀ c m sp, dn c m = some sp → c < (tab K).n → DnOk P w K mg base (tab K) r c m m.ms sp) {f : Addr} {cdv : Value} {A : Around} {outer : List Env} {st : Shared} {H : Hp} {E : XK} (hr : Room (r + 2) (A.deeper (envOfC "_law_zero_refused" (defScope s__law_zero_refused) st.heap.objs.size f cdv))) :
    VSs (cxOf (L2.CX P w) P w K mg base ["x", "r", "way", "told", "found", "e"] "_law_zero_refused" (defScope s__law_zero_refused) f cdv A outer st H E) (tab K) (fun cls d _ H => E cls d H) z0 (defBody s__law_zero_refused) t__law_zero_refused := by
  have hr0 := hr.mono (Nat.le_add_right r 2)
  have hr1 := hr.mono (show r + 1 ≤ r + 2 by omega)
  have tk : Takes (cxOf (L2.CX P w) P w K mg base ["x", "r", "way", "told", "found", "e"] "_law_zero_refused" (defScope s__law_zero_refused) f cdv A outer st H E) (fun cls d _ H => E cls d H) := takes_of rfl rfl rfl rfl
  have po : PassesOwn (model P w) (Cx.A (cxOf (L2.CX P w) P w K mg base ["x", "r", "way", "told", "found", "e"] "_law_zero_refused" (defScope s__law_zero_refused) f cdv A outer st H E)) (Cx.env (cxOf (L2.CX P w) P w K mg base ["x", "r", "way", "told", "found", "e"] "_law_zero_refused" (defScope s__law_zero_refused) f cdv A outer st H E)) (Cx.xe (cxOf (L2.CX P w) P w K mg base ["x", "r", "way", "told", "found", "e"] "_law_zero_refused" (defScope s__law_zero_refused) f cdv A outer st H E)) := passes_of (X := (cxOf (L2.CX P w) P w K mg base ["x", "r", "way", "told", "found", "e"] "_law_zero_refused" (defScope s__law_zero_refused) f cdv A outer st H E)) rfl
  have nd : (["x", "r", "way", "told", "found", "e"] : List Str).Nodup := by decide
  exact (vss_cons (vs_set nd (i := 3) (ve_lst va_nil))
    (vss_cons (vs_set nd (i := 4) ve_non)
    (vss_cons (vs_tryAs (i := 5) rfl rfl nd ⟨rfl, by decide, .inl s.g_WatchError⟩ tk s.e_WatchError (fun W pn xe tk po => (vss_one (vs_if (vt_cmp (opv_eq ⟨s.lib, tk, hr, du⟩) (ve_var (i := 2)) ve_int (nomark _)) (vss_one (vs_set nd (i := 4) (ve_bin (opv_fdiv ⟨s.lib, tk, hr, du⟩) (ve_var (i := 0)) (ve_var (i := 1))))) (vss_one (vs_if (vt_cmp (opv_eq ⟨s.lib, tk, hr, du⟩) (ve_var (i := 2)) ve_int (nomark _)) (vss_one (vs_set nd (i := 4) (ve_bin (opv_mod ⟨s.lib, tk, hr, du⟩) (ve_var (i := 0)) (ve_var (i := 1))))) (vss_one (vs_set nd (i := 4) (ve_meth s.lib (ve_var (i := 0)) s.m_Ratio_over D_Ratio_over_1 hr0 tk (va_cons (ve_var (i := 1)) va_nil))))))))) (fun a oe cls d pn hz hf => (vss_one (vs_set nd (i := 3) (ve_lst (va_cons (ve_isX (i := 5) (cvV := .ref (ga K "ZeroUnder")) (cv := .ref (ga K "ZeroUnder")) hz hf (fun u h => h) s.x_ZeroUnder rfl s.n_isinstance (pe_glob rfl s.g_ZeroUnder rfl)) (va_cons (ve_isX (i := 5) (cvV := .ty "ValueError") (cv := .type "ValueError") hz hf (fun u h => h) s.x_ValueError rfl s.n_isinstance (pe_bltn (v := .ty "ValueError") rfl s.n_ValueError (by decide +kernel) rfl)) (va_cons (ve_isX (i := 5) (cvV := .ref (ga K "BadNumber")) (cv := .ref (ga K "BadNumber")) hz hf (fun u h => h) s.x_BadNumber rfl s.n_isinstance (pe_glob rfl s.g_BadNumber rfl)) va_nil))))))))
    (vss_one (vs_ret (ve_and (ve_cmpB opb_is (vb_var (i := 4)) (VE.toB ve_non) (nomark _)) (ve_one (ve_cmp (opv_eq ⟨s.lib, tk, hr, du⟩) (ve_var (i := 3)) (ve_lst (va_cons ve_bl (va_cons ve_bl (va_cons ve_bl va_nil)))) (nomark _)))))))))
theorem d__law_quotients {P : Program} {w : World} {K : PySem.W.Frag} {mg : Str → Option Value} {base : Heap} (s : Sx K mg) {r : Nat} (C__law_zero_refused_3 : FnV P w K mg base (tab K) r (ga K "_law_zero_refused") [false, false, false] [] sp__law_zero_refused) (C__law_is_int_1 : FnV P w K mg base (tab K) r (ga K "_law_is_int") [false] [] sp__law_is_int) (C__law_worth_3 : FnV P w K mg base (tab K) r (ga K "_law_worth") [false, false, false] [] sp__law_worth) (D_Ratio_over_1 : FnV P w K mg base (tab K) r (ma K ((tab K).cls 0) "over") [false, false] [] sp_Ratio_over) (du : ∀ c m sp, dn c m = some sp → c < (tab K).n → DnOk P w K mg base (tab K) r c m m.ms sp) {f : Addr} {cdv : Value} {A : Around} {outer : List Env} {st : Shared} {H : Hp} {E : XK} (hr : Room (r + 2) (A.deeper (envOfC "_law_quotients" (defScope s__law_quotients) st.heap.objs.size f cdv))) :
    VSs (cxOf (L2.CX P w) P w K mg base ["x", "r", "a", "b", "c", "d", "upper", "lower", "times"] "_law_quotients" (defScope s__law_quotients) f cdv A outer st H E) (tab K) (fun cls d _ H => E cls d H) z0 (defBody s__law_quotients) t__law_quotients := by
  have hr0 := hr.mono (Nat.le_add_right r 2)
  have hr1 := hr.mono (show r + 1 ≤ r + 2 by omega)
  have tk : Takes (cxOf (L2.CX P w) P w K mg base ["x", "r", "a", "b", "c", "d", "upper", "lower", "times"] "_law_quotients" (defScope s__law_quotients) f cdv A outer st H E) (fun cls d _ H => E cls d H) := takes_of rfl rfl rfl rfl
  have po : PassesOwn (model P w) (Cx.A (cxOf (L2.CX P w) P w K mg base ["x", "r", "a", "b", "c", "d", "upper", "lower", "times"] "_law_quotients" (defScope s__law_quotients) f cdv A outer st H E)) (Cx.env (cxOf (L2.CX P w) P w K mg base ["x", "r", "a", "b", "c", "d", "upper", "lower", "times"] "_law_quotients" (defScope s__law_quotients) f cdv A outer st H E)) (Cx.xe (cxOf (L2.CX P w) P w K mg base ["x", "r", "a", "b", "c", "d", "upper", "lower", "times"] "_law_quotients" (defScope s__law_quotients) f cdv A outer st H E)) := passes_of (X := (cxOf (L2.CX P w) P w K mg base ["x", "r", "a", "b", "c", "d", "upper", "lower", "times"] "_law_quotients" (defScope s__law_quotients) f cdv A outer st H E)) rfl
  have nd : (["x", "r", "a", "b", "c", "d", "upper", "lower", "times"] : List Str).Nodup := by decide
  exact (vss_cons (vs_if (vt_cmp (opv_eq ⟨s.lib, tk, hr, du⟩) (ve_var (i := 4)) ve_int (nomark _)) (vss_one (vs_ret (ve_and (ve_call C__law_zero_refused_3 hr0 tk rfl s.g__law_zero_refused (va_cons (ve_var (i := 0)) (va_cons (ve_var (i := 1)) (va_cons ve_int va_nil)))) (ve_and (ve_call C__law_zero_refused_3 hr0 tk rfl s.g__law_zero_refused (va_cons (ve_var (i := 0)) (va_cons (ve_var (i := 1)) (va_cons ve_int va_nil)))) (ve_one (ve_call C__law_zero_refused_3 hr0 tk rfl s.g__law_zero_refused (va_cons (ve_var (i := 0)) (va_cons (ve_var (i := 1)) (va_cons ve_int va_nil))))))))) vss_nil)
    (vss_cons (vs_set nd (i := 6) (ve_bin (opv_mul ⟨s.lib, tk, hr, du⟩) (ve_var (i := 2)) (ve_var (i := 5))))
    (vss_cons (vs_set nd (i := 7) (ve_bin (opv_mul ⟨s.lib, tk, hr, du⟩) (ve_var (i := 3)) (ve_var (i := 4))))
    (vss_cons (vs_if (vt_cmp (opv_lt ⟨s.lib, tk, hr, du⟩) (ve_var (i := 7)) ve_int (nomark _)) (vss_cons (vs_set nd (i := 6) (ve_bin (opv_sub ⟨s.lib, tk, hr, du⟩) ve_int (ve_var (i := 6))))
    (vss_one (vs_set nd (i := 7) (ve_bin (opv_sub ⟨s.lib, tk, hr, du⟩) ve_int (ve_var (i := 7)))))) vss_nil)
    (vss_cons (vs_set nd (i := 8) (ve_bin (opv_fdiv ⟨s.lib, tk, hr, du⟩) (ve_var (i := 0)) (ve_var (i := 1))))
    (vss_cons (vs_if (vt_w (vw_or (vt_not (vt_ofB (VLr.toB (VE.toL (ve_call C__law_is_int_1 hr0 tk rfl s.g__law_is_int (va_cons (ve_var (i := 8)) va_nil)))))) (vw_or (vt_cmp (opv_gt ⟨s.lib, tk, hr, du⟩) (ve_bin (opv_mul ⟨s.lib, tk, hr, du⟩) (ve_var (i := 8)) (ve_var (i := 7))) (ve_var (i := 6)) (nomark _)) (vw_one' (vt_cmp (opv_le ⟨s.lib, tk, hr, du⟩) (ve_bin (opv_mul ⟨s.lib, tk, hr, du⟩) (ve_bin (opv_add ⟨s.lib, tk, hr, du⟩) (ve_var (i := 8)) ve_int) (ve_var (i := 7))) (ve_var (i := 6)) (nomark _)))))) (vss_one (vs_ret ve_bl)) vss_nil)
    (vss_one (vs_ret (ve_and (ve_call C__law_worth_3 hr0 tk rfl s.g__law_worth (va_cons (ve_bin (opv_mod ⟨s.lib, tk, hr, du⟩) (ve_var (i := 0)) (ve_var (i := 1))) (va_cons (ve_bin (opv_sub ⟨s.lib, tk, hr, du⟩) (ve_bin (opv_mul ⟨s.lib, tk, hr, du⟩) (ve_var (i := 2)) (ve_var (i := 5))) (ve_bin (opv_mul ⟨s.lib, tk, hr, du⟩) (ve_bin (opv_mul ⟨s.lib, tk, hr, du⟩) (ve_var (i := 4)) (ve_var (i := 3))) (ve_var (i := 8)))) (va_cons (ve_bin (opv_mul ⟨s.lib, tk, hr, du⟩) (ve_var (i := 3)) (ve_var (i := 5))) va_nil)))) (ve_one (ve_call C__law_worth_3 hr0 tk rfl s.g__law_worth (va_cons (ve_meth s.lib (ve_var (i := 0)) s.m_Ratio_over D_Ratio_over_1 hr0 tk (va_cons (ve_var (i := 1)) va_nil)) (va_cons (ve_var (i := 6)) (va_cons (ve_var (i := 7)) va_nil))))))))))))))
theorem d__law_unlike {P : Program} {w : World} {K : PySem.W.Frag} {mg : Str → Option Value} {base : Heap} (s : Sx K mg) {r : Nat}  (du : ∀ c m sp, dn c m = some sp → c < (tab K).n → DnOk P w K mg base (tab K) r c m m.ms sp) {f : Addr} {cdv : Value} {A : Around} {outer : List Env} {st : Shared} {H : Hp} {E : XK} (hr : Room (r + 2) (A.deeper (envOfC "_law_unlike" (defScope s__law_unlike) st.heap.objs.size f cdv))) :
    VSs (cxOf (L2.CX P w) P w K mg base ["one", "a", "b", "other"] "_law_unlike" (defScope s__law_unlike) f cdv A outer st H E) (tab K) (fun cls d _ H => E cls d H) z0 (defBody s__law_unlike) t__law_unlike := by
  have hr0 := hr.mono (Nat.le_add_right r 2)
  have hr1 := hr.mono (show r + 1 ≤ r + 2 by omega)
  have tk : Takes (cxOf (L2.CX P w) P w K mg base ["one", "a", "b", "other"] "_law_unlike" (defScope s__law_unlike) f cdv A outer st H E) (fun cls d _ H => E cls d H) := takes_of rfl rfl rfl rfl
  have po : PassesOwn (model P w) (Cx.A (cxOf (L2.CX P w) P w K mg base ["one", "a", "b", "other"] "_law_unlike" (defScope s__law_unlike) f cdv A outer st H E)) (Cx.env (cxOf (L2.CX P w) P w K mg base ["one", "a", "b", "other"] "_law_unlike" (defScope s__law_unlike) f cdv A outer st H E)) (Cx.xe (cxOf (L2.CX P w) P w K mg base ["one", "a", "b", "other"] "_law_unlike" (defScope s__law_unlike) f cdv A outer st H E)) := passes_of (X := (cxOf (L2.CX P w) P w K mg base ["one", "a", "b", "other"] "_law_unlike" (defScope s__law_unlike) f cdv A outer st H E)) rfl
  have nd : (["one", "a", "b", "other"] : List Str).Nodup := by decide
  exact (vss_cons (vs_for po rfl (vi_seq (ve_lst (va_cons (ve_bltT (cv_str ⟨s.lib, tk, hr, du⟩) rfl s.n_str (by decide +kernel) (vab_cons (vl_var (i := 0)) vab_nil)) (va_cons ve_non (va_cons (ve_lst (va_cons (ve_var (i := 1)) (va_cons (ve_var (i := 2)) va_nil))) (va_cons (ve_tup (va_cons (ve_var (i := 1)) (va_cons (ve_var (i := 2)) va_nil))) va_nil)))))) (vg_nm nd (i := 3)) (vss_one (vs_if (vt_w (vw_or (vt_cmpB opb_isNot (VE.toB (ve_cmp (opv_eq ⟨s.lib, tk, hr, du⟩) (ve_var (i := 0)) (ve_var (i := 3)) (nomark _))) (VE.toB ve_bl) (nomark _)) (vw_one' (vt_cmpB opb_isNot (VE.toB (ve_cmp (opv_ne ⟨s.lib, tk, hr, du⟩) (ve_var (i := 0)) (ve_var (i := 3)) (nomark _))) (VE.toB ve_bl) (nomark _))))) (vss_one (vs_ret ve_bl)) vss_nil)))
    (vss_one (vs_ret ve_bl)))
theorem d__law_near {P : Program} {w : World} {K : PySem.W.Frag} {mg : Str → Option Value} {base : Heap} (s : Sx K mg) {r : Nat} (M_Ratio_2 : MkV P w K mg base (tab K) r 0 [false, false] [] sp_Ratio___init__) (C__law_orders_4 : FnV P w K mg base (tab K) r (ga K "_law_orders") [false, false, false, false] [] sp__law_orders) (du : ∀ c m sp, dn c m = some sp → c < (tab K).n → DnOk P w K mg base (tab K) r c m m.ms sp) {f : Addr} {cdv : Value} {A : Around} {outer : List Env} {st : Shared} {H : Hp} {E : XK} (hr : Room (r + 2) (A.deeper (envOfC "_law_near" (defScope s__law_near) st.heap.objs.size f cdv))) :
    VSs (cxOf (L2.CX P w) P w K mg base ["number", "one", "two"] "_law_near" (defScope s__law_near) f cdv A outer st H E) (tab K) (fun cls d _ H => E cls d H) z0 (defBody s__law_near) t__law_near := by
  have hr0 := hr.mono (Nat.le_add_right r 2)
  have hr1 := hr.mono (show r + 1 ≤ r + 2 by omega)
  have tk : Takes (cxOf (L2.CX P w) P w K mg base ["number", "one", "two"] "_law_near" (defScope s__law_near) f cdv A outer st H E) (fun cls d _ H => E cls d H) := takes_of rfl rfl rfl rfl
  have po : PassesOwn (model P w) (Cx.A (cxOf (L2.CX P w) P w K mg base ["number", "one", "two"] "_law_near" (defScope s__law_near) f cdv A outer st H E)) (Cx.env (cxOf (L2.CX P w) P w K mg base ["number", "one", "two"] "_law_near" (defScope s__law_near) f cdv A outer st H E)) (Cx.xe (cxOf (L2.CX P w) P w K mg base ["number", "one", "two"] "_law_near" (defScope s__law_near) f cdv A outer st H E)) := passes_of (X := (cxOf (L2.CX P w) P w K mg base ["number", "one", "two"] "_law_near" (defScope s__law_near) f cdv A outer st H E)) rfl
  have nd : (["number", "one", "two"] : List Str).Nodup := by decide
  exact (vss_cons (vs_set nd (i := 1) (ve_make M_Ratio_2 hr1 tk rfl s.g_Ratio (va_cons ve_int (va_cons (ve_bin (opv_add ⟨s.lib, tk, hr, du⟩) (ve_var (i := 0)) ve_int) va_nil))))
    (vss_cons (vs_set nd (i := 2) (ve_make M_Ratio_2 hr1 tk rfl s.g_Ratio (va_cons ve_int (va_cons (ve_bin (opv_add ⟨s.lib, tk, hr, du⟩) (ve_var (i := 0)) ve_int) va_nil))))
    (vss_cons (vs_if (vt_not (vt_ofB (VLr.toB (VE.toL (ve_call C__law_orders_4 hr0 tk rfl s.g__law_orders (va_cons (ve_var (i := 1)) (va_cons (ve_var (i := 2)) (va_cons (ve_bin (opv_add ⟨s.lib, tk, hr, du⟩) (ve_var (i := 0)) ve_int) (va_cons (ve_bin (opv_add ⟨s.lib, tk, hr, du⟩) (ve_var (i := 0)) ve_int) va_nil))))))))) (vss_one (vs_ret ve_bl)) vss_nil)
    (vss_one (vs_ret (ve_call C__law_orders_4 hr0 tk rfl s.g__law_orders (va_cons (ve_un (opu_neg ⟨s.lib, tk, hr, du⟩) (ve_var (i := 1))) (va_cons (ve_un (opu_neg ⟨s.lib, tk, hr, du⟩) (ve_var (i := 2))) (va_cons (ve_bin (opv_sub ⟨s.lib, tk, hr, du⟩) (ve_bin (opv_sub ⟨s.lib, tk, hr, du⟩) ve_int (ve_var (i := 0))) ve_int) (va_cons (ve_bin (opv_sub ⟨s.lib, tk, hr, du⟩) (ve_bin (opv_sub ⟨s.lib, tk, hr, du⟩) ve_int (ve_var (i := 0))) ve_int) va_nil))))))))))
theorem d__law_part_c {P : Program} {w : World} {K : PySem.W.Frag} {mg : Str → Option Value} {base : Heap} (s : Sx K mg) {r : Nat} (C__law_two_fractions_1 : FnV P w K mg base (tab K) r (ga K "_law_two_fractions") [false] [] sp__law_two_fractions) (M_Ratio_2 : MkV P w K mg base (tab K) r 0 [false, false] [] sp_Ratio___init__) (C__law_orders_4 : FnV P w K mg base (tab K) r (ga K "_law_orders") [false, false, false, false] [] sp__law_orders) (C_as_ratio_1 : FnV P w K mg base (tab K) r (ga K "as_ratio") [false] [] sp_as_ratio) (C__law_cell_2 : FnV P w K mg base (tab K) r (ga K "_law_cell") [false, false] [] sp__law_cell) (C__law_digits_2 : FnV P w K mg base (tab K) r (ga K "_law_digits") [false, false] [] sp__law_digits) (C__law_near_1 : FnV P w K mg base (tab K) r (ga K "_law_near") [false] [] sp__law_near) (C__law_unlike_3 : FnV P w K mg base (tab K) r (ga K "_law_unlike") [false, false, false] [] sp__law_unlike) (C__law_rounded_3 : FnV P w K mg base (tab K) r (ga K "_law_rounded") [false, false, false] [] sp__law_rounded) (C__law_quotients_6 : FnV P w K mg base (tab K) r (ga K "_law_quotients") [false, false, false, false, false, false] [] sp__law_quotients) (C__law_worth_3 : FnV P w K mg base (tab K) r (ga K "_law_worth") [false, false, false] [] sp__law_worth) (du : ∀ c m sp, dn c m = some sp → c < (tab K).n → DnOk P w K mg base (tab K) r c m m.ms sp) {f : Addr} {cdv : Value} {A : Around} {outer : List Env} {st : Shared} {H : Hp} {E : XK} (hr : Room (r + 2) (A.deeper (envOfC "_law_part_c" (defScope s__law_part_c) st.heap.objs.size f cdv))) :
    VSs (cxOf (L2.CX P w) P w K mg base ["script", "a", "b", "c", "d", "one", "two", "whole", "left", "right", "rest"] "_law_part_c" (defScope s__law_part_c) f cdv A outer st H E) (tab K) (fun cls d _ H => E cls d H) z0 (defBody s__law_part_c) t__law_part_c := by
  have hr0 := hr.mono (Nat.le_add_right r 2)
  have hr1 := hr.mono (show r + 1 ≤ r + 2 by omega)
  have tk : Takes (cxOf (L2.CX P w) P w K mg base ["script", "a", "b", "c", "d", "one", "two", "whole", "left", "right", "rest"] "_law_part_c" (defScope s__law_part_c) f cdv A outer st H E) (fun cls d _ H => E cls d H) := takes_of rfl rfl rfl rfl
  have po : PassesOwn (model P w) (Cx.A (cxOf (L2.CX P w) P w K mg base ["script", "a", "b", "c", "d", "one", "two", "whole", "left", "right", "rest"] "_law_part_c" (defScope s__law_part_c) f cdv A outer st H E)) (Cx.env (cxOf (L2.CX P w) P w K mg base ["script", "a", "b", "c", "d", "one", "two", "whole", "left", "right", "rest"] "_law_part_c" (defScope s__law_part_c) f cdv A outer st H E)) (Cx.xe (cxOf (L2.CX P w) P w K mg base ["script", "a", "b", "c", "d", "one", "two", "whole", "left", "right", "rest"] "_law_part_c" (defScope s__law_part_c) f cdv A outer st H E)) := passes_of (X := (cxOf (L2.CX P w) P w K mg base ["script", "a", "b", "c", "d", "one", "two", "whole", "left", "right", "rest"] "_law_part_c" (defScope s__law_part_c) f cdv A outer st H E)) rfl
  have nd : (["script", "a", "b", "c", "d", "one", "two", "whole", "left", "right", "rest"] : List Str).Nodup := by decide
  exact (vss_cons (vs_unp (ve_call C__law_two_fractions_1 hr0 tk rfl s.g__law_two_fractions (va_cons (ve_var (i := 0)) va_nil)) (vg_tup rfl (vgs_cons (vg_nm nd (i := 1)) (vgs_cons (vg_nm nd (i := 2)) (vgs_cons (vg_nm nd (i := 3)) (vgs_cons (vg_nm nd (i := 4)) vgs_nil))))))
    (vss_cons (vs_set nd (i := 5) (ve_make M_Ratio_2 hr1 tk rfl s.g_Ratio (va_cons (ve_var (i := 1)) (va_cons (ve_var (i := 2)) va_nil))))
    (vss_cons (vs_set nd (i := 6) (ve_make M_Ratio_2 hr1 tk rfl s.g_Ratio (va_cons (ve_var (i := 3)) (va_cons (ve_var (i := 4)) va_nil))))
    (vss_cons (vs_if (vt_w (vw_or (vt_not (vt_ofB (VLr.toB (VE.toL (ve_call C__law_orders_4 hr0 tk rfl s.g__law_orders (va_cons (ve_var (i := 5)) (va_cons (ve_var (i := 6)) (va_cons (ve_bin (opv_mul ⟨s.lib, tk, hr, du⟩) (ve_var (i := 1)) (ve_var (i := 4))) (va_cons (ve_bin (opv_mul ⟨s.lib, tk, hr, du⟩) (ve_var (i := 3)) (ve_var (i := 2))) va_nil))))))))) (vw_one' (vt_not (vt_ofB (VLr.toB (VE.toL (ve_call C__law_orders_4 hr0 tk rfl s.g__law_orders (va_cons (ve_var (i := 6)) (va_cons (ve_var (i := 5)) (va_cons (ve_bin (opv_mul ⟨s.lib, tk, hr, du⟩) (ve_var (i := 3)) (ve_var (i := 2))) (va_cons (ve_bin (opv_mul ⟨s.lib, tk, hr, du⟩) (ve_var (i := 1)) (ve_var (i := 4))) va_nil)))))))))))) (vss_one (vs_ret ve_bl)) vss_nil)
    (vss_cons (vs_set nd (i := 7) (ve_call C_as_ratio_1 hr0 tk rfl s.g_as_ratio (va_cons (ve_var (i := 3)) va_nil)))
    (vss_cons (vs_if (vt_w (vw_or (vt_not (vt_ofB (VLr.toB (VE.toL (ve_call C__law_orders_4 hr0 tk rfl s.g__law_orders (va_cons (ve_var (i := 5)) (va_cons (ve_var (i := 7)) (va_cons (ve_var (i := 1)) (va_cons (ve_bin (opv_mul ⟨s.lib, tk, hr, du⟩) (ve_var (i := 3)) (ve_var (i := 2))) va_nil))))))))) (vw_one' (vt_not (vt_ofB (VLr.toB (VE.toL (ve_call C__law_orders_4 hr0 tk rfl s.g__law_orders (va_cons (ve_var (i := 7)) (va_cons (ve_var (i := 5)) (va_cons (ve_bin (opv_mul ⟨s.lib, tk, hr, du⟩) (ve_var (i := 3)) (ve_var (i := 2))) (va_cons (ve_var (i := 1)) va_nil)))))))))))) (vss_one (vs_ret ve_bl)) vss_nil)
    (vss_cons (vs_for po rfl (vi_seq (ve_lst (va_cons (ve_tup (va_cons (ve_var (i := 5)) (va_cons (ve_var (i := 3)) va_nil))) (va_cons (ve_tup (va_cons (ve_var (i := 3)) (va_cons (ve_var (i := 5)) va_nil))) (va_cons (ve_tup (va_cons (ve_var (i := 7)) (va_cons (ve_var (i := 3)) va_nil))) (va_cons (ve_tup (va_cons (ve_var (i := 3)) (va_cons (ve_var (i := 7)) va_nil))) va_nil)))))) (vg_tup rfl (vgs_cons (vg_nm nd (i := 8)) (vgs_cons (vg_nm nd (i := 9)) vgs_nil))) (vss_one (vs_if (vt_w (vw_or (vt_cmpB opb_isNot (VE.toB (ve_cmp (opv_eq ⟨s.lib, tk, hr, du⟩) (ve_var (i := 8)) (ve_var (i := 9)) (nomark _))) (VE.toB ve_bl) (nomark _)) (vw_one' (vt_cmpB opb_isNot (VE.toB (ve_cmp (opv_ne ⟨s.lib, tk, hr, du⟩) (ve_var (i := 8)) (ve_var (i := 9)) (nomark _))) (VE.toB ve_bl) (nomark _))))) (vss_one (vs_ret ve_bl)) vss_nil)))
    (vss_cons (vs_if (vt_not (vt_ofB (VLr.toB (VE.toL (ve_call C__law_orders_4 hr0 tk rfl s.g__law_orders (va_cons (ve_var (i := 5)) (va_cons (ve_var (i := 5)) (va_cons (ve_var (i := 1)) (va_cons (ve_var (i := 1)) va_nil))))))))) (vss_one (vs_ret ve_bl)) vss_nil)
    (vss_cons (vs_if (vt_not (vt_ofB (VLr.toB (VE.toL (ve_call C__law_near_1 hr0 tk rfl s.g__law_near (va_cons (ve_bin (opv_mod ⟨s.lib, tk, hr, du⟩) (ve_bltT (cv_int) rfl s.n_int (by decide +kernel) (vab_cons (VE.toL (ve_call C__law_digits_2 hr0 tk rfl s.g__law_digits (va_cons (ve_call C__law_cell_2 hr0 tk rfl s.g__law_cell (va_cons (ve_var (i := 0)) (va_cons ve_int va_nil))) (va_cons ve_int va_nil)))) vab_nil)) (ve_bin (opv_sub ⟨s.lib, tk, hr, du⟩) (ve_bin (opv_pow ⟨s.lib, tk, hr, du⟩) ve_int ve_int) ve_int)) va_nil)))))) (vss_one (vs_ret ve_bl)) vss_nil)
    (vss_cons (vs_if (vt_w (vw_or (vt_not (vt_ofB (VLr.toB (VE.toL (ve_call C__law_unlike_3 hr0 tk rfl s.g__law_unlike (va_cons (ve_var (i := 5)) (va_cons (ve_var (i := 1)) (va_cons (ve_var (i := 2)) va_nil)))))))) (vw_one' (vt_not (vt_ofB (VLr.toB (VE.toL (ve_call C__law_unlike_3 hr0 tk rfl s.g__law_unlike (va_cons (ve_var (i := 6)) (va_cons (ve_var (i := 3)) (va_cons (ve_var (i := 4)) va_nil))))))))))) (vss_one (vs_ret ve_bl)) vss_nil)
    (vss_cons (vs_if (vt_w (vw_or (vt_not (vt_ofB (VLr.toB (VE.toL (ve_call C__law_rounded_3 hr0 tk rfl s.g__law_rounded (va_cons (ve_var (i := 5)) (va_cons (ve_var (i := 1)) (va_cons (ve_var (i := 2)) va_nil)))))))) (vw_one' (vt_not (vt_ofB (VLr.toB (VE.toL (ve_call C__law_rounded_3 hr0 tk rfl s.g__law_rounded (va_cons (ve_var (i := 6)) (va_cons (ve_var (i := 3)) (va_cons (ve_var (i := 4)) va_nil))))))))))) (vss_one (vs_ret ve_bl)) vss_nil)
    (vss_cons (vs_if (vt_w (vw_or (vt_not (vt_ofB (VLr.toB (VE.toL (ve_call C__law_quotients_6 hr0 tk rfl s.g__law_quotients (va_cons (ve_var (i := 5)) (va_cons (ve_var (i := 6)) (va_cons (ve_var (i := 1)) (va_cons (ve_var (i := 2)) (va_cons (ve_var (i := 3)) (va_cons (ve_var (i := 4)) va_nil))))))))))) (vw_one' (vt_not (vt_ofB (VLr.toB (VE.toL (ve_call C__law_quotients_6 hr0 tk rfl s.g__law_quotients (va_cons (ve_var (i := 6)) (va_cons (ve_var (i := 5)) (va_cons (ve_var (i := 3)) (va_cons (ve_var (i := 4)) (va_cons (ve_var (i := 1)) (va_cons (ve_var (i := 2)) va_nil)))))))))))))) (vss_one (vs_ret ve_bl)) vss_nil)
    (vss_cons (vs_if (vt_w (vw_or (vt_not (vt_ofB (VLr.toB (VE.toL (ve_call C__law_quotients_6 hr0 tk rfl s.g__law_quotients (va_cons (ve_var (i := 5)) (va_cons (ve_var (i := 3)) (va_cons (ve_var (i := 1)) (va_cons (ve_var (i := 2)) (va_cons (ve_var (i := 3)) (va_cons ve_int va_nil))))))))))) (vw_one' (vt_not (vt_ofB (VLr.toB (VE.toL (ve_call C__law_quotients_6 hr0 tk rfl s.g__law_quotients (va_cons (ve_var (i := 5)) (va_cons (ve_var (i := 2)) (va_cons (ve_var (i := 1)) (va_cons (ve_var (i := 2)) (va_cons (ve_var (i := 2)) (va_cons ve_int va_nil)))))))))))))) (vss_one (vs_ret ve_bl)) vss_nil)
    (vss_cons (vs_if (vt_w (vw_or (vt_w (vw_and (vt_cmp (opv_eq ⟨s.lib, tk, hr, du⟩) (ve_var (i := 1)) ve_int (nomark _)) (vw_one (vt_cmpB opb_isNot (VE.toB (ve_bltT (cv_bool ⟨s.lib, tk, hr, du⟩) rfl s.n_bool (by decide +kernel) (vab_cons (vl_var (i := 5)) vab_nil))) (VE.toB ve_bl) (nomark _))))) (vw_one' (vt_w (vw_and (vt_cmp (opv_ne ⟨s.lib, tk, hr, du⟩) (ve_var (i := 1)) ve_int (nomark _)) (vw_one (vt_cmpB opb_isNot (VE.toB (ve_bltT (cv_bool ⟨s.lib, tk, hr, du⟩) rfl s.n_bool (by decide +kernel) (vab_cons (vl_var (i := 5)) vab_nil))) (VE.toB ve_bl) (nomark _)))))))) (vss_one (vs_ret ve_bl)) vss_nil)
    (vss_cons (vs_if (vt_w (vw_or (vt_w (vw_and (vt_cmp (opv_eq ⟨s.lib, tk, hr, du⟩) (ve_var (i := 3)) ve_int (nomark _)) (vw_one (vt_cmpB opb_isNot (VE.toB (ve_bltT (cv_bool ⟨s.lib, tk, hr, du⟩) rfl s.n_bool (by decide +kernel) (vab_cons (vl_var (i := 6)) vab_nil))) (VE.toB ve_bl) (nomark _))))) (vw_one' (vt_w (vw_and (vt_cmp (opv_ne ⟨s.lib, tk, hr, du⟩) (ve_var (i := 3)) ve_int (nomark _)) (vw_one (vt_cmpB opb_isNot (VE.toB (ve_bltT (cv_bool ⟨s.lib, tk, hr, du⟩) rfl s.n_bool (by decide +kernel) (vab_cons (vl_var (i := 6)) vab_nil))) (VE.toB ve_bl) (nomark _)))))))) (vss_one (vs_ret ve_bl)) vss_nil)
    (vss_cons (vs_if (vt_cmp (opv_ne ⟨s.lib, tk, hr, du⟩) (ve_var (i := 3)) ve_int (nomark _)) (vss_cons (vs_set nd (i := 10) (ve_var (i := 5)))
    (vss_cons (vs_aug nd (i := 10) (opv_imod ⟨s.lib, tk, hr, du⟩) (ve_var (i := 6)))
    (vss_cons (vs_set nd (i := 10) (ve_var (i := 5)))
    (vss_one (vs_aug nd (i := 10) (opv_ifdiv ⟨s.lib, tk, hr, du⟩) (ve_var (i := 6))))))) vss_nil)
    (vss_one (vs_ret (ve_and (ve_call C__law_worth_3 hr0 tk rfl s.g__law_worth (va_cons (ve_var (i := 5)) (va_cons (ve_var (i := 1)) (va_cons (ve_var (i := 2)) va_nil)))) (ve_one (ve_call C__law_worth_3 hr0 tk rfl s.g__law_worth (va_cons (ve_var (i := 6)) (va_cons (ve_var (i := 3)) (va_cons (ve_var (i := 4)) va_nil))))))))))))))))))))))))
theorem d_law {P : Program} {w : World} {K : PySem.W.Frag} {mg : Str → Option Value} {base : Heap} (s : Sx K mg) {r : Nat} (C__law_part_a_1 : FnV P w K mg base (tab K) r (ga K "_law_part_a") [false] [] sp__law_part_a) (C__law_part_b_1 : FnV P w K mg base (tab K) r (ga K "_law_part_b") [false] [] sp__law_part_b) (C__law_part_c_1 : FnV P w K mg base (tab K) r (ga K "_law_part_c") [false] [] sp__law_part_c) (du : ∀ c m sp, dn c m = some sp → c < (tab K).n → DnOk P w K mg base (tab K) r c m m.ms sp) {f : Addr} {cdv : Value} {A : Around} {outer : List Env} {st : Shared} {H : Hp} {E : XK} (hr : Room (r + 2) (A.deeper (envOfC "law" (defScope s_law) st.heap.objs.size f cdv))) :
    VSs (cxOf (L2.CX P w) P w K mg base ["script"] "law" (defScope s_law) f cdv A outer st H E) (tab K) (fun cls d _ H => E cls d H) z0 (defBody s_law) t_law := by
  have hr0 := hr.mono (Nat.le_add_right r 2)
  have hr1 := hr.mono (show r + 1 ≤ r + 2 by omega)
  have tk : Takes (cxOf (L2.CX P w) P w K mg base ["script"] "law" (defScope s_law) f cdv A outer st H E) (fun cls d _ H => E cls d H) := takes_of rfl rfl rfl rfl
  have po : PassesOwn (model P w) (Cx.A (cxOf (L2.CX P w) P w K mg base ["script"] "law" (defScope s_law) f cdv A outer st H E)) (Cx.env (cxOf (L2.CX P w) P w K mg base ["script"] "law" (defScope s_law) f cdv A outer st H E)) (Cx.xe (cxOf (L2.CX P w) P w K mg base ["script"] "law" (defScope s_law) f cdv A outer st H E)) := passes_of (X := (cxOf (L2.CX P w) P w K mg base ["script"] "law" (defScope s_law) f cdv A outer st H E)) rfl
  have nd : (["script"] : List Str).Nodup := by decide
  exact (vss_cons (vs_if (vt_not (vt_ofB (VLr.toB (VE.toL (ve_call C__law_part_a_1 hr0 tk rfl s.g__law_part_a (va_cons (ve_var (i := 0)) va_nil)))))) (vss_one (vs_ret ve_bl)) vss_nil)
    (vss_cons (vs_if (vt_not (vt_ofB (VLr.toB (VE.toL (ve_call C__law_part_b_1 hr0 tk rfl s.g__law_part_b (va_cons (ve_var (i := 0)) va_nil)))))) (vss_one (vs_ret ve_bl)) vss_nil)
    (vss_one (vs_ret (ve_call C__law_part_c_1 hr0 tk rfl s.g__law_part_c (va_cons (ve_var (i := 0)) va_nil))))))
end VL
end
section
set_option Elab.async false
set_option linter.all false
set_option maxRecDepth 100000
set_option maxHeartbeats 0
namespace VL
open PySem PySem.Spec PyProof.Rows L2 He
abbrev dv_Ratio___init__ : DV := ⟨fun K => (ma K (ga K "Ratio") "__init__"), "__init__", "Ratio.__init__", defArgs s_Ratio___init__, defBody s_Ratio___init__, defScope s_Ratio___init__, [.int 1]⟩
abbrev dv_Ratio_whole : DV := ⟨fun K => (pga K (ma K (ga K "Ratio") "whole")), "whole", "Ratio.whole", defArgs s_Ratio_whole, defBody s_Ratio_whole, defScope s_Ratio_whole, []⟩
abbrev dv_Ratio_floor : DV := ⟨fun K => (ma K (ga K "Ratio") "floor"), "floor", "Ratio.floor", defArgs s_Ratio_floor, defBody s_Ratio_floor, defScope s_Ratio_floor, []⟩
abbrev dv_Ratio_ceiling : DV := ⟨fun K => (ma K (ga K "Ratio") "ceiling"), "ceiling", "Ratio.ceiling", defArgs s_Ratio_ceiling, defBody s_Ratio_ceiling, defScope s_Ratio_ceiling, []⟩
abbrev dv_Ratio_over : DV := ⟨fun K => (ma K (ga K "Ratio") "over"), "over", "Ratio.over", defArgs s_Ratio_over, defBody s_Ratio_over, defScope s_Ratio_over, []⟩
abbrev dv_Ratio___add__ : DV := ⟨fun K => (ma K (ga K "Ratio") "__add__"), "__add__", "Ratio.__add__", defArgs s_Ratio___add__, defBody s_Ratio___add__, defScope s_Ratio___add__, []⟩
abbrev dv_Ratio___radd__ : DV := ⟨fun K => (ma K (ga K "Ratio") "__radd__"), "__radd__", "Ratio.__radd__", defArgs s_Ratio___radd__, defBody s_Ratio___radd__, defScope s_Ratio___radd__, []⟩
abbrev dv_Ratio___sub__ : DV := ⟨fun K => (ma K (ga K "Ratio") "__sub__"), "__sub__", "Ratio.__sub__", defArgs s_Ratio___sub__, defBody s_Ratio___sub__, defScope s_Ratio___sub__, []⟩
abbrev dv_Ratio___rsub__ : DV := ⟨fun K => (ma K (ga K "Ratio") "__rsub__"), "__rsub__", "Ratio.__rsub__", defArgs s_Ratio___rsub__, defBody s_Ratio___rsub__, defScope s_Ratio___rsub__, []⟩
abbrev dv_Ratio___mul__ : DV := ⟨fun K => (ma K (ga K "Ratio") "__mul__"), "__mul__", "Ratio.__mul__", defArgs s_Ratio___mul__, defBody s_Ratio___mul__, defScope s_Ratio___mul__, []⟩
abbrev dv_Ratio___rmul__ : DV := ⟨fun K => (ma K (ga K "Ratio") "__rmul__"), "__rmul__", "Ratio.__rmul__", defArgs s_Ratio___rmul__, defBody s_Ratio___rmul__, defScope s_Ratio___rmul__, []⟩
abbrev dv_Ratio___floordiv__ : DV := ⟨fun K => (ma K (ga K "Ratio") "__floordiv__"), "__floordiv__", "Ratio.__floordiv__", defArgs s_Ratio___floordiv__, defBody s_Ratio___floordiv__, defScope s_Ratio___floordiv__, []⟩
abbrev dv_Ratio___mod__ : DV := ⟨fun K => (ma K (ga K "Ratio") "__mod__"), "__mod__", "Ratio.__mod__", defArgs s_Ratio___mod__, defBody s_Ratio___mod__, defScope s_Ratio___mod__, []⟩
abbrev dv_Ratio___pow__ : DV := ⟨fun K => (ma K (ga K "Ratio") "__pow__"), "__pow__", "Ratio.__pow__", defArgs s_Ratio___pow__, defBody s_Ratio___pow__, defScope s_Ratio___pow__, []⟩
abbrev dv_Ratio___neg__ : DV := ⟨fun K => (ma K (ga K "Ratio") "__neg__"), "__neg__", "Ratio.__neg__", defArgs s_Ratio___neg__, defBody s_Ratio___neg__, defScope s_Ratio___neg__, []⟩
abbrev dv_Ratio___abs__ : DV := ⟨fun K => (ma K (ga K "Ratio") "__abs__"), "__abs__", "Ratio.__abs__", defArgs s_Ratio___abs__, defBody s_Ratio___abs__, defScope s_Ratio___abs__, []⟩
abbrev dv_Ratio___bool__ : DV := ⟨fun K => (ma K (ga K "Ratio") "__bool__"), "__bool__", "Ratio.__bool__", defArgs s_Ratio___bool__, defBody s_Ratio___bool__, defScope s_Ratio___bool__, []⟩
abbrev dv_Ratio___eq__ : DV := ⟨fun K => (ma K (ga K "Ratio") "__eq__"), "__eq__", "Ratio.__eq__", defArgs s_Ratio___eq__, defBody s_Ratio___eq__, defScope s_Ratio___eq__, []⟩
abbrev dv_Ratio___lt__ : DV := ⟨fun K => (ma K (ga K "Ratio") "__lt__"), "__lt__", "Ratio.__lt__", defArgs s_Ratio___lt__, defBody s_Ratio___lt__, defScope s_Ratio___lt__, []⟩
abbrev dv_Ratio___le__ : DV := ⟨fun K => (ma K (ga K "Ratio") "__le__"), "__le__", "Ratio.__le__", defArgs s_Ratio___le__, defBody s_Ratio___le__, defScope s_Ratio___le__, []⟩
abbrev dv_Ratio___gt__ : DV := ⟨fun K => (ma K (ga K "Ratio") "__gt__"), "__gt__", "Ratio.__gt__", defArgs s_Ratio___gt__, defBody s_Ratio___gt__, defScope s_Ratio___gt__, []⟩
abbrev dv_Ratio___ge__ : DV := ⟨fun K => (ma K (ga K "Ratio") "__ge__"), "__ge__", "Ratio.__ge__", defArgs s_Ratio___ge__, defBody s_Ratio___ge__, defScope s_Ratio___ge__, []⟩
abbrev dv_Ratio___str__ : DV := ⟨fun K => (ma K (ga K "Ratio") "__str__"), "__str__", "Ratio.__str__", defArgs s_Ratio___str__, defBody s_Ratio___str__, defScope s_Ratio___str__, []⟩
abbrev dv_as_ratio : DV := ⟨fun K => (ga K "as_ratio"), "as_ratio", "as_ratio", defArgs s_as_ratio, defBody s_as_ratio, defScope s_as_ratio, []⟩
abbrev dv__law_cell : DV := ⟨fun K => (ga K "_law_cell"), "_law_cell", "_law_cell", defArgs s__law_cell, defBody s__law_cell, defScope s__law_cell, []⟩
abbrev dv__law_draws : DV := ⟨fun K => (ga K "_law_draws"), "_law_draws", "_law_draws", defArgs s__law_draws, defBody s__law_draws, defScope s__law_draws, []⟩
abbrev dv__law_gcd : DV := ⟨fun K => (ga K "_law_gcd"), "_law_gcd", "_law_gcd", defArgs s__law_gcd, defBody s__law_gcd, defScope s__law_gcd, []⟩
abbrev dv__law_is_int : DV := ⟨fun K => (ga K "_law_is_int"), "_law_is_int", "_law_is_int", defArgs s__law_is_int, defBody s__law_is_int, defScope s__law_is_int, []⟩
abbrev dv__law_is_ratio : DV := ⟨fun K => (ga K "_law_is_ratio"), "_law_is_ratio", "_law_is_ratio", defArgs s__law_is_ratio, defBody s__law_is_ratio, defScope s__law_is_ratio, []⟩
abbrev dv__law_digits : DV := ⟨fun K => (ga K "_law_digits"), "_law_digits", "_law_digits", defArgs s__law_digits, defBody s__law_digits, defScope s__law_digits, []⟩
abbrev dv__law_numbers : DV := ⟨fun K => (ga K "_law_numbers"), "_law_numbers", "_law_numbers", defArgs s__law_numbers, defBody s__law_numbers, defScope s__law_numbers, []⟩
abbrev dv__law_shows : DV := ⟨fun K => (ga K "_law_shows"), "_law_shows", "_law_shows", defArgs s__law_shows, defBody s__law_shows, defScope s__law_shows, []⟩
abbrev dv__law_refused : DV := ⟨fun K => (ga K "_law_refused"), "_law_refused", "_law_refused", defArgs s__law_refused, defBody s__law_refused, defScope s__law_refused, []⟩
abbrev dv__law_part_a : DV := ⟨fun K => (ga K "_law_part_a"), "_law_part_a", "_law_part_a", defArgs s__law_part_a, defBody s__law_part_a, defScope s__law_part_a, []⟩
abbrev dv__law_worth : DV := ⟨fun K => (ga K "_law_worth"), "_law_worth", "_law_worth", defArgs s__law_worth, defBody s__law_worth, defScope s__law_worth, []⟩
abbrev dv__law_fraction : DV := ⟨fun K => (ga K "_law_fraction"), "_law_fraction", "_law_fraction", defArgs s__law_fraction, defBody s__law_fraction, defScope s__law_fraction, []⟩
abbrev dv__law_power_to_21 : DV := ⟨fun K => (ga K "_law_power_to_21"), "_law_power_to_21", "_law_power_to_21", defArgs s__law_power_to_21, defBody s__law_power_to_21, defScope s__law_power_to_21, []⟩
abbrev dv__law_power_to_43 : DV := ⟨fun K => (ga K "_law_power_to_43"), "_law_power_to_43", "_law_power_to_43", defArgs s__law_power_to_43, defBody s__law_power_to_43, defScope s__law_power_to_43, []⟩
abbrev dv__law_power_to_64 : DV := ⟨fun K => (ga K "_law_power_to_64"), "_law_power_to_64", "_law_power_to_64", defArgs s__law_power_to_64, defBody s__law_power_to_64, defScope s__law_power_to_64, []⟩
abbrev dv__law_power : DV := ⟨fun K => (ga K "_law_power"), "_law_power", "_law_power", defArgs s__law_power, defBody s__law_power, defScope s__law_power, []⟩
abbrev dv__law_sums : DV := ⟨fun K => (ga K "_law_sums"), "_law_sums", "_law_sums", defArgs s__law_sums, defBody s__law_sums, defScope s__law_sums, []⟩
abbrev dv__law_signs : DV := ⟨fun K => (ga K "_law_signs"), "_law_signs", "_law_signs", defArgs s__law_signs, defBody s__law_signs, defScope s__law_signs, []⟩
abbrev dv__law_powers : DV := ⟨fun K => (ga K "_law_powers"), "_law_powers", "_law_powers", defArgs s__law_powers, defBody s__law_powers, defScope s__law_powers, []⟩
abbrev dv__law_part_b : DV := ⟨fun K => (ga K "_law_part_b"), "_law_part_b", "_law_part_b", defArgs s__law_part_b, defBody s__law_part_b, defScope s__law_part_b, []⟩
abbrev dv__law_fraction_c : DV := ⟨fun K => (ga K "_law_fraction_c"), "_law_fraction_c", "_law_fraction_c", defArgs s__law_fraction_c, defBody s__law_fraction_c, defScope s__law_fraction_c, []⟩
abbrev dv__law_two_fractions : DV := ⟨fun K => (ga K "_law_two_fractions"), "_law_two_fractions", "_law_two_fractions", defArgs s__law_two_fractions, defBody s__law_two_fractions, defScope s__law_two_fractions, []⟩
abbrev dv__law_orders : DV := ⟨fun K => (ga K "_law_orders"), "_law_orders", "_law_orders", defArgs s__law_orders, defBody s__law_orders, defScope s__law_orders, []⟩
abbrev dv__law_rounded : DV := ⟨fun K => (ga K "_law_rounded"), "_law_rounded", "_law_rounded", defArgs s__law_rounded, defBody s__law_rounded, defScope s__law_rounded, []⟩
abbrev dv__law_zero_refused : DV := ⟨fun K => (ga K "_law_zero_refused"), "_law_zero_refused", "_law_zero_refused", defArgs s__law_zero_refused, defBody s__law_zero_refused, defScope s__law_zero_refused, []⟩
abbrev dv__law_quotients : DV := ⟨fun K => (ga K "_law_quotients"), "_law_quotients", "_law_quotients", defArgs s__law_quotients, defBody s__law_quotients, defScope s__law_quotients, []⟩
abbrev dv__law_unlike : DV := ⟨fun K => (ga K "_law_unlike"), "_law_unlike", "_law_unlike", defArgs s__law_unlike, defBody s__law_unlike, defScope s__law_unlike, []⟩
abbrev dv__law_near : DV := ⟨fun K => (ga K "_law_near"), "_law_near", "_law_near", defArgs s__law_near, defBody s__law_near, defScope s__law_near, []⟩
abbrev dv__law_part_c : DV := ⟨fun K => (ga K "_law_part_c"), "_law_part_c", "_law_part_c", defArgs s__law_part_c, defBody s__law_part_c, defScope s__law_part_c, []⟩
abbrev dv_law : DV := ⟨fun K => (ga K "law"), "law", "law", defArgs s_law, defBody s_law, defScope s_law, []⟩
def fnL : List DV := [dv_Ratio___init__, dv_Ratio_whole, dv_Ratio_floor, dv_Ratio_ceiling, dv_Ratio_over, dv_Ratio___add__, dv_Ratio___radd__, dv_Ratio___sub__, dv_Ratio___rsub__, dv_Ratio___mul__, dv_Ratio___rmul__, dv_Ratio___floordiv__, dv_Ratio___mod__, dv_Ratio___pow__, dv_Ratio___neg__, dv_Ratio___abs__, dv_Ratio___bool__, dv_Ratio___eq__, dv_Ratio___lt__, dv_Ratio___le__, dv_Ratio___gt__, dv_Ratio___ge__, dv_Ratio___str__, dv_as_ratio, dv__law_cell, dv__law_draws, dv__law_gcd, dv__law_is_int, dv__law_is_ratio, dv__law_digits, dv__law_numbers, dv__law_shows, dv__law_refused, dv__law_part_a, dv__law_worth, dv__law_fraction, dv__law_power_to_21, dv__law_power_to_43, dv__law_power_to_64, dv__law_power, dv__law_sums, dv__law_signs, dv__law_powers, dv__law_part_b, dv__law_fraction_c, dv__law_two_fractions, dv__law_orders, dv__law_rounded, dv__law_zero_refused, dv__law_quotients, dv__law_unlike, dv__law_near, dv__law_part_c, dv_law]
def ckL (K : PySem.W.Frag) : List Bool := [libB (tab K) K,
  raiseB (tab K) K 2,
  (Fa.glo "ZeroUnder").ok K,
  (eqO (PySem.W.nsIn K mainGlobals "gcd") (some (some (.builtin "math.gcd")))),
  (Fa.glo "as_ratio").ok K,
  (Fa.glo "Ratio").ok K,
  (conGet K && conB (tab K) K "MOST_POWER" 0 64),
  (Fa.free "range").ok K,
  (Fa.free "abs").ok K,
  (Fa.free "bool").ok K,
  (Fa.free "isinstance").ok K,
  (Fa.free "str").ok K,
  (Fa.free "len").ok K,
  (Fa.free "int").ok K,
  (Fa.glo "_law_is_int").ok K,
  (Fa.glo "_law_gcd").ok K,
  (Fa.glo "_law_draws").ok K,
  (Fa.glo "_law_cell").ok K,
  (Fa.glo "_law_digits").ok K,
  (Fa.glo "_law_is_ratio").ok K,
  propB K (ga K "Ratio") "whole",
  isxB (tab K) K 5 ix_ZeroUnder (.ref (ga K "ZeroUnder")),
  (Fa.free "ValueError").ok K,
  isxB (tab K) K 5 ix_ValueError (.type "ValueError"),
  (Fa.glo "BadNumber").ok K,
  isxB (tab K) K 5 ix_BadNumber (.ref (ga K "BadNumber")),
  (Fa.glo "Refused").ok K,
  isxB (tab K) K 5 ix_Refused (.ref (ga K "Refused")),
  exmB (tab K) K 5 ct_WatchError (.ref (ga K "WatchError")),
  (Fa.glo "WatchError").ok K,
  (Fa.glo "_law_numbers").ok K,
  (Fa.glo "_law_refused").ok K,
  (Fa.glo "_law_shows").ok K,
  (Fa.glo "_law_power_to_21").ok K,
  (Fa.glo "_law_power_to_43").ok K,
  (Fa.glo "_law_power_to_64").ok K,
  (Fa.glo "_law_worth").ok K,
  (Fa.glo "_law_power").ok K,
  (Fa.glo "_law_fraction").ok K,
  (Fa.glo "_law_sums").ok K,
  (Fa.glo "_law_powers").ok K,
  (Fa.glo "_law_signs").ok K,
  (Fa.glo "_law_fraction_c").ok K,
  methB (tab K) K 0 "floor",
  methB (tab K) K 0 "ceiling",
  methB (tab K) K 0 "over",
  (Fa.glo "_law_zero_refused").ok K,
  (Fa.glo "_law_orders").ok K,
  (Fa.glo "_law_two_fractions").ok K,
  (Fa.glo "_law_near").ok K,
  (Fa.glo "_law_unlike").ok K,
  (Fa.glo "_law_rounded").ok K,
  (Fa.glo "_law_quotients").ok K,
  (Fa.glo "_law_part_a").ok K,
  (Fa.glo "_law_part_b").ok K,
  (Fa.glo "_law_part_c").ok K,
  methB (tab K) K 0 "__add__",
  methB (tab K) K 0 "__sub__",
  methB (tab K) K 0 "__mul__",
  methB (tab K) K 0 "__floordiv__",
  methB (tab K) K 0 "__neg__",
  methB (tab K) K 0 "__radd__",
  methB (tab K) K 0 "__rsub__",
  methB (tab K) K 0 "__rmul__",
  methB (tab K) K 0 "__mod__",
  methB (tab K) K 0 "__pow__",
  methB (tab K) K 0 "__abs__",
  methB (tab K) K 0 "__bool__",
  methB (tab K) K 0 "__eq__",
  methB (tab K) K 0 "__lt__",
  methB (tab K) K 0 "__le__",
  methB (tab K) K 0 "__gt__",
  methB (tab K) K 0 "__ge__",
  methB (tab K) K 0 "__str__",
  (Fa.mkr "Ratio").ok K,
  (Fa.glo "law").ok K]
def ck (K : PySem.W.Frag) : Bool := (ckL K).all id
theorem sx {K : PySem.W.Frag} {h : Heap} {mg : Str → Option Value} (X : K.In h) (G : h.Ns mainGlobals mg) (c : SaysV ck fnL K) : Sx K mg where
  lib := libB_ok (chk_at c.chk 0)
  r_ZeroUnder := raiseB_ok (chk_at c.chk 1)
  g_ZeroUnder := glo_ok X G (chk_at c.chk 2)
  i_gcd := (fun h => PySem.W.mg_of X G (eqO_ok h)) (chk_at c.chk 3)
  g_as_ratio := glo_ok X G (chk_at c.chk 4)
  g_Ratio := glo_ok X G (chk_at c.chk 5)
  c_Ratio_MOST_POWER := (fun h => conB_ok (ba h).1 (ba h).2) (chk_at c.chk 6)
  n_range := free_ok X G (chk_at c.chk 7)
  n_abs := free_ok X G (chk_at c.chk 8)
  n_bool := free_ok X G (chk_at c.chk 9)
  n_isinstance := free_ok X G (chk_at c.chk 10)
  n_str := free_ok X G (chk_at c.chk 11)
  n_len := free_ok X G (chk_at c.chk 12)
  n_int := free_ok X G (chk_at c.chk 13)
  g__law_is_int := glo_ok X G (chk_at c.chk 14)
  g__law_gcd := glo_ok X G (chk_at c.chk 15)
  g__law_draws := glo_ok X G (chk_at c.chk 16)
  g__law_cell := glo_ok X G (chk_at c.chk 17)
  g__law_digits := glo_ok X G (chk_at c.chk 18)
  g__law_is_ratio := glo_ok X G (chk_at c.chk 19)
  p_Ratio_whole := propB_ok (chk_at c.chk 20)
  x_ZeroUnder := (fun h => isxB_ok h lt_ix_ZeroUnder) (chk_at c.chk 21)
  n_ValueError := free_ok X G (chk_at c.chk 22)
  x_ValueError := (fun h => isxB_ok h lt_ix_ValueError) (chk_at c.chk 23)
  g_BadNumber := glo_ok X G (chk_at c.chk 24)
  x_BadNumber := (fun h => isxB_ok h lt_ix_BadNumber) (chk_at c.chk 25)
  g_Refused := glo_ok X G (chk_at c.chk 26)
  x_Refused := (fun h => isxB_ok h lt_ix_Refused) (chk_at c.chk 27)
  e_WatchError := (fun h => exmB_ok h lt_ct_WatchError) (chk_at c.chk 28)
  g_WatchError := glo_ok X G (chk_at c.chk 29)
  g__law_numbers := glo_ok X G (chk_at c.chk 30)
  g__law_refused := glo_ok X G (chk_at c.chk 31)
  g__law_shows := glo_ok X G (chk_at c.chk 32)
  g__law_power_to_21 := glo_ok X G (chk_at c.chk 33)
  g__law_power_to_43 := glo_ok X G (chk_at c.chk 34)
  g__law_power_to_64 := glo_ok X G (chk_at c.chk 35)
  g__law_worth := glo_ok X G (chk_at c.chk 36)
  g__law_power := glo_ok X G (chk_at c.chk 37)
  g__law_fraction := glo_ok X G (chk_at c.chk 38)
  g__law_sums := glo_ok X G (chk_at c.chk 39)
  g__law_powers := glo_ok X G (chk_at c.chk 40)
  g__law_signs := glo_ok X G (chk_at c.chk 41)
  g__law_fraction_c := glo_ok X G (chk_at c.chk 42)
  m_Ratio_floor := methB_ok (chk_at c.chk 43)
  m_Ratio_ceiling := methB_ok (chk_at c.chk 44)
  m_Ratio_over := methB_ok (chk_at c.chk 45)
  g__law_zero_refused := glo_ok X G (chk_at c.chk 46)
  g__law_orders := glo_ok X G (chk_at c.chk 47)
  g__law_two_fractions := glo_ok X G (chk_at c.chk 48)
  g__law_near := glo_ok X G (chk_at c.chk 49)
  g__law_unlike := glo_ok X G (chk_at c.chk 50)
  g__law_rounded := glo_ok X G (chk_at c.chk 51)
  g__law_quotients := glo_ok X G (chk_at c.chk 52)
  g__law_part_a := glo_ok X G (chk_at c.chk 53)
  g__law_part_b := glo_ok X G (chk_at c.chk 54)
  g__law_part_c := glo_ok X G (chk_at c.chk 55)
theorem sc_Ratio___init__ : FnScope ["self", "top", "under", "factor"] ["self", "top", "under"] (defScope s_Ratio___init__) := ⟨rfl, rfl, rfl, by decide +kernel, rfl, by decide +kernel, by decide +kernel⟩
theorem sc_Ratio_whole : FnScope ["self"] ["self"] (defScope s_Ratio_whole) := ⟨rfl, rfl, rfl, by decide +kernel, rfl, by decide +kernel, by decide +kernel⟩
theorem sc_Ratio_floor : FnScope ["self"] ["self"] (defScope s_Ratio_floor) := ⟨rfl, rfl, rfl, by decide +kernel, rfl, by decide +kernel, by decide +kernel⟩
theorem sc_Ratio_ceiling : FnScope ["self"] ["self"] (defScope s_Ratio_ceiling) := ⟨rfl, rfl, rfl, by decide +kernel, rfl, by decide +kernel, by decide +kernel⟩
theorem sc_Ratio_over : FnScope ["self", "number", "right"] ["self", "number"] (defScope s_Ratio_over) := ⟨rfl, rfl, rfl, by decide +kernel, rfl, by decide +kernel, by decide +kernel⟩
theorem sc_Ratio___add__ : FnScope ["self", "other", "right"] ["self", "other"] (defScope s_Ratio___add__) := ⟨rfl, rfl, rfl, by decide +kernel, rfl, by decide +kernel, by decide +kernel⟩
theorem sc_Ratio___radd__ : FnScope ["self", "other"] ["self", "other"] (defScope s_Ratio___radd__) := ⟨rfl, rfl, rfl, by decide +kernel, rfl, by decide +kernel, by decide +kernel⟩
theorem sc_Ratio___sub__ : FnScope ["self", "other", "right"] ["self", "other"] (defScope s_Ratio___sub__) := ⟨rfl, rfl, rfl, by decide +kernel, rfl, by decide +kernel, by decide +kernel⟩
theorem sc_Ratio___rsub__ : FnScope ["self", "other"] ["self", "other"] (defScope s_Ratio___rsub__) := ⟨rfl, rfl, rfl, by decide +kernel, rfl, by decide +kernel, by decide +kernel⟩
theorem sc_Ratio___mul__ : FnScope ["self", "other", "right"] ["self", "other"] (defScope s_Ratio___mul__) := ⟨rfl, rfl, rfl, by decide +kernel, rfl, by decide +kernel, by decide +kernel⟩
theorem sc_Ratio___rmul__ : FnScope ["self", "other"] ["self", "other"] (defScope s_Ratio___rmul__) := ⟨rfl, rfl, rfl, by decide +kernel, rfl, by decide +kernel, by decide +kernel⟩
theorem sc_Ratio___floordiv__ : FnScope ["self", "other", "right"] ["self", "other"] (defScope s_Ratio___floordiv__) := ⟨rfl, rfl, rfl, by decide +kernel, rfl, by decide +kernel, by decide +kernel⟩
theorem sc_Ratio___mod__ : FnScope ["self", "other", "right"] ["self", "other"] (defScope s_Ratio___mod__) := ⟨rfl, rfl, rfl, by decide +kernel, rfl, by decide +kernel, by decide +kernel⟩
theorem sc_Ratio___pow__ : FnScope ["self", "power", "top", "under", "_"] ["self", "power"] (defScope s_Ratio___pow__) := ⟨rfl, rfl, rfl, by decide +kernel, rfl, by decide +kernel, by decide +kernel⟩
theorem sc_Ratio___neg__ : FnScope ["self"] ["self"] (defScope s_Ratio___neg__) := ⟨rfl, rfl, rfl, by decide +kernel, rfl, by decide +kernel, by decide +kernel⟩
theorem sc_Ratio___abs__ : FnScope ["self"] ["self"] (defScope s_Ratio___abs__) := ⟨rfl, rfl, rfl, by decide +kernel, rfl, by decide +kernel, by decide +kernel⟩
theorem sc_Ratio___bool__ : FnScope ["self"] ["self"] (defScope s_Ratio___bool__) := ⟨rfl, rfl, rfl, by decide +kernel, rfl, by decide +kernel, by decide +kernel⟩
theorem sc_Ratio___eq__ : FnScope ["self", "other"] ["self", "other"] (defScope s_Ratio___eq__) := ⟨rfl, rfl, rfl, by decide +kernel, rfl, by decide +kernel, by decide +kernel⟩
theorem sc_Ratio___lt__ : FnScope ["self", "other"] ["self", "other"] (defScope s_Ratio___lt__) := ⟨rfl, rfl, rfl, by decide +kernel, rfl, by decide +kernel, by decide +kernel⟩
theorem sc_Ratio___le__ : FnScope ["self", "other"] ["self", "other"] (defScope s_Ratio___le__) := ⟨rfl, rfl, rfl, by decide +kernel, rfl, by decide +kernel, by decide +kernel⟩
theorem sc_Ratio___gt__ : FnScope ["self", "other"] ["self", "other"] (defScope s_Ratio___gt__) := ⟨rfl, rfl, rfl, by decide +kernel, rfl, by decide +kernel, by decide +kernel⟩
theorem sc_Ratio___ge__ : FnScope ["self", "other"] ["self", "other"] (defScope s_Ratio___ge__) := ⟨rfl, rfl, rfl, by decide +kernel, rfl, by decide +kernel, by decide +kernel⟩
theorem sc_Ratio___str__ : FnScope ["self"] ["self"] (defScope s_Ratio___str__) := ⟨rfl, rfl, rfl, by decide +kernel, rfl, by decide +kernel, by decide +kernel⟩
theorem sc_as_ratio : FnScope ["number"] ["number"] (defScope s_as_ratio) := ⟨rfl, rfl, rfl, by decide +kernel, rfl, by decide +kernel, by decide +kernel⟩
theorem sc__law_cell : FnScope ["script", "k"] ["script", "k"] (defScope s__law_cell) := ⟨rfl, rfl, rfl, by decide +kernel, rfl, by decide +kernel, by decide +kernel⟩
theorem sc__law_draws : FnScope ["cell", "salt", "menu", "found", "rest", "mixed", "k"] ["cell", "salt", "menu"] (defScope s__law_draws) := ⟨rfl, rfl, rfl, by decide +kernel, rfl, by decide +kernel, by decide +kernel⟩
theorem sc__law_gcd : FnScope ["a", "b"] ["a", "b"] (defScope s__law_gcd) := ⟨rfl, rfl, rfl, by decide +kernel, rfl, by decide +kernel, by decide +kernel⟩
theorem sc__law_is_int : FnScope ["x"] ["x"] (defScope s__law_is_int) := ⟨rfl, rfl, rfl, by decide +kernel, rfl, by decide +kernel, by decide +kernel⟩
theorem sc__law_is_ratio : FnScope ["x"] ["x"] (defScope s__law_is_ratio) := ⟨rfl, rfl, rfl, by decide +kernel, rfl, by decide +kernel, by decide +kernel⟩
theorem sc__law_digits : FnScope ["cell", "salt", "number", "piece"] ["cell", "salt"] (defScope s__law_digits) := ⟨rfl, rfl, rfl, by decide +kernel, rfl, by decide +kernel, by decide +kernel⟩
theorem sc__law_numbers : FnScope ["script", "one", "two", "more", "ways"] ["script"] (defScope s__law_numbers) := ⟨rfl, rfl, rfl, by decide +kernel, rfl, by decide +kernel, by decide +kernel⟩
theorem sc__law_shows : FnScope ["x", "top", "under", "text"] ["x", "top", "under"] (defScope s__law_shows) := ⟨rfl, rfl, rfl, by decide +kernel, rfl, by decide +kernel, by decide +kernel⟩
theorem sc__law_refused : FnScope ["top", "told", "e"] ["top"] (defScope s__law_refused) := ⟨rfl, rfl, rfl, by decide +kernel, rfl, by decide +kernel, by decide +kernel⟩
theorem sc__law_part_a : FnScope ["script", "top", "under", "first"] ["script"] (defScope s__law_part_a) := ⟨rfl, rfl, rfl, by decide +kernel, rfl, by decide +kernel, by decide +kernel⟩
theorem sc__law_worth : FnScope ["x", "top", "under"] ["x", "top", "under"] (defScope s__law_worth) := ⟨rfl, rfl, rfl, by decide +kernel, rfl, by decide +kernel, by decide +kernel⟩
theorem sc__law_fraction : FnScope ["script", "k", "size", "top", "under"] ["script", "k", "size"] (defScope s__law_fraction) := ⟨rfl, rfl, rfl, by decide +kernel, rfl, by decide +kernel, by decide +kernel⟩
theorem sc__law_power_to_21 : FnScope ["x", "n"] ["x", "n"] (defScope s__law_power_to_21) := ⟨rfl, rfl, rfl, by decide +kernel, rfl, by decide +kernel, by decide +kernel⟩
theorem sc__law_power_to_43 : FnScope ["x", "n"] ["x", "n"] (defScope s__law_power_to_43) := ⟨rfl, rfl, rfl, by decide +kernel, rfl, by decide +kernel, by decide +kernel⟩
theorem sc__law_power_to_64 : FnScope ["x", "n"] ["x", "n"] (defScope s__law_power_to_64) := ⟨rfl, rfl, rfl, by decide +kernel, rfl, by decide +kernel, by decide +kernel⟩
theorem sc__law_power : FnScope ["x", "n"] ["x", "n"] (defScope s__law_power) := ⟨rfl, rfl, rfl, by decide +kernel, rfl, by decide +kernel, by decide +kernel⟩
theorem sc__law_sums : FnScope ["one", "two", "a", "b", "c", "d"] ["one", "two", "a", "b", "c", "d"] (defScope s__law_sums) := ⟨rfl, rfl, rfl, by decide +kernel, rfl, by decide +kernel, by decide +kernel⟩
theorem sc__law_signs : FnScope ["one", "a", "b"] ["one", "a", "b"] (defScope s__law_signs) := ⟨rfl, rfl, rfl, by decide +kernel, rfl, by decide +kernel, by decide +kernel⟩
theorem sc__law_powers : FnScope ["third", "nothing", "p", "q", "n", "top", "under", "k"] ["third", "nothing", "p", "q", "n"] (defScope s__law_powers) := ⟨rfl, rfl, rfl, by decide +kernel, rfl, by decide +kernel, by decide +kernel⟩
theorem sc__law_part_b : FnScope ["script", "ways", "a", "b", "c", "d", "p", "q", "one", "two", "grown"] ["script"] (defScope s__law_part_b) := ⟨rfl, rfl, rfl, by decide +kernel, rfl, by decide +kernel, by decide +kernel⟩
theorem sc__law_fraction_c : FnScope ["script", "k", "size", "top", "under"] ["script", "k", "size"] (defScope s__law_fraction_c) := ⟨rfl, rfl, rfl, by decide +kernel, rfl, by decide +kernel, by decide +kernel⟩
theorem sc__law_two_fractions : FnScope ["script", "ways", "size", "a", "b", "c", "d", "factor"] ["script"] (defScope s__law_two_fractions) := ⟨rfl, rfl, rfl, by decide +kernel, rfl, by decide +kernel, by decide +kernel⟩
theorem sc__law_orders : FnScope ["one", "two", "left", "right", "found", "due", "k"] ["one", "two", "left", "right"] (defScope s__law_orders) := ⟨rfl, rfl, rfl, by decide +kernel, rfl, by decide +kernel, by decide +kernel⟩
theorem sc__law_rounded : FnScope ["one", "a", "b", "low", "high"] ["one", "a", "b"] (defScope s__law_rounded) := ⟨rfl, rfl, rfl, by decide +kernel, rfl, by decide +kernel, by decide +kernel⟩
theorem sc__law_zero_refused : FnScope ["x", "r", "way", "told", "found", "e"] ["x", "r", "way"] (defScope s__law_zero_refused) := ⟨rfl, rfl, rfl, by decide +kernel, rfl, by decide +kernel, by decide +kernel⟩
theorem sc__law_quotients : FnScope ["x", "r", "a", "b", "c", "d", "upper", "lower", "times"] ["x", "r", "a", "b", "c", "d"] (defScope s__law_quotients) := ⟨rfl, rfl, rfl, by decide +kernel, rfl, by decide +kernel, by decide +kernel⟩
theorem sc__law_unlike : FnScope ["one", "a", "b", "other"] ["one", "a", "b"] (defScope s__law_unlike) := ⟨rfl, rfl, rfl, by decide +kernel, rfl, by decide +kernel, by decide +kernel⟩
theorem sc__law_near : FnScope ["number", "one", "two"] ["number"] (defScope s__law_near) := ⟨rfl, rfl, rfl, by decide +kernel, rfl, by decide +kernel, by decide +kernel⟩
theorem sc__law_part_c : FnScope ["script", "a", "b", "c", "d", "one", "two", "whole", "left", "right", "rest"] ["script"] (defScope s__law_part_c) := ⟨rfl, rfl, rfl, by decide +kernel, rfl, by decide +kernel, by decide +kernel⟩
theorem sc_law : FnScope ["script"] ["script"] (defScope s_law) := ⟨rfl, rfl, rfl, by decide +kernel, rfl, by decide +kernel, by decide +kernel⟩
section
variable {P : Program} {w : World} {K : PySem.W.Frag} {mg : Str → Option Value} {base : Heap}
theorem ok_Ratio___init__ (s : Sx K mg) (c : SaysV ck fnL K) : ∃ fd, FunD K "__init__" "Ratio.__init__" (defArgs s_Ratio___init__) (defBody s_Ratio___init__) (defScope s_Ratio___init__) [.int 1] [] (ma K (ga K "Ratio") "__init__") fd ∧ FnOk P w K mg base (L2.CX P w) 3 (ma K (ga K "Ratio") "__init__") fd ["self", "top", "under"] (SpI (tab K) K 0 [false, false] sp_Ratio___init__) := by
  obtain ⟨fd, F⟩ := c.def_ 0 (d := dv_Ratio___init__)
  exact ⟨fd, F, fnI (n := 2) F sc_Ratio___init__ rfl (show (0 : Nat) < 1 by decide) rfl (fun a cdv A outer st H E hr => d_Ratio___init__ (r := 0) s  a hr) (fun ds Q X _ h => p_Ratio___init__ ds Q X h)⟩
theorem fv_Ratio___init___2 (s : Sx K mg) (c : SaysV ck fnL K) : MkV P w K mg base (tab K) 3 0 [false] [.int 1] sp_Ratio___init__ := by
  obtain ⟨fd, F, G⟩ := ok_Ratio___init__ (P := P) (w := w) (base := base) s c
  exact mkMkD (show (0 : Nat) < 1 by decide) (mkr_ok (chk_at c.chk 74)) F G 2 0 (by simp) rfl (fun T kV doc pm an cdv ct us its h1 h2 => match us, h1, its, h2 with | [_, _], _, [_], _ => ⟨_, rfl, rfl⟩) rfl (fun H => by simp [RepL, Rep])
theorem fv_Ratio___init___3 (s : Sx K mg) (c : SaysV ck fnL K) : MkV P w K mg base (tab K) 3 0 [false, false] [] sp_Ratio___init__ := by
  obtain ⟨fd, F, G⟩ := ok_Ratio___init__ (P := P) (w := w) (base := base) s c
  exact mkMkD (show (0 : Nat) < 1 by decide) (mkr_ok (chk_at c.chk 74)) F G 3 1 (by simp) rfl (fun T kV doc pm an cdv ct us its h1 h2 => match us, h1, its, h2 with | [_, _, _], _, [_], _ => ⟨_, rfl, rfl⟩) rfl (fun H => by simp [RepL, Rep])
theorem ok_Ratio_whole (s : Sx K mg) (c : SaysV ck fnL K) : ∃ fd, FunD K "whole" "Ratio.whole" (defArgs s_Ratio_whole) (defBody s_Ratio_whole) (defScope s_Ratio_whole) [] [] (pga K (ma K (ga K "Ratio") "whole")) fd ∧ FnOk P w K mg base (L2.CX P w) 3 (pga K (ma K (ga K "Ratio") "whole")) fd ["self"] (SpV (tab K) K [false] sp_Ratio_whole) := by
  obtain ⟨fd, F⟩ := c.def_ 1 (d := dv_Ratio_whole)
  exact ⟨fd, F, fnV F sc_Ratio_whole rfl (fun cdv A outer st H E hr => d_Ratio_whole (r := 0) s  hr) (fun ds Q X _ h => p_Ratio_whole ds Q X h)⟩
theorem fv_Ratio_whole_1 (s : Sx K mg) (c : SaysV ck fnL K) : FnV P w K mg base (tab K) 3 (pga K (ma K (ga K "Ratio") "whole")) [false] [] sp_Ratio_whole := by
  obtain ⟨fd, F, G⟩ := ok_Ratio_whole (P := P) (w := w) (base := base) s c
  exact mkFn0 F G fun _ _ _ _ _ _ us hl => match us, hl with | [_], _ => rfl
theorem ok_Ratio_floor (s : Sx K mg) (c : SaysV ck fnL K) : ∃ fd, FunD K "floor" "Ratio.floor" (defArgs s_Ratio_floor) (defBody s_Ratio_floor) (defScope s_Ratio_floor) [] [] (ma K (ga K "Ratio") "floor") fd ∧ FnOk P w K mg base (L2.CX P w) 3 (ma K (ga K "Ratio") "floor") fd ["self"] (SpV (tab K) K [false] sp_Ratio_floor) := by
  obtain ⟨fd, F⟩ := c.def_ 2 (d := dv_Ratio_floor)
  exact ⟨fd, F, fnV F sc_Ratio_floor rfl (fun cdv A outer st H E hr => d_Ratio_floor (r := 0) s  hr) (fun ds Q X _ h => p_Ratio_floor ds Q X h)⟩
theorem fv_Ratio_floor_1 (s : Sx K mg) (c : SaysV ck fnL K) : FnV P w K mg base (tab K) 3 (ma K ((tab K).cls 0) "floor") [false] [] sp_Ratio_floor := by
  obtain ⟨fd, F, G⟩ := ok_Ratio_floor (P := P) (w := w) (base := base) s c
  exact mkFn0 F G fun _ _ _ _ _ _ us hl => match us, hl with | [_], _ => rfl
theorem ok_Ratio_ceiling (s : Sx K mg) (c : SaysV ck fnL K) : ∃ fd, FunD K "ceiling" "Ratio.ceiling" (defArgs s_Ratio_ceiling) (defBody s_Ratio_ceiling) (defScope s_Ratio_ceiling) [] [] (ma K (ga K "Ratio") "ceiling") fd ∧ FnOk P w K mg base (L2.CX P w) 3 (ma K (ga K "Ratio") "ceiling") fd ["self"] (SpV (tab K) K [false] sp_Ratio_ceiling) := by
  obtain ⟨fd, F⟩ := c.def_ 3 (d := dv_Ratio_ceiling)
  exact ⟨fd, F, fnV F sc_Ratio_ceiling rfl (fun cdv A outer st H E hr => d_Ratio_ceiling (r := 0) s  hr) (fun ds Q X _ h => p_Ratio_ceiling ds Q X h)⟩
theorem fv_Ratio_ceiling_1 (s : Sx K mg) (c : SaysV ck fnL K) : FnV P w K mg base (tab K) 3 (ma K ((tab K).cls 0) "ceiling") [false] [] sp_Ratio_ceiling := by
  obtain ⟨fd, F, G⟩ := ok_Ratio_ceiling (P := P) (w := w) (base := base) s c
  exact mkFn0 F G fun _ _ _ _ _ _ us hl => match us, hl with | [_], _ => rfl
theorem ok_as_ratio (s : Sx K mg) (c : SaysV ck fnL K) : ∃ fd, FunD K "as_ratio" "as_ratio" (defArgs s_as_ratio) (defBody s_as_ratio) (defScope s_as_ratio) [] [] (ga K "as_ratio") fd ∧ FnOk P w K mg base (L2.CX P w) 6 (ga K "as_ratio") fd ["number"] (SpV (tab K) K [false] sp_as_ratio) := by
  obtain ⟨fd, F⟩ := c.def_ 23 (d := dv_as_ratio)
  exact ⟨fd, F, fnV F sc_as_ratio rfl (fun cdv A outer st H E hr => d_as_ratio (r := 3) s ((fv_Ratio___init___2 s c).mono (by decide)) hr) (fun ds Q X _ h => p_as_ratio ds Q X h)⟩
theorem fv_as_ratio_1 (s : Sx K mg) (c : SaysV ck fnL K) : FnV P w K mg base (tab K) 6 (ga K "as_ratio") [false] [] sp_as_ratio := by
  obtain ⟨fd, F, G⟩ := ok_as_ratio (P := P) (w := w) (base := base) s c
  exact mkFn0 F G fun _ _ _ _ _ _ us hl => match us, hl with | [_], _ => rfl
theorem ok_Ratio_over (s : Sx K mg) (c : SaysV ck fnL K) : ∃ fd, FunD K "over" "Ratio.over" (defArgs s_Ratio_over) (defBody s_Ratio_over) (defScope s_Ratio_over) [] [] (ma K (ga K "Ratio") "over") fd ∧ FnOk P w K mg base (L2.CX P w) 9 (ma K (ga K "Ratio") "over") fd ["self", "number"] (SpV (tab K) K [false, false] sp_Ratio_over) := by
  obtain ⟨fd, F⟩ := c.def_ 4 (d := dv_Ratio_over)
  exact ⟨fd, F, fnV F sc_Ratio_over rfl (fun cdv A outer st H E hr => d_Ratio_over (r := 6) s ((fv_as_ratio_1 s c).mono (by decide)) ((fv_Ratio___init___3 s c).mono (by decide)) hr) (fun ds Q X _ h => p_Ratio_over ds Q X h)⟩
theorem fv_Ratio_over_2 (s : Sx K mg) (c : SaysV ck fnL K) : FnV P w K mg base (tab K) 9 (ma K ((tab K).cls 0) "over") [false, false] [] sp_Ratio_over := by
  obtain ⟨fd, F, G⟩ := ok_Ratio_over (P := P) (w := w) (base := base) s c
  exact mkFn0 F G fun _ _ _ _ _ _ us hl => match us, hl with | [_, _], _ => rfl
theorem ok_Ratio___add__ (s : Sx K mg) (c : SaysV ck fnL K) : ∃ fd, FunD K "__add__" "Ratio.__add__" (defArgs s_Ratio___add__) (defBody s_Ratio___add__) (defScope s_Ratio___add__) [] [] (ma K (ga K "Ratio") "__add__") fd ∧ FnOk P w K mg base (L2.CX P w) 9 (ma K (ga K "Ratio") "__add__") fd ["self", "other"] (SpV (tab K) K [false, false] sp_Ratio___add__) := by
  obtain ⟨fd, F⟩ := c.def_ 5 (d := dv_Ratio___add__)
  exact ⟨fd, F, fnV F sc_Ratio___add__ rfl (fun cdv A outer st H E hr => d_Ratio___add__ (r := 6) s ((fv_as_ratio_1 s c).mono (by decide)) ((fv_Ratio___init___3 s c).mono (by decide)) hr) (fun ds Q X _ h => p_Ratio___add__ ds Q X h)⟩
theorem fv_Ratio___add___2 (s : Sx K mg) (c : SaysV ck fnL K) : FnV P w K mg base (tab K) 9 (ma K ((tab K).cls 0) "__add__") [false, false] [] sp_Ratio___add__ := by
  obtain ⟨fd, F, G⟩ := ok_Ratio___add__ (P := P) (w := w) (base := base) s c
  exact mkFn0 F G fun _ _ _ _ _ _ us hl => match us, hl with | [_, _], _ => rfl
theorem ok_Ratio___sub__ (s : Sx K mg) (c : SaysV ck fnL K) : ∃ fd, FunD K "__sub__" "Ratio.__sub__" (defArgs s_Ratio___sub__) (defBody s_Ratio___sub__) (defScope s_Ratio___sub__) [] [] (ma K (ga K "Ratio") "__sub__") fd ∧ FnOk P w K mg base (L2.CX P w) 9 (ma K (ga K "Ratio") "__sub__") fd ["self", "other"] (SpV (tab K) K [false, false] sp_Ratio___sub__) := by
  obtain ⟨fd, F⟩ := c.def_ 7 (d := dv_Ratio___sub__)
  exact ⟨fd, F, fnV F sc_Ratio___sub__ rfl (fun cdv A outer st H E hr => d_Ratio___sub__ (r := 6) s ((fv_as_ratio_1 s c).mono (by decide)) ((fv_Ratio___init___3 s c).mono (by decide)) hr) (fun ds Q X _ h => p_Ratio___sub__ ds Q X h)⟩
theorem fv_Ratio___sub___2 (s : Sx K mg) (c : SaysV ck fnL K) : FnV P w K mg base (tab K) 9 (ma K ((tab K).cls 0) "__sub__") [false, false] [] sp_Ratio___sub__ := by
  obtain ⟨fd, F, G⟩ := ok_Ratio___sub__ (P := P) (w := w) (base := base) s c
  exact mkFn0 F G fun _ _ _ _ _ _ us hl => match us, hl with | [_, _], _ => rfl
theorem ok_Ratio___mul__ (s : Sx K mg) (c : SaysV ck fnL K) : ∃ fd, FunD K "__mul__" "Ratio.__mul__" (defArgs s_Ratio___mul__) (defBody s_Ratio___mul__) (defScope s_Ratio___mul__) [] [] (ma K (ga K "Ratio") "__mul__") fd ∧ FnOk P w K mg base (L2.CX P w) 9 (ma K (ga K "Ratio") "__mul__") fd ["self", "other"] (SpV (tab K) K [false, false] sp_Ratio___mul__) := by
  obtain ⟨fd, F⟩ := c.def_ 9 (d := dv_Ratio___mul__)
  exact ⟨fd, F, fnV F sc_Ratio___mul__ rfl (fun cdv A outer st H E hr => d_Ratio___mul__ (r := 6) s ((fv_as_ratio_1 s c).mono (by decide)) ((fv_Ratio___init___3 s c).mono (by decide)) hr) (fun ds Q X _ h => p_Ratio___mul__ ds Q X h)⟩
theorem fv_Ratio___mul___2 (s : Sx K mg) (c : SaysV ck fnL K) : FnV P w K mg base (tab K) 9 (ma K ((tab K).cls 0) "__mul__") [false, false] [] sp_Ratio___mul__ := by
  obtain ⟨fd, F, G⟩ := ok_Ratio___mul__ (P := P) (w := w) (base := base) s c
  exact mkFn0 F G fun _ _ _ _ _ _ us hl => match us, hl with | [_, _], _ => rfl
theorem ok_Ratio___floordiv__ (s : Sx K mg) (c : SaysV ck fnL K) : ∃ fd, FunD K "__floordiv__" "Ratio.__floordiv__" (defArgs s_Ratio___floordiv__) (defBody s_Ratio___floordiv__) (defScope s_Ratio___floordiv__) [] [] (ma K (ga K "Ratio") "__floordiv__") fd ∧ FnOk P w K mg base (L2.CX P w) 9 (ma K (ga K "Ratio") "__floordiv__") fd ["self", "other"] (SpV (tab K) K [false, false] sp_Ratio___floordiv__) := by
  obtain ⟨fd, F⟩ := c.def_ 11 (d := dv_Ratio___floordiv__)
  exact ⟨fd, F, fnV F sc_Ratio___floordiv__ rfl (fun cdv A outer st H E hr => d_Ratio___floordiv__ (r := 6) s ((fv_as_ratio_1 s c).mono (by decide)) hr) (fun ds Q X _ h => p_Ratio___floordiv__ ds Q X h)⟩
theorem fv_Ratio___floordiv___2 (s : Sx K mg) (c : SaysV ck fnL K) : FnV P w K mg base (tab K) 9 (ma K ((tab K).cls 0) "__floordiv__") [false, false] [] sp_Ratio___floordiv__ := by
  obtain ⟨fd, F, G⟩ := ok_Ratio___floordiv__ (P := P) (w := w) (base := base) s c
  exact mkFn0 F G fun _ _ _ _ _ _ us hl => match us, hl with | [_, _], _ => rfl
theorem ok_Ratio___neg__ (s : Sx K mg) (c : SaysV ck fnL K) : ∃ fd, FunD K "__neg__" "Ratio.__neg__" (defArgs s_Ratio___neg__) (defBody s_Ratio___neg__) (defScope s_Ratio___neg__) [] [] (ma K (ga K "Ratio") "__neg__") fd ∧ FnOk P w K mg base (L2.CX P w) 6 (ma K (ga K "Ratio") "__neg__") fd ["self"] (SpV (tab K) K [false] sp_Ratio___neg__) := by
  obtain ⟨fd, F⟩ := c.def_ 14 (d := dv_Ratio___neg__)
  exact ⟨fd, F, fnV F sc_Ratio___neg__ rfl (fun cdv A outer st H E hr => d_Ratio___neg__ (r := 3) s ((fv_Ratio___init___3 s c).mono (by decide)) hr) (fun ds Q X _ h => p_Ratio___neg__ ds Q X h)⟩
theorem fv_Ratio___neg___1 (s : Sx K mg) (c : SaysV ck fnL K) : FnV P w K mg base (tab K) 6 (ma K ((tab K).cls 0) "__neg__") [false] [] sp_Ratio___neg__ := by
  obtain ⟨fd, F, G⟩ := ok_Ratio___neg__ (P := P) (w := w) (base := base) s c
  exact mkFn0 F G fun _ _ _ _ _ _ us hl => match us, hl with | [_], _ => rfl
theorem du_dn1 (s : Sx K mg) (c : SaysV ck fnL K) : ∀ i m sp, dn1 i m = some sp → i < (tab K).n → DnOk P w K mg base (tab K) 9 i m m.ms sp := by
  intro i m sp h _
  unfold dn1 at h
  split at h
  · cases h
    exact (DnOk.mk' (methB_ok (chk_at c.chk 56)) (fv_Ratio___add___2 s c)).mono (by decide)
  · cases h
    exact (DnOk.mk' (methB_ok (chk_at c.chk 57)) (fv_Ratio___sub___2 s c)).mono (by decide)
  · cases h
    exact (DnOk.mk' (methB_ok (chk_at c.chk 58)) (fv_Ratio___mul___2 s c)).mono (by decide)
  · cases h
    exact (DnOk.mk' (methB_ok (chk_at c.chk 59)) (fv_Ratio___floordiv___2 s c)).mono (by decide)
  · cases h
    exact (DnOk.mk' (methB_ok (chk_at c.chk 60)) (fv_Ratio___neg___1 s c)).mono (by decide)
  · cases h
theorem ok_Ratio___radd__ (s : Sx K mg) (c : SaysV ck fnL K) : ∃ fd, FunD K "__radd__" "Ratio.__radd__" (defArgs s_Ratio___radd__) (defBody s_Ratio___radd__) (defScope s_Ratio___radd__) [] [] (ma K (ga K "Ratio") "__radd__") fd ∧ FnOk P w K mg base (L2.CX P w) 12 (ma K (ga K "Ratio") "__radd__") fd ["self", "other"] (SpV (tab K) K [false, false] sp_Ratio___radd__) := by
  obtain ⟨fd, F⟩ := c.def_ 6 (d := dv_Ratio___radd__)
  exact ⟨fd, F, fnV F sc_Ratio___radd__ rfl (fun cdv A outer st H E hr => d_Ratio___radd__ (r := 9) s (fun i m sp h hi => (du_dn1 s c i m sp h hi).mono (by decide)) hr) (fun ds Q X _ h => p_Ratio___radd__ ds Q X h)⟩
theorem fv_Ratio___radd___2 (s : Sx K mg) (c : SaysV ck fnL K) : FnV P w K mg base (tab K) 12 (ma K ((tab K).cls 0) "__radd__") [false, false] [] sp_Ratio___radd__ := by
  obtain ⟨fd, F, G⟩ := ok_Ratio___radd__ (P := P) (w := w) (base := base) s c
  exact mkFn0 F G fun _ _ _ _ _ _ us hl => match us, hl with | [_, _], _ => rfl
theorem ok_Ratio___rsub__ (s : Sx K mg) (c : SaysV ck fnL K) : ∃ fd, FunD K "__rsub__" "Ratio.__rsub__" (defArgs s_Ratio___rsub__) (defBody s_Ratio___rsub__) (defScope s_Ratio___rsub__) [] [] (ma K (ga K "Ratio") "__rsub__") fd ∧ FnOk P w K mg base (L2.CX P w) 12 (ma K (ga K "Ratio") "__rsub__") fd ["self", "other"] (SpV (tab K) K [false, false] sp_Ratio___rsub__) := by
  obtain ⟨fd, F⟩ := c.def_ 8 (d := dv_Ratio___rsub__)
  exact ⟨fd, F, fnV F sc_Ratio___rsub__ rfl (fun cdv A outer st H E hr => d_Ratio___rsub__ (r := 9) s (fun i m sp h hi => (du_dn1 s c i m sp h hi).mono (by decide)) hr) (fun ds Q X _ h => p_Ratio___rsub__ ds Q X h)⟩
theorem fv_Ratio___rsub___2 (s : Sx K mg) (c : SaysV ck fnL K) : FnV P w K mg base (tab K) 12 (ma K ((tab K).cls 0) "__rsub__") [false, false] [] sp_Ratio___rsub__ := by
  obtain ⟨fd, F, G⟩ := ok_Ratio___rsub__ (P := P) (w := w) (base := base) s c
  exact mkFn0 F G fun _ _ _ _ _ _ us hl => match us, hl with | [_, _], _ => rfl
theorem ok_Ratio___rmul__ (s : Sx K mg) (c : SaysV ck fnL K) : ∃ fd, FunD K "__rmul__" "Ratio.__rmul__" (defArgs s_Ratio___rmul__) (defBody s_Ratio___rmul__) (defScope s_Ratio___rmul__) [] [] (ma K (ga K "Ratio") "__rmul__") fd ∧ FnOk P w K mg base (L2.CX P w) 12 (ma K (ga K "Ratio") "__rmul__") fd ["self", "other"] (SpV (tab K) K [false, false] sp_Ratio___rmul__) := by
  obtain ⟨fd, F⟩ := c.def_ 10 (d := dv_Ratio___rmul__)
  exact ⟨fd, F, fnV F sc_Ratio___rmul__ rfl (fun cdv A outer st H E hr => d_Ratio___rmul__ (r := 9) s (fun i m sp h hi => (du_dn1 s c i m sp h hi).mono (by decide)) hr) (fun ds Q X _ h => p_Ratio___rmul__ ds Q X h)⟩
theorem fv_Ratio___rmul___2 (s : Sx K mg) (c : SaysV ck fnL K) : FnV P w K mg base (tab K) 12 (ma K ((tab K).cls 0) "__rmul__") [false, false] [] sp_Ratio___rmul__ := by
  obtain ⟨fd, F, G⟩ := ok_Ratio___rmul__ (P := P) (w := w) (base := base) s c
  exact mkFn0 F G fun _ _ _ _ _ _ us hl => match us, hl with | [_, _], _ => rfl
theorem ok_Ratio___mod__ (s : Sx K mg) (c : SaysV ck fnL K) : ∃ fd, FunD K "__mod__" "Ratio.__mod__" (defArgs s_Ratio___mod__) (defBody s_Ratio___mod__) (defScope s_Ratio___mod__) [] [] (ma K (ga K "Ratio") "__mod__") fd ∧ FnOk P w K mg base (L2.CX P w) 12 (ma K (ga K "Ratio") "__mod__") fd ["self", "other"] (SpV (tab K) K [false, false] sp_Ratio___mod__) := by
  obtain ⟨fd, F⟩ := c.def_ 12 (d := dv_Ratio___mod__)
  exact ⟨fd, F, fnV F sc_Ratio___mod__ rfl (fun cdv A outer st H E hr => d_Ratio___mod__ (r := 9) s ((fv_as_ratio_1 s c).mono (by decide)) (fun i m sp h hi => (du_dn1 s c i m sp h hi).mono (by decide)) hr) (fun ds Q X _ h => p_Ratio___mod__ ds Q X h)⟩
theorem fv_Ratio___mod___2 (s : Sx K mg) (c : SaysV ck fnL K) : FnV P w K mg base (tab K) 12 (ma K ((tab K).cls 0) "__mod__") [false, false] [] sp_Ratio___mod__ := by
  obtain ⟨fd, F, G⟩ := ok_Ratio___mod__ (P := P) (w := w) (base := base) s c
  exact mkFn0 F G fun _ _ _ _ _ _ us hl => match us, hl with | [_, _], _ => rfl
theorem ok_Ratio___pow__ (s : Sx K mg) (c : SaysV ck fnL K) : ∃ fd, FunD K "__pow__" "Ratio.__pow__" (defArgs s_Ratio___pow__) (defBody s_Ratio___pow__) (defScope s_Ratio___pow__) [] [] (ma K (ga K "Ratio") "__pow__") fd ∧ FnOk P w K mg base (L2.CX P w) 6 (ma K (ga K "Ratio") "__pow__") fd ["self", "power"] (SpV (tab K) K [false, false] sp_Ratio___pow__) := by
  obtain ⟨fd, F⟩ := c.def_ 13 (d := dv_Ratio___pow__)
  exact ⟨fd, F, fnV F sc_Ratio___pow__ rfl (fun cdv A outer st H E hr => d_Ratio___pow__ (r := 3) s ((fv_Ratio___init___3 s c).mono (by decide)) hr) (fun ds Q X _ h => p_Ratio___pow__ ds Q X h)⟩
theorem fv_Ratio___pow___2 (s : Sx K mg) (c : SaysV ck fnL K) : FnV P w K mg base (tab K) 6 (ma K ((tab K).cls 0) "__pow__") [false, false] [] sp_Ratio___pow__ := by
  obtain ⟨fd, F, G⟩ := ok_Ratio___pow__ (P := P) (w := w) (base := base) s c
  exact mkFn0 F G fun _ _ _ _ _ _ us hl => match us, hl with | [_, _], _ => rfl
theorem ok_Ratio___abs__ (s : Sx K mg) (c : SaysV ck fnL K) : ∃ fd, FunD K "__abs__" "Ratio.__abs__" (defArgs s_Ratio___abs__) (defBody s_Ratio___abs__) (defScope s_Ratio___abs__) [] [] (ma K (ga K "Ratio") "__abs__") fd ∧ FnOk P w K mg base (L2.CX P w) 6 (ma K (ga K "Ratio") "__abs__") fd ["self"] (SpV (tab K) K [false] sp_Ratio___abs__) := by
  obtain ⟨fd, F⟩ := c.def_ 15 (d := dv_Ratio___abs__)
  exact ⟨fd, F, fnV F sc_Ratio___abs__ rfl (fun cdv A outer st H E hr => d_Ratio___abs__ (r := 3) s ((fv_Ratio___init___3 s c).mono (by decide)) hr) (fun ds Q X _ h => p_Ratio___abs__ ds Q X h)⟩
theorem fv_Ratio___abs___1 (s : Sx K mg) (c : SaysV ck fnL K) : FnV P w K mg base (tab K) 6 (ma K ((tab K).cls 0) "__abs__") [false] [] sp_Ratio___abs__ := by
  obtain ⟨fd, F, G⟩ := ok_Ratio___abs__ (P := P) (w := w) (base := base) s c
  exact mkFn0 F G fun _ _ _ _ _ _ us hl => match us, hl with | [_], _ => rfl
theorem ok_Ratio___bool__ (s : Sx K mg) (c : SaysV ck fnL K) : ∃ fd, FunD K "__bool__" "Ratio.__bool__" (defArgs s_Ratio___bool__) (defBody s_Ratio___bool__) (defScope s_Ratio___bool__) [] [] (ma K (ga K "Ratio") "__bool__") fd ∧ FnOk P w K mg base (L2.CX P w) 3 (ma K (ga K "Ratio") "__bool__") fd ["self"] (SpV (tab K) K [false] sp_Ratio___bool__) := by
  obtain ⟨fd, F⟩ := c.def_ 16 (d := dv_Ratio___bool__)
  exact ⟨fd, F, fnV F sc_Ratio___bool__ rfl (fun cdv A outer st H E hr => d_Ratio___bool__ (r := 0) s  hr) (fun ds Q X _ h => p_Ratio___bool__ ds Q X h)⟩
theorem fv_Ratio___bool___1 (s : Sx K mg) (c : SaysV ck fnL K) : FnV P w K mg base (tab K) 3 (ma K ((tab K).cls 0) "__bool__") [false] [] sp_Ratio___bool__ := by
  obtain ⟨fd, F, G⟩ := ok_Ratio___bool__ (P := P) (w := w) (base := base) s c
  exact mkFn0 F G fun _ _ _ _ _ _ us hl => match us, hl with | [_], _ => rfl
theorem ok_Ratio___eq__ (s : Sx K mg) (c : SaysV ck fnL K) : ∃ fd, FunD K "__eq__" "Ratio.__eq__" (defArgs s_Ratio___eq__) (defBody s_Ratio___eq__) (defScope s_Ratio___eq__) [] [] (ma K (ga K "Ratio") "__eq__") fd ∧ FnOk P w K mg base (L2.CX P w) 3 (ma K (ga K "Ratio") "__eq__") fd ["self", "other"] (SpV (tab K) K [false, false] sp_Ratio___eq__) := by
  obtain ⟨fd, F⟩ := c.def_ 17 (d := dv_Ratio___eq__)
  exact ⟨fd, F, fnV F sc_Ratio___eq__ rfl (fun cdv A outer st H E hr => d_Ratio___eq__ (r := 0) s  hr) (fun ds Q X _ h => p_Ratio___eq__ ds Q X h)⟩
theorem fv_Ratio___eq___2 (s : Sx K mg) (c : SaysV ck fnL K) : FnV P w K mg base (tab K) 3 (ma K ((tab K).cls 0) "__eq__") [false, false] [] sp_Ratio___eq__ := by
  obtain ⟨fd, F, G⟩ := ok_Ratio___eq__ (P := P) (w := w) (base := base) s c
  exact mkFn0 F G fun _ _ _ _ _ _ us hl => match us, hl with | [_, _], _ => rfl
theorem ok_Ratio___lt__ (s : Sx K mg) (c : SaysV ck fnL K) : ∃ fd, FunD K "__lt__" "Ratio.__lt__" (defArgs s_Ratio___lt__) (defBody s_Ratio___lt__) (defScope s_Ratio___lt__) [] [] (ma K (ga K "Ratio") "__lt__") fd ∧ FnOk P w K mg base (L2.CX P w) 3 (ma K (ga K "Ratio") "__lt__") fd ["self", "other"] (SpV (tab K) K [false, false] sp_Ratio___lt__) := by
  obtain ⟨fd, F⟩ := c.def_ 18 (d := dv_Ratio___lt__)
  exact ⟨fd, F, fnV F sc_Ratio___lt__ rfl (fun cdv A outer st H E hr => d_Ratio___lt__ (r := 0) s  hr) (fun ds Q X _ h => p_Ratio___lt__ ds Q X h)⟩
theorem fv_Ratio___lt___2 (s : Sx K mg) (c : SaysV ck fnL K) : FnV P w K mg base (tab K) 3 (ma K ((tab K).cls 0) "__lt__") [false, false] [] sp_Ratio___lt__ := by
  obtain ⟨fd, F, G⟩ := ok_Ratio___lt__ (P := P) (w := w) (base := base) s c
  exact mkFn0 F G fun _ _ _ _ _ _ us hl => match us, hl with | [_, _], _ => rfl
theorem ok_Ratio___le__ (s : Sx K mg) (c : SaysV ck fnL K) : ∃ fd, FunD K "__le__" "Ratio.__le__" (defArgs s_Ratio___le__) (defBody s_Ratio___le__) (defScope s_Ratio___le__) [] [] (ma K (ga K "Ratio") "__le__") fd ∧ FnOk P w K mg base (L2.CX P w) 3 (ma K (ga K "Ratio") "__le__") fd ["self", "other"] (SpV (tab K) K [false, false] sp_Ratio___le__) := by
  obtain ⟨fd, F⟩ := c.def_ 19 (d := dv_Ratio___le__)
  exact ⟨fd, F, fnV F sc_Ratio___le__ rfl (fun cdv A outer st H E hr => d_Ratio___le__ (r := 0) s  hr) (fun ds Q X _ h => p_Ratio___le__ ds Q X h)⟩
theorem fv_Ratio___le___2 (s : Sx K mg) (c : SaysV ck fnL K) : FnV P w K mg base (tab K) 3 (ma K ((tab K).cls 0) "__le__") [false, false] [] sp_Ratio___le__ := by
  obtain ⟨fd, F, G⟩ := ok_Ratio___le__ (P := P) (w := w) (base := base) s c
  exact mkFn0 F G fun _ _ _ _ _ _ us hl => match us, hl with | [_, _], _ => rfl
theorem ok_Ratio___gt__ (s : Sx K mg) (c : SaysV ck fnL K) : ∃ fd, FunD K "__gt__" "Ratio.__gt__" (defArgs s_Ratio___gt__) (defBody s_Ratio___gt__) (defScope s_Ratio___gt__) [] [] (ma K (ga K "Ratio") "__gt__") fd ∧ FnOk P w K mg base (L2.CX P w) 3 (ma K (ga K "Ratio") "__gt__") fd ["self", "other"] (SpV (tab K) K [false, false] sp_Ratio___gt__) := by
  obtain ⟨fd, F⟩ := c.def_ 20 (d := dv_Ratio___gt__)
  exact ⟨fd, F, fnV F sc_Ratio___gt__ rfl (fun cdv A outer st H E hr => d_Ratio___gt__ (r := 0) s  hr) (fun ds Q X _ h => p_Ratio___gt__ ds Q X h)⟩
theorem fv_Ratio___gt___2 (s : Sx K mg) (c : SaysV ck fnL K) : FnV P w K mg base (tab K) 3 (ma K ((tab K).cls 0) "__gt__") [false, false] [] sp_Ratio___gt__ := by
  obtain ⟨fd, F, G⟩ := ok_Ratio___gt__ (P := P) (w := w) (base := base) s c
  exact mkFn0 F G fun _ _ _ _ _ _ us hl => match us, hl with | [_, _], _ => rfl
theorem ok_Ratio___ge__ (s : Sx K mg) (c : SaysV ck fnL K) : ∃ fd, FunD K "__ge__" "Ratio.__ge__" (defArgs s_Ratio___ge__) (defBody s_Ratio___ge__) (defScope s_Ratio___ge__) [] [] (ma K (ga K "Ratio") "__ge__") fd ∧ FnOk P w K mg base (L2.CX P w) 3 (ma K (ga K "Ratio") "__ge__") fd ["self", "other"] (SpV (tab K) K [false, false] sp_Ratio___ge__) := by
  obtain ⟨fd, F⟩ := c.def_ 21 (d := dv_Ratio___ge__)
  exact ⟨fd, F, fnV F sc_Ratio___ge__ rfl (fun cdv A outer st H E hr => d_Ratio___ge__ (r := 0) s  hr) (fun ds Q X _ h => p_Ratio___ge__ ds Q X h)⟩
theorem fv_Ratio___ge___2 (s : Sx K mg) (c : SaysV ck fnL K) : FnV P w K mg base (tab K) 3 (ma K ((tab K).cls 0) "__ge__") [false, false] [] sp_Ratio___ge__ := by
  obtain ⟨fd, F, G⟩ := ok_Ratio___ge__ (P := P) (w := w) (base := base) s c
  exact mkFn0 F G fun _ _ _ _ _ _ us hl => match us, hl with | [_, _], _ => rfl
theorem ok_Ratio___str__ (s : Sx K mg) (c : SaysV ck fnL K) : ∃ fd, FunD K "__str__" "Ratio.__str__" (defArgs s_Ratio___str__) (defBody s_Ratio___str__) (defScope s_Ratio___str__) [] [] (ma K (ga K "Ratio") "__str__") fd ∧ FnOk P w K mg base (L2.CX P w) 3 (ma K (ga K "Ratio") "__str__") fd ["self"] (SpV (tab K) K [false] sp_Ratio___str__) := by
  obtain ⟨fd, F⟩ := c.def_ 22 (d := dv_Ratio___str__)
  exact ⟨fd, F, fnV F sc_Ratio___str__ rfl (fun cdv A outer st H E hr => d_Ratio___str__ (r := 0) s  hr) (fun ds Q X _ h => p_Ratio___str__ ds Q X h)⟩
theorem fv_Ratio___str___1 (s : Sx K mg) (c : SaysV ck fnL K) : FnV P w K mg base (tab K) 3 (ma K ((tab K).cls 0) "__str__") [false] [] sp_Ratio___str__ := by
  obtain ⟨fd, F, G⟩ := ok_Ratio___str__ (P := P) (w := w) (base := base) s c
  exact mkFn0 F G fun _ _ _ _ _ _ us hl => match us, hl with | [_], _ => rfl
theorem du_dn (s : Sx K mg) (c : SaysV ck fnL K) : ∀ i m sp, dn i m = some sp → i < (tab K).n → DnOk P w K mg base (tab K) 12 i m m.ms sp := by
  intro i m sp h _
  unfold dn at h
  split at h
  · cases h
    exact (DnOk.mk' (methB_ok (chk_at c.chk 56)) (fv_Ratio___add___2 s c)).mono (by decide)
  · cases h
    exact (DnOk.mk' (methB_ok (chk_at c.chk 61)) (fv_Ratio___radd___2 s c)).mono (by decide)
  · cases h
    exact (DnOk.mk' (methB_ok (chk_at c.chk 57)) (fv_Ratio___sub___2 s c)).mono (by decide)
  · cases h
    exact (DnOk.mk' (methB_ok (chk_at c.chk 62)) (fv_Ratio___rsub___2 s c)).mono (by decide)
  · cases h
    exact (DnOk.mk' (methB_ok (chk_at c.chk 58)) (fv_Ratio___mul___2 s c)).mono (by decide)
  · cases h
    exact (DnOk.mk' (methB_ok (chk_at c.chk 63)) (fv_Ratio___rmul___2 s c)).mono (by decide)
  · cases h
    exact (DnOk.mk' (methB_ok (chk_at c.chk 59)) (fv_Ratio___floordiv___2 s c)).mono (by decide)
  · cases h
    exact (DnOk.mk' (methB_ok (chk_at c.chk 64)) (fv_Ratio___mod___2 s c)).mono (by decide)
  · cases h
    exact (DnOk.mk' (methB_ok (chk_at c.chk 65)) (fv_Ratio___pow___2 s c)).mono (by decide)
  · cases h
    exact (DnOk.mk' (methB_ok (chk_at c.chk 60)) (fv_Ratio___neg___1 s c)).mono (by decide)
  · cases h
    exact (DnOk.mk' (methB_ok (chk_at c.chk 66)) (fv_Ratio___abs___1 s c)).mono (by decide)
  · cases h
    exact (DnOk.mk' (methB_ok (chk_at c.chk 67)) (fv_Ratio___bool___1 s c)).mono (by decide)
  · cases h
    exact (DnOk.mk' (methB_ok (chk_at c.chk 68)) (fv_Ratio___eq___2 s c)).mono (by decide)
  · cases h
    exact (DnOk.mk' (methB_ok (chk_at c.chk 69)) (fv_Ratio___lt___2 s c)).mono (by decide)
  · cases h
    exact (DnOk.mk' (methB_ok (chk_at c.chk 70)) (fv_Ratio___le___2 s c)).mono (by decide)
  · cases h
    exact (DnOk.mk' (methB_ok (chk_at c.chk 71)) (fv_Ratio___gt___2 s c)).mono (by decide)
  · cases h
    exact (DnOk.mk' (methB_ok (chk_at c.chk 72)) (fv_Ratio___ge___2 s c)).mono (by decide)
  · cases h
    exact (DnOk.mk' (methB_ok (chk_at c.chk 73)) (fv_Ratio___str___1 s c)).mono (by decide)
  · cases h
theorem ok__law_cell (s : Sx K mg) (c : SaysV ck fnL K) : ∃ fd, FunD K "_law_cell" "_law_cell" (defArgs s__law_cell) (defBody s__law_cell) (defScope s__law_cell) [] [] (ga K "_law_cell") fd ∧ FnOk P w K mg base (L2.CX P w) 15 (ga K "_law_cell") fd ["script", "k"] (SpV (tab K) K [false, false] sp__law_cell) := by
  obtain ⟨fd, F⟩ := c.def_ 24 (d := dv__law_cell)
  exact ⟨fd, F, fnV F sc__law_cell rfl (fun cdv A outer st H E hr => d__law_cell (r := 12) s (fun i m sp h hi => (du_dn s c i m sp h hi).mono (by decide)) hr) (fun ds Q X _ h => p__law_cell ds Q X h)⟩
theorem fv__law_cell_2 (s : Sx K mg) (c : SaysV ck fnL K) : FnV P w K mg base (tab K) 15 (ga K "_law_cell") [false, false] [] sp__law_cell := by
  obtain ⟨fd, F, G⟩ := ok__law_cell (P := P) (w := w) (base := base) s c
  exact mkFn0 F G fun _ _ _ _ _ _ us hl => match us, hl with | [_, _], _ => rfl
theorem ok__law_draws (s : Sx K mg) (c : SaysV ck fnL K) : ∃ fd, FunD K "_law_draws" "_law_draws" (defArgs s__law_draws) (defBody s__law_draws) (defScope s__law_draws) [] [] (ga K "_law_draws") fd ∧ FnOk P w K mg base (L2.CX P w) 15 (ga K "_law_draws") fd ["cell", "salt", "menu"] (SpV (tab K) K [false, false, false] sp__law_draws) := by
  obtain ⟨fd, F⟩ := c.def_ 25 (d := dv__law_draws)
  exact ⟨fd, F, fnV F sc__law_draws rfl (fun cdv A outer st H E hr => d__law_draws (r := 12) s (fun i m sp h hi => (du_dn s c i m sp h hi).mono (by decide)) hr) (fun ds Q X _ h => p__law_draws ds Q X h)⟩
theorem fv__law_draws_3 (s : Sx K mg) (c : SaysV ck fnL K) : FnV P w K mg base (tab K) 15 (ga K "_law_draws") [false, false, false] [] sp__law_draws := by
  obtain ⟨fd, F, G⟩ := ok__law_draws (P := P) (w := w) (base := base) s c
  exact mkFn0 F G fun _ _ _ _ _ _ us hl => match us, hl with | [_, _, _], _ => rfl
theorem ok__law_gcd (s : Sx K mg) (c : SaysV ck fnL K) : ∃ fd, FunD K "_law_gcd" "_law_gcd" (defArgs s__law_gcd) (defBody s__law_gcd) (defScope s__law_gcd) [] [] (ga K "_law_gcd") fd ∧ FnOk P w K mg base (L2.CX P w) 15 (ga K "_law_gcd") fd ["a", "b"] (SpV (tab K) K [false, false] sp__law_gcd) := by
  obtain ⟨fd, F⟩ := c.def_ 26 (d := dv__law_gcd)
  exact ⟨fd, F, fnV F sc__law_gcd rfl (fun cdv A outer st H E hr => d__law_gcd (r := 12) s (fun i m sp h hi => (du_dn s c i m sp h hi).mono (by decide)) hr) (fun ds Q X _ h => p__law_gcd ds Q X h)⟩
theorem fv__law_gcd_2 (s : Sx K mg) (c : SaysV ck fnL K) : FnV P w K mg base (tab K) 15 (ga K "_law_gcd") [false, false] [] sp__law_gcd := by
  obtain ⟨fd, F, G⟩ := ok__law_gcd (P := P) (w := w) (base := base) s c
  exact mkFn0 F G fun _ _ _ _ _ _ us hl => match us, hl with | [_, _], _ => rfl
theorem ok__law_is_int (s : Sx K mg) (c : SaysV ck fnL K) : ∃ fd, FunD K "_law_is_int" "_law_is_int" (defArgs s__law_is_int) (defBody s__law_is_int) (defScope s__law_is_int) [] [] (ga K "_law_is_int") fd ∧ FnOk P w K mg base (L2.CX P w) 15 (ga K "_law_is_int") fd ["x"] (SpV (tab K) K [false] sp__law_is_int) := by
  obtain ⟨fd, F⟩ := c.def_ 27 (d := dv__law_is_int)
  exact ⟨fd, F, fnV F sc__law_is_int rfl (fun cdv A outer st H E hr => d__law_is_int (r := 12) s (fun i m sp h hi => (du_dn s c i m sp h hi).mono (by decide)) hr) (fun ds Q X _ h => p__law_is_int ds Q X h)⟩
theorem fv__law_is_int_1 (s : Sx K mg) (c : SaysV ck fnL K) : FnV P w K mg base (tab K) 15 (ga K "_law_is_int") [false] [] sp__law_is_int := by
  obtain ⟨fd, F, G⟩ := ok__law_is_int (P := P) (w := w) (base := base) s c
  exact mkFn0 F G fun _ _ _ _ _ _ us hl => match us, hl with | [_], _ => rfl
theorem ok__law_is_ratio (s : Sx K mg) (c : SaysV ck fnL K) : ∃ fd, FunD K "_law_is_ratio" "_law_is_ratio" (defArgs s__law_is_ratio) (defBody s__law_is_ratio) (defScope s__law_is_ratio) [] [] (ga K "_law_is_ratio") fd ∧ FnOk P w K mg base (L2.CX P w) 18 (ga K "_law_is_ratio") fd ["x"] (SpV (tab K) K [false] sp__law_is_ratio) := by
  obtain ⟨fd, F⟩ := c.def_ 28 (d := dv__law_is_ratio)
  exact ⟨fd, F, fnV F sc__law_is_ratio rfl (fun cdv A outer st H E hr => d__law_is_ratio (r := 15) s ((fv__law_is_int_1 s c).mono (by decide)) ((fv__law_gcd_2 s c).mono (by decide)) (fun i m sp h hi => (du_dn s c i m sp h hi).mono (by decide)) hr) (fun ds Q X _ h => p__law_is_ratio ds Q X h)⟩
theorem fv__law_is_ratio_1 (s : Sx K mg) (c : SaysV ck fnL K) : FnV P w K mg base (tab K) 18 (ga K "_law_is_ratio") [false] [] sp__law_is_ratio := by
  obtain ⟨fd, F, G⟩ := ok__law_is_ratio (P := P) (w := w) (base := base) s c
  exact mkFn0 F G fun _ _ _ _ _ _ us hl => match us, hl with | [_], _ => rfl
theorem ok__law_digits (s : Sx K mg) (c : SaysV ck fnL K) : ∃ fd, FunD K "_law_digits" "_law_digits" (defArgs s__law_digits) (defBody s__law_digits) (defScope s__law_digits) [] [] (ga K "_law_digits") fd ∧ FnOk P w K mg base (L2.CX P w) 18 (ga K "_law_digits") fd ["cell", "salt"] (SpV (tab K) K [false, false] sp__law_digits) := by
  obtain ⟨fd, F⟩ := c.def_ 29 (d := dv__law_digits)
  exact ⟨fd, F, fnV F sc__law_digits rfl (fun cdv A outer st H E hr => d__law_digits (r := 15) s ((fv__law_draws_3 s c).mono (by decide)) (fun i m sp h hi => (du_dn s c i m sp h hi).mono (by decide)) hr) (fun ds Q X _ h => p__law_digits ds Q X h)⟩
theorem fv__law_digits_2 (s : Sx K mg) (c : SaysV ck fnL K) : FnV P w K mg base (tab K) 18 (ga K "_law_digits") [false, false] [] sp__law_digits := by
  obtain ⟨fd, F, G⟩ := ok__law_digits (P := P) (w := w) (base := base) s c
  exact mkFn0 F G fun _ _ _ _ _ _ us hl => match us, hl with | [_, _], _ => rfl
theorem ok__law_numbers (s : Sx K mg) (c : SaysV ck fnL K) : ∃ fd, FunD K "_law_numbers" "_law_numbers" (defArgs s__law_numbers) (defBody s__law_numbers) (defScope s__law_numbers) [] [] (ga K "_law_numbers") fd ∧ FnOk P w K mg base (L2.CX P w) 21 (ga K "_law_numbers") fd ["script"] (SpV (tab K) K [false] sp__law_numbers) := by
  obtain ⟨fd, F⟩ := c.def_ 30 (d := dv__law_numbers)
  exact ⟨fd, F, fnV F sc__law_numbers rfl (fun cdv A outer st H E hr => d__law_numbers (r := 18) s ((fv__law_cell_2 s c).mono (by decide)) ((fv__law_digits_2 s c).mono (by decide)) ((fv__law_draws_3 s c).mono (by decide)) (fun i m sp h hi => (du_dn s c i m sp h hi).mono (by decide)) hr) (fun ds Q X _ h => p__law_numbers ds Q X h)⟩
theorem fv__law_numbers_1 (s : Sx K mg) (c : SaysV ck fnL K) : FnV P w K mg base (tab K) 21 (ga K "_law_numbers") [false] [] sp__law_numbers := by
  obtain ⟨fd, F, G⟩ := ok__law_numbers (P := P) (w := w) (base := base) s c
  exact mkFn0 F G fun _ _ _ _ _ _ us hl => match us, hl with | [_], _ => rfl
theorem ok__law_shows (s : Sx K mg) (c : SaysV ck fnL K) : ∃ fd, FunD K "_law_shows" "_law_shows" (defArgs s__law_shows) (defBody s__law_shows) (defScope s__law_shows) [] [] (ga K "_law_shows") fd ∧ FnOk P w K mg base (L2.CX P w) 21 (ga K "_law_shows") fd ["x", "top", "under"] (SpV (tab K) K [false, false, false] sp__law_shows) := by
  obtain ⟨fd, F⟩ := c.def_ 31 (d := dv__law_shows)
  exact ⟨fd, F, fnV F sc__law_shows rfl (fun cdv A outer st H E hr => d__law_shows (r := 18) s ((fv__law_is_ratio_1 s c).mono (by decide)) ((fv_Ratio_whole_1 s c).mono (by decide)) (fun i m sp h hi => (du_dn s c i m sp h hi).mono (by decide)) hr) (fun ds Q X _ h => p__law_shows ds Q X h)⟩
theorem fv__law_shows_3 (s : Sx K mg) (c : SaysV ck fnL K) : FnV P w K mg base (tab K) 21 (ga K "_law_shows") [false, false, false] [] sp__law_shows := by
  obtain ⟨fd, F, G⟩ := ok__law_shows (P := P) (w := w) (base := base) s c
  exact mkFn0 F G fun _ _ _ _ _ _ us hl => match us, hl with | [_, _, _], _ => rfl
theorem ok__law_refused (s : Sx K mg) (c : SaysV ck fnL K) : ∃ fd, FunD K "_law_refused" "_law_refused" (defArgs s__law_refused) (defBody s__law_refused) (defScope s__law_refused) [] [] (ga K "_law_refused") fd ∧ FnOk P w K mg base (L2.CX P w) 15 (ga K "_law_refused") fd ["top"] (SpV (tab K) K [false] sp__law_refused) := by
  obtain ⟨fd, F⟩ := c.def_ 32 (d := dv__law_refused)
  exact ⟨fd, F, fnV F sc__law_refused rfl (fun cdv A outer st H E hr => d__law_refused (r := 12) s ((fv_Ratio___init___3 s c).mono (by decide)) (fun i m sp h hi => (du_dn s c i m sp h hi).mono (by decide)) hr) (fun ds Q X _ h => p__law_refused ds Q X h)⟩
theorem fv__law_refused_1 (s : Sx K mg) (c : SaysV ck fnL K) : FnV P w K mg base (tab K) 15 (ga K "_law_refused") [false] [] sp__law_refused := by
  obtain ⟨fd, F, G⟩ := ok__law_refused (P := P) (w := w) (base := base) s c
  exact mkFn0 F G fun _ _ _ _ _ _ us hl => match us, hl with | [_], _ => rfl
theorem ok__law_part_a (s : Sx K mg) (c : SaysV ck fnL K) : ∃ fd, FunD K "_law_part_a" "_law_part_a" (defArgs s__law_part_a) (defBody s__law_part_a) (defScope s__law_part_a) [] [] (ga K "_law_part_a") fd ∧ FnOk P w K mg base (L2.CX P w) 24 (ga K "_law_part_a") fd ["script"] (SpV (tab K) K [false] sp__law_part_a) := by
  obtain ⟨fd, F⟩ := c.def_ 33 (d := dv__law_part_a)
  exact ⟨fd, F, fnV F sc__law_part_a rfl (fun cdv A outer st H E hr => d__law_part_a (r := 21) s ((fv__law_numbers_1 s c).mono (by decide)) ((fv__law_refused_1 s c).mono (by decide)) ((fv_Ratio___init___2 s c).mono (by decide)) ((fv__law_shows_3 s c).mono (by decide)) ((fv_as_ratio_1 s c).mono (by decide)) ((fv_Ratio___init___3 s c).mono (by decide)) (fun i m sp h hi => (du_dn s c i m sp h hi).mono (by decide)) hr) (fun ds Q X _ h => p__law_part_a ds Q X h)⟩
theorem fv__law_part_a_1 (s : Sx K mg) (c : SaysV ck fnL K) : FnV P w K mg base (tab K) 24 (ga K "_law_part_a") [false] [] sp__law_part_a := by
  obtain ⟨fd, F, G⟩ := ok__law_part_a (P := P) (w := w) (base := base) s c
  exact mkFn0 F G fun _ _ _ _ _ _ us hl => match us, hl with | [_], _ => rfl
theorem ok__law_worth (s : Sx K mg) (c : SaysV ck fnL K) : ∃ fd, FunD K "_law_worth" "_law_worth" (defArgs s__law_worth) (defBody s__law_worth) (defScope s__law_worth) [] [] (ga K "_law_worth") fd ∧ FnOk P w K mg base (L2.CX P w) 21 (ga K "_law_worth") fd ["x", "top", "under"] (SpV (tab K) K [false, false, false] sp__law_worth) := by
  obtain ⟨fd, F⟩ := c.def_ 34 (d := dv__law_worth)
  exact ⟨fd, F, fnV F sc__law_worth rfl (fun cdv A outer st H E hr => d__law_worth (r := 18) s ((fv__law_is_ratio_1 s c).mono (by decide)) (fun i m sp h hi => (du_dn s c i m sp h hi).mono (by decide)) hr) (fun ds Q X _ h => p__law_worth ds Q X h)⟩
theorem fv__law_worth_3 (s : Sx K mg) (c : SaysV ck fnL K) : FnV P w K mg base (tab K) 21 (ga K "_law_worth") [false, false, false] [] sp__law_worth := by
  obtain ⟨fd, F, G⟩ := ok__law_worth (P := P) (w := w) (base := base) s c
  exact mkFn0 F G fun _ _ _ _ _ _ us hl => match us, hl with | [_, _, _], _ => rfl
theorem ok__law_fraction (s : Sx K mg) (c : SaysV ck fnL K) : ∃ fd, FunD K "_law_fraction" "_law_fraction" (defArgs s__law_fraction) (defBody s__law_fraction) (defScope s__law_fraction) [] [] (ga K "_law_fraction") fd ∧ FnOk P w K mg base (L2.CX P w) 21 (ga K "_law_fraction") fd ["script", "k", "size"] (SpV (tab K) K [false, false, false] sp__law_fraction) := by
  obtain ⟨fd, F⟩ := c.def_ 35 (d := dv__law_fraction)
  exact ⟨fd, F, fnV F sc__law_fraction rfl (fun cdv A outer st H E hr => d__law_fraction (r := 18) s ((fv__law_cell_2 s c).mono (by decide)) ((fv__law_digits_2 s c).mono (by decide)) (fun i m sp h hi => (du_dn s c i m sp h hi).mono (by decide)) hr) (fun ds Q X _ h => p__law_fraction ds Q X h)⟩
theorem fv__law_fraction_3 (s : Sx K mg) (c : SaysV ck fnL K) : FnV P w K mg base (tab K) 21 (ga K "_law_fraction") [false, false, false] [] sp__law_fraction := by
  obtain ⟨fd, F, G⟩ := ok__law_fraction (P := P) (w := w) (base := base) s c
  exact mkFn0 F G fun _ _ _ _ _ _ us hl => match us, hl with | [_, _, _], _ => rfl
theorem ok__law_power_to_21 (s : Sx K mg) (c : SaysV ck fnL K) : ∃ fd, FunD K "_law_power_to_21" "_law_power_to_21" (defArgs s__law_power_to_21) (defBody s__law_power_to_21) (defScope s__law_power_to_21) [] [] (ga K "_law_power_to_21") fd ∧ FnOk P w K mg base (L2.CX P w) 15 (ga K "_law_power_to_21") fd ["x", "n"] (SpV (tab K) K [false, false] sp__law_power_to_21) := by
  obtain ⟨fd, F⟩ := c.def_ 36 (d := dv__law_power_to_21)
  exact ⟨fd, F, fnV F sc__law_power_to_21 rfl (fun cdv A outer st H E hr => d__law_power_to_21 (r := 12) s (fun i m sp h hi => (du_dn s c i m sp h hi).mono (by decide)) hr) (fun ds Q X _ h => p__law_power_to_21 ds Q X h)⟩
theorem fv__law_power_to_21_2 (s : Sx K mg) (c : SaysV ck fnL K) : FnV P w K mg base (tab K) 15 (ga K "_law_power_to_21") [false, false] [] sp__law_power_to_21 := by
  obtain ⟨fd, F, G⟩ := ok__law_power_to_21 (P := P) (w := w) (base := base) s c
  exact mkFn0 F G fun _ _ _ _ _ _ us hl => match us, hl with | [_, _], _ => rfl
theorem ok__law_power_to_43 (s : Sx K mg) (c : SaysV ck fnL K) : ∃ fd, FunD K "_law_power_to_43" "_law_power_to_43" (defArgs s__law_power_to_43) (defBody s__law_power_to_43) (defScope s__law_power_to_43) [] [] (ga K "_law_power_to_43") fd ∧ FnOk P w K mg base (L2.CX P w) 15 (ga K "_law_power_to_43") fd ["x", "n"] (SpV (tab K) K [false, false] sp__law_power_to_43) := by
  obtain ⟨fd, F⟩ := c.def_ 37 (d := dv__law_power_to_43)
  exact ⟨fd, F, fnV F sc__law_power_to_43 rfl (fun cdv A outer st H E hr => d__law_power_to_43 (r := 12) s (fun i m sp h hi => (du_dn s c i m sp h hi).mono (by decide)) hr) (fun ds Q X _ h => p__law_power_to_43 ds Q X h)⟩
theorem fv__law_power_to_43_2 (s : Sx K mg) (c : SaysV ck fnL K) : FnV P w K mg base (tab K) 15 (ga K "_law_power_to_43") [false, false] [] sp__law_power_to_43 := by
  obtain ⟨fd, F, G⟩ := ok__law_power_to_43 (P := P) (w := w) (base := base) s c
  exact mkFn0 F G fun _ _ _ _ _ _ us hl => match us, hl with | [_, _], _ => rfl
theorem ok__law_power_to_64 (s : Sx K mg) (c : SaysV ck fnL K) : ∃ fd, FunD K "_law_power_to_64" "_law_power_to_64" (defArgs s__law_power_to_64) (defBody s__law_power_to_64) (defScope s__law_power_to_64) [] [] (ga K "_law_power_to_64") fd ∧ FnOk P w K mg base (L2.CX P w) 15 (ga K "_law_power_to_64") fd ["x", "n"] (SpV (tab K) K [false, false] sp__law_power_to_64) := by
  obtain ⟨fd, F⟩ := c.def_ 38 (d := dv__law_power_to_64)
  exact ⟨fd, F, fnV F sc__law_power_to_64 rfl (fun cdv A outer st H E hr => d__law_power_to_64 (r := 12) s (fun i m sp h hi => (du_dn s c i m sp h hi).mono (by decide)) hr) (fun ds Q X _ h => p__law_power_to_64 ds Q X h)⟩
theorem fv__law_power_to_64_2 (s : Sx K mg) (c : SaysV ck fnL K) : FnV P w K mg base (tab K) 15 (ga K "_law_power_to_64") [false, false] [] sp__law_power_to_64 := by
  obtain ⟨fd, F, G⟩ := ok__law_power_to_64 (P := P) (w := w) (base := base) s c
  exact mkFn0 F G fun _ _ _ _ _ _ us hl => match us, hl with | [_, _], _ => rfl
theorem ok__law_power (s : Sx K mg) (c : SaysV ck fnL K) : ∃ fd, FunD K "_law_power" "_law_power" (defArgs s__law_power) (defBody s__law_power) (defScope s__law_power) [] [] (ga K "_law_power") fd ∧ FnOk P w K mg base (L2.CX P w) 18 (ga K "_law_power") fd ["x", "n"] (SpV (tab K) K [false, false] sp__law_power) := by
  obtain ⟨fd, F⟩ := c.def_ 39 (d := dv__law_power)
  exact ⟨fd, F, fnV F sc__law_power rfl (fun cdv A outer st H E hr => d__law_power (r := 15) s ((fv__law_power_to_21_2 s c).mono (by decide)) ((fv__law_power_to_43_2 s c).mono (by decide)) ((fv__law_power_to_64_2 s c).mono (by decide)) (fun i m sp h hi => (du_dn s c i m sp h hi).mono (by decide)) hr) (fun ds Q X _ h => p__law_power ds Q X h)⟩
theorem fv__law_power_2 (s : Sx K mg) (c : SaysV ck fnL K) : FnV P w K mg base (tab K) 18 (ga K "_law_power") [false, false] [] sp__law_power := by
  obtain ⟨fd, F, G⟩ := ok__law_power (P := P) (w := w) (base := base) s c
  exact mkFn0 F G fun _ _ _ _ _ _ us hl => match us, hl with | [_, _], _ => rfl
theorem ok__law_sums (s : Sx K mg) (c : SaysV ck fnL K) : ∃ fd, FunD K "_law_sums" "_law_sums" (defArgs s__law_sums) (defBody s__law_sums) (defScope s__law_sums) [] [] (ga K "_law_sums") fd ∧ FnOk P w K mg base (L2.CX P w) 24 (ga K "_law_sums") fd ["one", "two", "a", "b", "c", "d"] (SpV (tab K) K [false, false, false, false, false, false] sp__law_sums) := by
  obtain ⟨fd, F⟩ := c.def_ 40 (d := dv__law_sums)
  exact ⟨fd, F, fnV F sc__law_sums rfl (fun cdv A outer st H E hr => d__law_sums (r := 21) s ((fv__law_worth_3 s c).mono (by decide)) (fun i m sp h hi => (du_dn s c i m sp h hi).mono (by decide)) hr) (fun ds Q X _ h => p__law_sums ds Q X h)⟩
theorem fv__law_sums_6 (s : Sx K mg) (c : SaysV ck fnL K) : FnV P w K mg base (tab K) 24 (ga K "_law_sums") [false, false, false, false, false, false] [] sp__law_sums := by
  obtain ⟨fd, F, G⟩ := ok__law_sums (P := P) (w := w) (base := base) s c
  exact mkFn0 F G fun _ _ _ _ _ _ us hl => match us, hl with | [_, _, _, _, _, _], _ => rfl
theorem ok__law_signs (s : Sx K mg) (c : SaysV ck fnL K) : ∃ fd, FunD K "_law_signs" "_law_signs" (defArgs s__law_signs) (defBody s__law_signs) (defScope s__law_signs) [] [] (ga K "_law_signs") fd ∧ FnOk P w K mg base (L2.CX P w) 24 (ga K "_law_signs") fd ["one", "a", "b"] (SpV (tab K) K [false, false, false] sp__law_signs) := by
  obtain ⟨fd, F⟩ := c.def_ 41 (d := dv__law_signs)
  exact ⟨fd, F, fnV F sc__law_signs rfl (fun cdv A outer st H E hr => d__law_signs (r := 21) s ((fv__law_worth_3 s c).mono (by decide)) (fun i m sp h hi => (du_dn s c i m sp h hi).mono (by decide)) hr) (fun ds Q X _ h => p__law_signs ds Q X h)⟩
theorem fv__law_signs_3 (s : Sx K mg) (c : SaysV ck fnL K) : FnV P w K mg base (tab K) 24 (ga K "_law_signs") [false, false, false] [] sp__law_signs := by
  obtain ⟨fd, F, G⟩ := ok__law_signs (P := P) (w := w) (base := base) s c
  exact mkFn0 F G fun _ _ _ _ _ _ us hl => match us, hl with | [_, _, _], _ => rfl
theorem ok__law_powers (s : Sx K mg) (c : SaysV ck fnL K) : ∃ fd, FunD K "_law_powers" "_law_powers" (defArgs s__law_powers) (defBody s__law_powers) (defScope s__law_powers) [] [] (ga K "_law_powers") fd ∧ FnOk P w K mg base (L2.CX P w) 24 (ga K "_law_powers") fd ["third", "nothing", "p", "q", "n"] (SpV (tab K) K [false, false, false, false, false] sp__law_powers) := by
  obtain ⟨fd, F⟩ := c.def_ 42 (d := dv__law_powers)
  exact ⟨fd, F, fnV F sc__law_powers rfl (fun cdv A outer st H E hr => d__law_powers (r := 21) s ((fv__law_power_2 s c).mono (by decide)) ((fv__law_worth_3 s c).mono (by decide)) (fun i m sp h hi => (du_dn s c i m sp h hi).mono (by decide)) hr) (fun ds Q X _ h => p__law_powers ds Q X h)⟩
theorem fv__law_powers_5 (s : Sx K mg) (c : SaysV ck fnL K) : FnV P w K mg base (tab K) 24 (ga K "_law_powers") [false, false, false, false, false] [] sp__law_powers := by
  obtain ⟨fd, F, G⟩ := ok__law_powers (P := P) (w := w) (base := base) s c
  exact mkFn0 F G fun _ _ _ _ _ _ us hl => match us, hl with | [_, _, _, _, _], _ => rfl
theorem ok__law_part_b (s : Sx K mg) (c : SaysV ck fnL K) : ∃ fd, FunD K "_law_part_b" "_law_part_b" (defArgs s__law_part_b) (defBody s__law_part_b) (defScope s__law_part_b) [] [] (ga K "_law_part_b") fd ∧ FnOk P w K mg base (L2.CX P w) 27 (ga K "_law_part_b") fd ["script"] (SpV (tab K) K [false] sp__law_part_b) := by
  obtain ⟨fd, F⟩ := c.def_ 43 (d := dv__law_part_b)
  exact ⟨fd, F, fnV F sc__law_part_b rfl (fun cdv A outer st H E hr => d__law_part_b (r := 24) s ((fv__law_cell_2 s c).mono (by decide)) ((fv__law_draws_3 s c).mono (by decide)) ((fv__law_fraction_3 s c).mono (by decide)) ((fv_Ratio___init___3 s c).mono (by decide)) ((fv__law_sums_6 s c).mono (by decide)) ((fv__law_worth_3 s c).mono (by decide)) ((fv__law_powers_5 s c).mono (by decide)) ((fv__law_signs_3 s c).mono (by decide)) (fun i m sp h hi => (du_dn s c i m sp h hi).mono (by decide)) hr) (fun ds Q X _ h => p__law_part_b ds Q X h)⟩
theorem fv__law_part_b_1 (s : Sx K mg) (c : SaysV ck fnL K) : FnV P w K mg base (tab K) 27 (ga K "_law_part_b") [false] [] sp__law_part_b := by
  obtain ⟨fd, F, G⟩ := ok__law_part_b (P := P) (w := w) (base := base) s c
  exact mkFn0 F G fun _ _ _ _ _ _ us hl => match us, hl with | [_], _ => rfl
theorem ok__law_fraction_c (s : Sx K mg) (c : SaysV ck fnL K) : ∃ fd, FunD K "_law_fraction_c" "_law_fraction_c" (defArgs s__law_fraction_c) (defBody s__law_fraction_c) (defScope s__law_fraction_c) [] [] (ga K "_law_fraction_c") fd ∧ FnOk P w K mg base (L2.CX P w) 21 (ga K "_law_fraction_c") fd ["script", "k", "size"] (SpV (tab K) K [false, false, false] sp__law_fraction_c) := by
  obtain ⟨fd, F⟩ := c.def_ 44 (d := dv__law_fraction_c)
  exact ⟨fd, F, fnV F sc__law_fraction_c rfl (fun cdv A outer st H E hr => d__law_fraction_c (r := 18) s ((fv__law_cell_2 s c).mono (by decide)) ((fv__law_digits_2 s c).mono (by decide)) (fun i m sp h hi => (du_dn s c i m sp h hi).mono (by decide)) hr) (fun ds Q X _ h => p__law_fraction_c ds Q X h)⟩
theorem fv__law_fraction_c_3 (s : Sx K mg) (c : SaysV ck fnL K) : FnV P w K mg base (tab K) 21 (ga K "_law_fraction_c") [false, false, false] [] sp__law_fraction_c := by
  obtain ⟨fd, F, G⟩ := ok__law_fraction_c (P := P) (w := w) (base := base) s c
  exact mkFn0 F G fun _ _ _ _ _ _ us hl => match us, hl with | [_, _, _], _ => rfl
theorem ok__law_two_fractions (s : Sx K mg) (c : SaysV ck fnL K) : ∃ fd, FunD K "_law_two_fractions" "_law_two_fractions" (defArgs s__law_two_fractions) (defBody s__law_two_fractions) (defScope s__law_two_fractions) [] [] (ga K "_law_two_fractions") fd ∧ FnOk P w K mg base (L2.CX P w) 24 (ga K "_law_two_fractions") fd ["script"] (SpV (tab K) K [false] sp__law_two_fractions) := by
  obtain ⟨fd, F⟩ := c.def_ 45 (d := dv__law_two_fractions)
  exact ⟨fd, F, fnV F sc__law_two_fractions rfl (fun cdv A outer st H E hr => d__law_two_fractions (r := 21) s ((fv__law_cell_2 s c).mono (by decide)) ((fv__law_draws_3 s c).mono (by decide)) ((fv__law_fraction_c_3 s c).mono (by decide)) ((fv__law_digits_2 s c).mono (by decide)) (fun i m sp h hi => (du_dn s c i m sp h hi).mono (by decide)) hr) (fun ds Q X _ h => p__law_two_fractions ds Q X h)⟩
theorem fv__law_two_fractions_1 (s : Sx K mg) (c : SaysV ck fnL K) : FnV P w K mg base (tab K) 24 (ga K "_law_two_fractions") [false] [] sp__law_two_fractions := by
  obtain ⟨fd, F, G⟩ := ok__law_two_fractions (P := P) (w := w) (base := base) s c
  exact mkFn0 F G fun _ _ _ _ _ _ us hl => match us, hl with | [_], _ => rfl
theorem ok__law_orders (s : Sx K mg) (c : SaysV ck fnL K) : ∃ fd, FunD K "_law_orders" "_law_orders" (defArgs s__law_orders) (defBody s__law_orders) (defScope s__law_orders) [] [] (ga K "_law_orders") fd ∧ FnOk P w K mg base (L2.CX P w) 15 (ga K "_law_orders") fd ["one", "two", "left", "right"] (SpV (tab K) K [false, false, false, false] sp__law_orders) := by
  obtain ⟨fd, F⟩ := c.def_ 46 (d := dv__law_orders)
  exact ⟨fd, F, fnV F sc__law_orders rfl (fun cdv A outer st H E hr => d__law_orders (r := 12) s (fun i m sp h hi => (du_dn s c i m sp h hi).mono (by decide)) hr) (fun ds Q X _ h => p__law_orders ds Q X h)⟩
theorem fv__law_orders_4 (s : Sx K mg) (c : SaysV ck fnL K) : FnV P w K mg base (tab K) 15 (ga K "_law_orders") [false, false, false, false] [] sp__law_orders := by
  obtain ⟨fd, F, G⟩ := ok__law_orders (P := P) (w := w) (base := base) s c
  exact mkFn0 F G fun _ _ _ _ _ _ us hl => match us, hl with | [_, _, _, _], _ => rfl
theorem ok__law_rounded (s : Sx K mg) (c : SaysV ck fnL K) : ∃ fd, FunD K "_law_rounded" "_law_rounded" (defArgs s__law_rounded) (defBody s__law_rounded) (defScope s__law_rounded) [] [] (ga K "_law_rounded") fd ∧ FnOk P w K mg base (L2.CX P w) 18 (ga K "_law_rounded") fd ["one", "a", "b"] (SpV (tab K) K [false, false, false] sp__law_rounded) := by
  obtain ⟨fd, F⟩ := c.def_ 47 (d := dv__law_rounded)
  exact ⟨fd, F, fnV F sc__law_rounded rfl (fun cdv A outer st H E hr => d__law_rounded (r := 15) s ((fv_Ratio_floor_1 s c).mono (by decide)) ((fv_Ratio_ceiling_1 s c).mono (by decide)) ((fv__law_is_int_1 s c).mono (by decide)) (fun i m sp h hi => (du_dn s c i m sp h hi).mono (by decide)) hr) (fun ds Q X _ h => p__law_rounded ds Q X h)⟩
theorem fv__law_rounded_3 (s : Sx K mg) (c : SaysV ck fnL K) : FnV P w K mg base (tab K) 18 (ga K "_law_rounded") [false, false, false] [] sp__law_rounded := by
  obtain ⟨fd, F, G⟩ := ok__law_rounded (P := P) (w := w) (base := base) s c
  exact mkFn0 F G fun _ _ _ _ _ _ us hl => match us, hl with | [_, _, _], _ => rfl
theorem ok__law_zero_refused (s : Sx K mg) (c : SaysV ck fnL K) : ∃ fd, FunD K "_law_zero_refused" "_law_zero_refused" (defArgs s__law_zero_refused) (defBody s__law_zero_refused) (defScope s__law_zero_refused) [] [] (ga K "_law_zero_refused") fd ∧ FnOk P w K mg base (L2.CX P w) 15 (ga K "_law_zero_refused") fd ["x", "r", "way"] (SpV (tab K) K [false, false, false] sp__law_zero_refused) := by
  obtain ⟨fd, F⟩ := c.def_ 48 (d := dv__law_zero_refused)
  exact ⟨fd, F, fnV F sc__law_zero_refused rfl (fun cdv A outer st H E hr => d__law_zero_refused (r := 12) s ((fv_Ratio_over_2 s c).mono (by decide)) (fun i m sp h hi => (du_dn s c i m sp h hi).mono (by decide)) hr) (fun ds Q X _ h => p__law_zero_refused ds Q X h)⟩
theorem fv__law_zero_refused_3 (s : Sx K mg) (c : SaysV ck fnL K) : FnV P w K mg base (tab K) 15 (ga K "_law_zero_refused") [false, false, false] [] sp__law_zero_refused := by
  obtain ⟨fd, F, G⟩ := ok__law_zero_refused (P := P) (w := w) (base := base) s c
  exact mkFn0 F G fun _ _ _ _ _ _ us hl => match us, hl with | [_, _, _], _ => rfl
theorem ok__law_quotients (s : Sx K mg) (c : SaysV ck fnL K) : ∃ fd, FunD K "_law_quotients" "_law_quotients" (defArgs s__law_quotients) (defBody s__law_quotients) (defScope s__law_quotients) [] [] (ga K "_law_quotients") fd ∧ FnOk P w K mg base (L2.CX P w) 24 (ga K "_law_quotients") fd ["x", "r", "a", "b", "c", "d"] (SpV (tab K) K [false, false, false, false, false, false] sp__law_quotients) := by
  obtain ⟨fd, F⟩ := c.def_ 49 (d := dv__law_quotients)
  exact ⟨fd, F, fnV F sc__law_quotients rfl (fun cdv A outer st H E hr => d__law_quotients (r := 21) s ((fv__law_zero_refused_3 s c).mono (by decide)) ((fv__law_is_int_1 s c).mono (by decide)) ((fv__law_worth_3 s c).mono (by decide)) ((fv_Ratio_over_2 s c).mono (by decide)) (fun i m sp h hi => (du_dn s c i m sp h hi).mono (by decide)) hr) (fun ds Q X _ h => p__law_quotients ds Q X h)⟩
theorem fv__law_quotients_6 (s : Sx K mg) (c : SaysV ck fnL K) : FnV P w K mg base (tab K) 24 (ga K "_law_quotients") [false, false, false, false, false, false] [] sp__law_quotients := by
  obtain ⟨fd, F, G⟩ := ok__law_quotients (P := P) (w := w) (base := base) s c
  exact mkFn0 F G fun _ _ _ _ _ _ us hl => match us, hl with | [_, _, _, _, _, _], _ => rfl
theorem ok__law_unlike (s : Sx K mg) (c : SaysV ck fnL K) : ∃ fd, FunD K "_law_unlike" "_law_unlike" (defArgs s__law_unlike) (defBody s__law_unlike) (defScope s__law_unlike) [] [] (ga K "_law_unlike") fd ∧ FnOk P w K mg base (L2.CX P w) 15 (ga K "_law_unlike") fd ["one", "a", "b"] (SpV (tab K) K [false, false, false] sp__law_unlike) := by
  obtain ⟨fd, F⟩ := c.def_ 50 (d := dv__law_unlike)
  exact ⟨fd, F, fnV F sc__law_unlike rfl (fun cdv A outer st H E hr => d__law_unlike (r := 12) s (fun i m sp h hi => (du_dn s c i m sp h hi).mono (by decide)) hr) (fun ds Q X _ h => p__law_unlike ds Q X h)⟩
theorem fv__law_unlike_3 (s : Sx K mg) (c : SaysV ck fnL K) : FnV P w K mg base (tab K) 15 (ga K "_law_unlike") [false, false, false] [] sp__law_unlike := by
  obtain ⟨fd, F, G⟩ := ok__law_unlike (P := P) (w := w) (base := base) s c
  exact mkFn0 F G fun _ _ _ _ _ _ us hl => match us, hl with | [_, _, _], _ => rfl
theorem ok__law_near (s : Sx K mg) (c : SaysV ck fnL K) : ∃ fd, FunD K "_law_near" "_law_near" (defArgs s__law_near) (defBody s__law_near) (defScope s__law_near) [] [] (ga K "_law_near") fd ∧ FnOk P w K mg base (L2.CX P w) 18 (ga K "_law_near") fd ["number"] (SpV (tab K) K [false] sp__law_near) := by
  obtain ⟨fd, F⟩ := c.def_ 51 (d := dv__law_near)
  exact ⟨fd, F, fnV F sc__law_near rfl (fun cdv A outer st H E hr => d__law_near (r := 15) s ((fv_Ratio___init___3 s c).mono (by decide)) ((fv__law_orders_4 s c).mono (by decide)) (fun i m sp h hi => (du_dn s c i m sp h hi).mono (by decide)) hr) (fun ds Q X _ h => p__law_near ds Q X h)⟩
theorem fv__law_near_1 (s : Sx K mg) (c : SaysV ck fnL K) : FnV P w K mg base (tab K) 18 (ga K "_law_near") [false] [] sp__law_near := by
  obtain ⟨fd, F, G⟩ := ok__law_near (P := P) (w := w) (base := base) s c
  exact mkFn0 F G fun _ _ _ _ _ _ us hl => match us, hl with | [_], _ => rfl
theorem ok__law_part_c (s : Sx K mg) (c : SaysV ck fnL K) : ∃ fd, FunD K "_law_part_c" "_law_part_c" (defArgs s__law_part_c) (defBody s__law_part_c) (defScope s__law_part_c) [] [] (ga K "_law_part_c") fd ∧ FnOk P w K mg base (L2.CX P w) 27 (ga K "_law_part_c") fd ["script"] (SpV (tab K) K [false] sp__law_part_c) := by
  obtain ⟨fd, F⟩ := c.def_ 52 (d := dv__law_part_c)
  exact ⟨fd, F, fnV F sc__law_part_c rfl (fun cdv A outer st H E hr => d__law_part_c (r := 24) s ((fv__law_two_fractions_1 s c).mono (by decide)) ((fv_Ratio___init___3 s c).mono (by decide)) ((fv__law_orders_4 s c).mono (by decide)) ((fv_as_ratio_1 s c).mono (by decide)) ((fv__law_cell_2 s c).mono (by decide)) ((fv__law_digits_2 s c).mono (by decide)) ((fv__law_near_1 s c).mono (by decide)) ((fv__law_unlike_3 s c).mono (by decide)) ((fv__law_rounded_3 s c).mono (by decide)) ((fv__law_quotients_6 s c).mono (by decide)) ((fv__law_worth_3 s c).mono (by decide)) (fun i m sp h hi => (du_dn s c i m sp h hi).mono (by decide)) hr) (fun ds Q X _ h => p__law_part_c ds Q X h)⟩
theorem fv__law_part_c_1 (s : Sx K mg) (c : SaysV ck fnL K) : FnV P w K mg base (tab K) 27 (ga K "_law_part_c") [false] [] sp__law_part_c := by
  obtain ⟨fd, F, G⟩ := ok__law_part_c (P := P) (w := w) (base := base) s c
  exact mkFn0 F G fun _ _ _ _ _ _ us hl => match us, hl with | [_], _ => rfl
theorem ok_law (s : Sx K mg) (c : SaysV ck fnL K) : ∃ fd, FunD K "law" "law" (defArgs s_law) (defBody s_law) (defScope s_law) [] [] (ga K "law") fd ∧ FnOk P w K mg base (L2.CX P w) 30 (ga K "law") fd ["script"] (SpV (tab K) K [false] sp_law) := by
  obtain ⟨fd, F⟩ := c.def_ 53 (d := dv_law)
  exact ⟨fd, F, fnV F sc_law rfl (fun cdv A outer st H E hr => d_law (r := 27) s ((fv__law_part_a_1 s c).mono (by decide)) ((fv__law_part_b_1 s c).mono (by decide)) ((fv__law_part_c_1 s c).mono (by decide)) (fun i m sp h hi => (du_dn s c i m sp h hi).mono (by decide)) hr) (fun ds Q X _ h => p_law ds Q X h)⟩
theorem fv_law_1 (s : Sx K mg) (c : SaysV ck fnL K) : FnV P w K mg base (tab K) 30 (ga K "law") [false] [] sp_law := by
  obtain ⟨fd, F, G⟩ := ok_law (P := P) (w := w) (base := base) s c
  exact mkFn0 F G fun _ _ _ _ _ _ us hl => match us, hl with | [_], _ => rfl
end
def names0 : List Str := ["WatchError", "ZeroUnder", "BadNumber", "Refused", "Ratio", "as_ratio", "_law_cell", "_law_draws", "_law_gcd", "_law_is_int", "_law_is_ratio", "_law_digits", "_law_numbers", "_law_shows", "_law_refused", "_law_part_a", "_law_worth", "_law_fraction", "_law_power_to_21", "_law_power_to_43"]
def names1 : List Str := ["_law_power_to_64", "_law_power", "_law_sums", "_law_signs", "_law_powers", "_law_part_b", "_law_fraction_c", "_law_two_fractions", "_law_orders", "_law_rounded", "_law_zero_refused", "_law_quotients", "_law_unlike", "_law_near", "_law_part_c"]
abbrev RR : PySem.W.OpenRow := PySem.W.OpenLaw.row PySem.Challenge.rw_beatswatched_k00_ratios_told
abbrev hk : PySem.W.Hook := hookV 6 ck fnL
def ob (s : PySem.W.SharedT) : AlV := obsVG 6 ck fnL (HandSHeadRun.getT s)
theorem ob_eq (s : PySem.W.SharedT) : ob s = hk.obs s.abs := obsVG_eq (HandSHeadRun.getT_eq s)
abbrev qv : Program := PySem.W.view RR.prog [0, 39]
def loose : List Str := names0 ++ names1
theorem run (w : World) : HandSHeadRun.RunEqI RR qv hk ob 100000 loose w := by
  unfold HandSHeadRun.RunEqI
  kernel_rfl
theorem facts {P : Program} {w : World} {K : PySem.W.Frag} {h : Heap} {mg : Str → Option Value} {f : Addr} (X : K.In h) (G : h.Ns mainGlobals mg) (hfa : mg ("law" : Str) = some (.ref f)) (c : SaysV ck fnL K) :
    ∃ fd : FuncData, (∀ (s : Shared) (v : Value), BindsTo s fd ⟨[v], []⟩ [("script", v)]) ∧ ∀ base : Heap, K.In base → base.Ns mainGlobals mg → FnOk P w K mg base (L2.CX P w) 30 f fd ["script"] (SpV (tab K) K [false] sp_law) := by
  obtain ⟨fd, F⟩ := c.def_ 53 (d := dv_law)
  have e := hfa.symm.trans (glo_ok X G (x := "law") (show (Fa.glo "law").ok K = true from chk_at c.chk 75))
  cases e
  have b := FunD.bindsA (ps := ["script"]) F fun _ _ _ _ _ _ us hl => match us, hl with | [_], _ => rfl
  refine ⟨fd, fun s v => b s [v] rfl, fun base _ _ => ?_⟩
  obtain ⟨fd2, F2, G2⟩ := ok_law (P := P) (w := w) (base := base) (sx X G c) c
  have : fd2 = fd := FunD.same F2 F
  rw [← this]
  exact G2
theorem law_end (ns : List Int) (hl : ns.length ≤ 63) (hz : ∀ z ∈ ns, Builtin.Int.intBits z ≤ 1048576) : sp_law [.scr ns] (fun r => r = .fz (.bl true)) (fun _ => False) := by
  first | exact ⟨ns, rfl, rfl⟩ | exact ⟨ns, rfl, hl, rfl⟩ | exact ⟨ns, rfl, hl, hz, rfl⟩
end VL
open PySem PySem.W PySem.Calls PyProof.Rows
theorem PySem.Challenge.cw_beatswatched_k00_ratios_told_holds : PySem.Challenge.rw_beatswatched_k00_ratios_told.Holds := by
  w_on; o_law
  refine HandSHeadRun.head_imp (r := OpenLaw.row PySem.Challenge.rw_beatswatched_k00_ratios_told) (q := VL.qv) (H := VL.hk) (ob := VL.ob) (M := 100000) (loose := VL.loose) (d := HandSHeadRun.topDef (OpenLaw.row PySem.Challenge.rw_beatswatched_k00_ratios_told).prog 39) (kwd := []) VL.ob_eq
    VL.run (by kernel_rfl) (by kernel_rfl) (by kernel_rfl) (by rfl) (by first | assumption | decide +kernel) (by decide +kernel) ⟨rfl, rfl, rfl, rfl, rfl, by decide +kernel⟩ ?hw ?hc
  case hw => w_witness2
  case hc =>
    refine VL.walk_V (l := PySem.Challenge.rw_beatswatched_k00_ratios_told) (k := 30) rfl (by kernel_rfl) ⟨rfl, by decide, by decide⟩ ?F
    case F =>
      intro w mg fa h Y G hmg0
      obtain ⟨K, KX, c⟩ := Y
      have hmg : mg ("law" : PySem.Str) = some (.ref fa) := by
        have e : (HandSHeadRun.topDef (OpenLaw.row PySem.Challenge.rw_beatswatched_k00_ratios_told).prog 39).name = ("law" : PySem.Str) := by kernel_rfl
        rw [← e]
        exact hmg0
      obtain ⟨fd, hb, hF⟩ := VL.facts (P := (PySem.Challenge.rw_beatswatched_k00_ratios_told).prog) (w := w) KX G hmg c
      exact ⟨K, fd, VL.tab K, VL.sp_law, KX, hb, fun ns hl hz => VL.law_end ns hl hz, hF⟩
end
