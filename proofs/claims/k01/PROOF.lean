import PyProof.Rows.All
import PySem.Str
import Wide.All
import OpenK.AllK
import Wide.FinOn
import HandS.ForExc
import HandS.TryMany
import HandS.Gcd
import HandS.Wide
import HandS.CallSlots
import KE.KOpsOwn
import PyProof.ListMulRight
import PyProof.InstNe
import HandS.Style
import HandS.IsInst
import KE.KIsAll
import HandS.Text
import HandS.Property
import HandS.SlotsOwn
import HandS.SortInts
import HandS.TupAny
import HandS.Small
import HandS.FStr
import HandS.More
import HandS.Defaults
import KE.KExcIs
import HandS.ExcIs
import HandS.ExcField
import HandS.Comp
import HandS.Conv
import HandS.TupSets
import HandS.ExcInit
import HandS.Nested
import KE.KSuper
import KE.KExcSuper
import KE.KStateDown
import HandS.Head0
import HandS.Head1
import HandS.Head2
import HandS.Head3
import HandS.HeadEnd
import HandS.HeadHook1
import HandS.HeadHook2
import HandS.Codes
import HandS.EndBits
import HandS.ClsMeth
import HandS.IterVal
import KE.KOwnIter
import HandS.List
import KE.LtSeq
import KE.LtData
import PySem.Challenge.RW_beatswatched_k01_lots_told
section
set_option linter.all false
/-! VLcore: plain data, readings of the value layer (no heap, no model). -/
namespace VL
open PySem

/-- data -/
inductive D where
  | non | bl (b : Bool) | int (i : Int) | str (x : Str)
  | lst (xs : List D) | tup (xs : List D)
  | obj (c : Nat) (xs : List D)
  | cls (c : Nat)
  /-- the law's argument -/
  | scr (ns : List Int)
/-- what an expression gives: frozen data, or a list of one's own -/
inductive R where
  | fz (d : D) | own (xs : List D)
def R.d : R → D
  | .fz d => d
  | .own xs => .lst xs
@[simp] theorem R.d_fz (d : D) : (R.fz d).d = d := rfl
@[simp] theorem R.d_own (xs : List D) : (R.own xs).d = .lst xs := rfl
/-- what a slot holds -/
inductive Sl where
  | fz (d : D) | own (xs : List D) | lent (xs : List D) | ob (c : Nat) (xs : List D) | exc (c : Nat) (xs : List D)
/-- one's own: no other slot has it -/
def Sl.mine : Sl → Bool
  | .own _ => true
  | .ob _ _ => true
  | _ => false
def R.s : R → Sl
  | .fz d => .fz d
  | .own xs => .own xs
/-- a slot, only read -/
def Sl.b : Sl → Option D
  | .fz d => some d
  | .own xs => some (.lst xs)
  | .lent xs => some (.lst xs)
  | .ob c xs => some (.obj c xs)
  | .exc _ _ => none
abbrev Fr := List (Option Sl)
/-- an exception: its class, its fields -/
structure Xd where
  c : Nat
  xs : List D
abbrev QR := R → Prop
abbrev QX := Xd → Prop
abbrev EW := Fr → QR → QX → Prop
abbrev BW := Fr → (D → Prop) → QX → Prop
abbrev TW := Fr → (Bool → Prop) → QX → Prop
abbrev AW := Fr → (List D → Prop) → QX → Prop
structure Ko where
  nx : Fr → Prop
  rt : R → Prop
  xq : Xd → Fr → Prop
  bk : Fr → Prop := fun _ => False
  ct : Fr → Prop := fun _ => False
abbrev SW := Ko → Fr → Prop
/-- a def's spec -/
abbrev FS := List D → QR → QX → Prop

/-! ### expressions -/
def seqOf : D → Option (List D)
  | .lst ds => some ds
  | .tup ds => some ds
  | _ => none
def wVar (i : Nat) : EW := fun δ Q _ => match δ[i]? with
  | some (some (.fz d)) => Q (.fz d)
  | _ => False
def wLit (d : D) : EW := fun _ Q _ => Q (.fz d)
/-- a name, only read -/
def bVar (i : Nat) : BW := fun δ Q _ => match δ[i]? with
  | some (some s) => (match s.b with
    | some d => Q d
    | none => False)
  | _ => False
/-- the same, but for an instance that is being made -/
def lVar (i : Nat) : BW := fun δ Q _ => match δ[i]? with
  | some (some s) => (match s with
    | .fz d => Q d
    | .own xs => Q (.lst xs)
    | .lent xs => Q (.lst xs)
    | _ => False)
  | _ => False
def bOf (t : EW) : BW := fun δ Q X => t δ (fun r => Q r.d) X
/-- a two-place operation on data -/
abbrev Op2 := D → D → QR → QX → Prop
abbrev Op1 := D → QR → QX → Prop
def wBin (op : Op2) (ta tb : EW) : EW := fun δ Q X => ta δ (fun r => tb δ (fun s => op r.d s.d Q X) X) X
def wUn (op : Op1) (ta : EW) : EW := fun δ Q X => ta δ (fun r => op r.d Q X) X
/-- both operands only read -/
def wBinB (op : Op2) (ta tb : BW) : EW := fun δ Q X => ta δ (fun d => tb δ (fun e => op d e Q X) X) X
def wUnB (op : Op1) (ta : BW) : EW := fun δ Q X => ta δ (fun d => op d Q X) X
/-- arguments -/
def aNil : AW := fun _ Q _ => Q []
def aCons (ta : EW) (tr : AW) : AW := fun δ Q X => ta δ (fun r => tr δ (fun ds => Q (r.d :: ds)) X) X
def aConsB (ta : BW) (tr : AW) : AW := fun δ Q X => ta δ (fun d => (seqOf d).isSome = true ∧ tr δ (fun ds => Q (d :: ds)) X) X
/-- attributes: by the class, where the field stands; a constant of the class; a property; a method -/
def wFld (tb : List (Nat × Nat)) (u : BW) : EW := fun δ Q X => u δ (fun d => match d with
  | .obj c xs => (match tb.lookup c with
    | some i => (match xs[i]? with
      | some v => Q (.fz v)
      | none => False)
    | none => False)
  | _ => False) X
def wCon (tb : List (Nat × D)) (u : BW) : EW := fun δ Q X => u δ (fun d => match d with
  | .obj c _ => (match tb.lookup c with
    | some v => Q (.fz v)
    | none => False)
  | _ => False) X
def wProp (c0 : Nat) (sp : FS) (t : EW) : EW := fun δ Q X => t δ (fun r => match r.d with
  | .obj c xs => c = c0 ∧ sp [.obj c xs] Q (fun _ => False)
  | _ => False) X
def wMeth (c0 : Nat) (sp : FS) (dv : List D) (t : EW) (ta : AW) : EW := fun δ Q X => t δ (fun r => match r.d with
  | .obj c xs => c = c0 ∧ ta δ (fun ds => sp (.obj c xs :: (ds ++ dv)) Q X) X
  | _ => False) X
/-- a call: the written arguments, then the defaults -/
def wCall (sp : FS) (dv : List D) (ta : AW) : EW := fun δ Q X => ta δ (fun ds => sp (ds ++ dv) Q X) X
/-- a display -/
def wTup (ta : AW) : EW := fun δ Q X => ta δ (fun ds => Q (.fz (.tup ds))) X
def wLst (ta : AW) : EW := fun δ Q X => ta δ (fun ds => Q (.own ds)) X
/-! ### tests -/
def tru : D → Option Bool
  | .non => some false
  | .bl b => some b
  | .int i => some (i != 0)
  | .str x => some ((x.length : Int) != 0)
  | .lst ds => some (!ds.isEmpty)
  | .tup ds => some (!ds.isEmpty)
  | _ => none
def D.short : D → Prop
  | .str x => x.length ≤ 16777216
  | _ => True
def cOfB (t : BW) : TW := fun δ Q X => t δ (fun d => match tru d with
  | some b => d.short ∧ Q b
  | none => False) X
def cOf (t : EW) : TW := cOfB (bOf t)
/-- a comparison's answer -/
def cBl (t : EW) : TW := fun δ Q X => t δ (fun r => match r.d with
  | .bl b => Q b
  | _ => False) X
def cAnd (t u : TW) : TW := fun δ Q X => t δ (fun b => if b = true then u δ Q X else Q false) X
def cOr (t u : TW) : TW := fun δ Q X => t δ (fun b => if b = true then Q true else u δ Q X) X
def cNot (t : TW) : TW := fun δ Q X => t δ (fun b => Q (!b)) X
/-- and, or, not as values (of truth values) -/
def wAnd (t u : EW) : EW := fun δ Q X => t δ (fun r => match r.d with
  | .bl b => if b = true then u δ Q X else Q (.fz (.bl false))
  | _ => False) X
def wOr (t u : EW) : EW := fun δ Q X => t δ (fun r => match r.d with
  | .bl b => if b = true then Q (.fz (.bl true)) else u δ Q X
  | _ => False) X
def wNot (t : EW) : EW := fun δ Q X => t δ (fun r => match r.d with
  | .bl b => Q (.fz (.bl (!b)))
  | _ => False) X
/-- a op b op' c -/
def wChain (op op' : Op2) (ta tb tc : EW) : EW := fun δ Q X => ta δ (fun r => tb δ (fun s => op r.d s.d (fun z => match z.d with
  | .bl b => if b = true then tc δ (fun u => op' s.d u.d Q X) X else Q (.fz (.bl false))
  | _ => False) X) X) X
def wIte (c : TW) (t u : EW) : EW := fun δ Q X => c δ (fun b => if b = true then t δ Q X else u δ Q X) X
/-! ### statements -/
def sNext : SW := fun k δ => k.nx δ
def sBrk : SW := fun k δ => k.bk δ
def sCont : SW := fun k δ => k.ct δ
def sSeq (t u : SW) : SW := fun k δ => t { k with nx := fun δ' => u k δ' } δ
/-- x = e, the value frozen -/
def sSet (i : Nat) (t : EW) : SW := fun k δ => t δ (fun r => k.nx (δ.set i (some (.fz r.d)))) (fun x => k.xq x δ)
/-- x = e, a new list kept as one's own -/
def sOwn (i : Nat) (t : EW) : SW := fun k δ => t δ (fun r => k.nx (δ.set i (some r.s))) (fun x => k.xq x δ)
/-- a list of one's own is frozen (no step of the program) -/
def Fr.frz (δ : Fr) (i : Nat) : Fr := match δ[i]? with
  | some (some (.own xs)) => δ.set i (some (.fz (.lst xs)))
  | _ => δ
def sFreeze (i : Nat) (t : SW) : SW := fun k δ => t k (δ.frz i)
/-- code that is never come to -/
def sNever : SW := fun _ _ => False
def sDrop (t : EW) : SW := fun k δ => t δ (fun _ => k.nx δ) (fun x => k.xq x δ)
def sRet (t : EW) : SW := fun k δ => t δ k.rt (fun x => k.xq x δ)
def sRetN : SW := fun k _ => k.rt (.fz .non)
/-- return x, x a list of one's own that is handed over -/
def sRetO (i : Nat) : SW := fun k δ => match δ[i]? with
  | some (some (.own xs)) => k.rt (.own xs)
  | some (some (.fz d)) => k.rt (.fz d)
  | _ => False
def sIf (c : TW) (t u : SW) : SW := fun k δ => c δ (fun b => if b = true then t k δ else u k δ) (fun x => k.xq x δ)
/-- behind an if the two ways are joined: M holds behind both -/
def sCut (t u : SW) : SW := fun k δ => ∃ M : Fr → Prop, t { k with nx := M } δ ∧ ∀ δ', M δ' → u k δ'
/-- x op= e -/
def sAug (i : Nat) (op : Op2) (t : EW) : SW := fun k δ => match δ[i]? with
  | some (some (.fz d)) => t δ (fun r => op d r.d (fun z => k.nx (δ.set i (some (.fz z.d)))) (fun x => k.xq x δ)) (fun x => k.xq x δ)
  | _ => False
/-- self.f = e, the next field -/
def sFldI (i c0 n : Nat) (t : EW) : SW := fun k δ => match δ[i]? with
  | some (some (.ob c xs)) => (c = c0 ∧ xs.length = n) ∧ t δ (fun r => k.nx (δ.set i (some (.ob c (xs ++ [r.d]))))) (fun x => k.xq x δ)
  | _ => False
/-- a, b = e1, e2 -/
def sPar (i j : Nat) (ta tb : EW) : SW := fun k δ => ta δ (fun r => tb δ (fun s => k.nx ((δ.set i (some (.fz r.d))).set j (some (.fz s.d)))) (fun x => k.xq x δ)) (fun x => k.xq x δ)
/-- targets of an unpacking, of a loop -/
inductive Tg where
  | nm (i : Nat)
  | tp (ts : List Tg)
mutual
def Tg.put : Tg → D → Fr → Option Fr
  | .nm i, d, δ => some (δ.set i (some (.fz d)))
  | .tp ts, .tup ds, δ => Tg.puts ts ds δ
  | .tp _, _, _ => none
def Tg.puts : List Tg → List D → Fr → Option Fr
  | [], [], δ => some δ
  | t :: ts, d :: ds, δ => (match Tg.put t d δ with
    | some δ' => Tg.puts ts ds δ'
    | none => none)
  | _, _, _ => none
end
def Tg.go (g : Tg) (d : D) (δ : Fr) (Q : Fr → Prop) : Prop := match g.put d δ with
  | some δ' => Q δ'
  | none => False
def sUnp (g : Tg) (t : EW) : SW := fun k δ => t δ (fun r => g.go r.d δ k.nx) (fun x => k.xq x δ)
/-- a loop over items -/
def loopI (g : Tg) (tb : SW) (items : List D) (k : Ko) (δ : Fr) : Prop :=
  ∃ W : Nat → Fr → Prop, W 0 δ ∧ (∀ i d δ', items[i]? = some d → W i δ' → g.go d δ' (fun δ2 => tb { k with nx := W (i + 1), ct := W (i + 1), bk := k.nx } δ2)) ∧ ∀ δ', W items.length δ' → k.nx δ'
def intsFrom (lo : Int) (n : Nat) : List D := (List.range n).map fun (i : Nat) => D.int (lo + (i : Int))
def small62 (i : Int) : Prop := -(2 ^ 62) ≤ i ∧ i < 2 ^ 62
/-- what is walked: its items -/
abbrev IW := Fr → (List D → Prop) → QX → Prop
def iSeq (t : EW) : IW := fun δ Q X => t δ (fun r => match seqOf r.d with
  | some ds => Q ds
  | none => False) X
/-- a name: frozen, or lent -/
def iName (i : Nat) : IW := fun δ Q _ => match δ[i]? with
  | some (some (.fz d)) => (match seqOf d with
    | some ds => Q ds
    | none => False)
  | some (some (.lent ds)) => Q ds
  | _ => False
def iRng1 (t : EW) : IW := fun δ Q X => t δ (fun r => match r.d with
  | .int n => small62 n ∧ Q (intsFrom 0 n.toNat)
  | _ => False) X
def iRng2 (t u : EW) : IW := fun δ Q X => t δ (fun r => u δ (fun s => match r.d, s.d with
  | .int lo, .int hi => (small62 lo ∧ small62 hi) ∧ Q (intsFrom lo (hi - lo).toNat)
  | _, _ => False) X) X
def sFor (g : Tg) (ti : IW) (tb : SW) : SW := fun k δ => ti δ (fun items => loopI g tb items k δ) (fun x => k.xq x δ)
/-- while: W by a measure -/
def sWhile (c : TW) (tb : SW) : SW := fun k δ => ∃ W : Nat → Fr → Prop, (∃ m, W m δ) ∧ ∀ m δ', W m δ' →
  c δ' (fun b => if b = true then tb { k with nx := fun δ2 => ∃ m', m' < m ∧ W m' δ2, ct := fun δ2 => ∃ m', m' < m ∧ W m' δ2, bk := k.nx } δ' else k.nx δ') (fun x => k.xq x δ')
/-- xs.m(..), xs a list of one's own -/
abbrev MF := List D → List D → (List D → Prop) → Prop
def sMeth (i : Nat) (f : MF) (ta : AW) : SW := fun k δ => match δ[i]? with
  | some (some (.own xs)) => ta δ (fun ds => f xs ds (fun ys => k.nx (δ.set i (some (.own ys))))) (fun x => k.xq x δ)
  | _ => False
def mAppend : MF := fun xs ds Q => match ds with
  | [d] => xs.length < 16777216 ∧ Q (xs ++ [d])
  | _ => False
def mInsert : MF := fun xs ds Q => match ds with
  | [d, e] => (match d with
    | .int i => (xs.length < 16777216 ∧ 0 ≤ i ∧ i < 2 ^ 63) ∧ Q (xs.take i.toNat ++ [e] ++ xs.drop i.toNat)
    | _ => False)
  | _ => False
def mExtend : MF := fun xs ds Q => match ds with
  | [d] => (match d with
    | .lst ys => xs.length + ys.length ≤ 16777216 ∧ Q (xs ++ ys)
    | _ => False)
  | _ => False
def mReverse : MF := fun xs ds Q => match ds with
  | [] => Q xs.reverse
  | _ => False
def ixOf (n : Nat) (i : Int) : Option Nat := if 0 ≤ i then (if i < n then some i.toNat else none) else if -(n : Int) ≤ i then some (i + n).toNat else none
/-- xs[j] = e -/
def sSetIx (i : Nat) (tj te : EW) : SW := fun k δ => match δ[i]? with
  | some (some (.own xs)) => te δ (fun r => tj δ (fun s => match s.d with
    | .int n => (match ixOf xs.length n with
      | some j => k.nx (δ.set i (some (.own (xs.set j r.d))))
      | none => False)
    | _ => False) (fun x => k.xq x δ)) (fun x => k.xq x δ)
  | _ => False
/-- code that may raise; except .. as i -/
def noExc (δ : Fr) : Bool := δ.all fun o => match o with
  | some (.exc _ _) => false
  | _ => true
def sRaise (c : Nat) (ta : AW) : SW := fun k δ => ta δ (fun _ => k.xq ⟨c, []⟩ δ) (fun x => k.xq x δ)
/-- an own class with fields: sp gives the exception made -/
abbrev XS := List D → (Xd → Prop) → Prop
def sRaiseI (sp : XS) (ta : AW) : SW := fun k δ => ta δ (fun ds => sp ds (fun x => k.xq x δ)) (fun x => k.xq x δ)
def kSuite (i : Nat) (k : Ko) : Ko where
  nx := fun δ2 => noExc (δ2.set i none) = true ∧ k.nx (δ2.set i none)
  rt := k.rt
  xq := fun _ _ => False
  bk := fun δ2 => noExc (δ2.set i none) = true ∧ k.bk (δ2.set i none)
  ct := fun δ2 => noExc (δ2.set i none) = true ∧ k.ct (δ2.set i none)
def kQuiet (k : Ko) : Ko where
  nx := k.nx
  rt := k.rt
  xq := fun _ _ => False
  bk := k.bk
  ct := k.ct
def xAs (i : Nat) (ct : Nat → Option Bool) (ts : SW) (k : Ko) : Xd → Fr → Prop := fun x δ' => match ct x.c with
  | some b => if b = true then ts (kSuite i k) (δ'.set i (some (.exc x.c x.xs))) else k.xq x δ'
  | none => False
def sTryAs (i : Nat) (ct : Nat → Option Bool) (tb ts : SW) : SW := fun k δ => tb { k with xq := xAs i ct ts k } δ
/-- except X: without a name, one clause -/
def xTry (ct : Nat → Option Bool) (ts : SW) (k : Ko) : Xd → Fr → Prop := fun x δ' => match ct x.c with
  | some b => if b = true then ts (kQuiet k) δ' else k.xq x δ'
  | none => False
def sTry (ct : Nat → Option Bool) (tb ts : SW) : SW := fun k δ => tb { k with xq := xTry ct ts k } δ
/-- isinstance of the handled exception; its field -/
def wIsX (i : Nat) (sb : Nat → Option Bool) : EW := fun δ Q _ => match δ[i]? with
  | some (some (.exc c _)) => (match sb c with
    | some b => Q (.fz (.bl b))
    | none => False)
  | _ => False
def wXf (i : Nat) (tb : List (Nat × Nat)) : EW := fun δ Q _ => match δ[i]? with
  | some (some (.exc c xs)) => (match tb.lookup c with
    | some j => (match xs[j]? with
      | some d => Q (.fz d)
      | none => False)
    | none => False)
  | _ => False
/-! ### operators -/
inductive Dn where
  | add | radd | sub | rsub | mul | rmul | fdiv | mod | pow | lsh | rsh | bor | band | eq | lt | le | gt | ge | neg | inv | abs | bool | str | len | iter | contains | getitem | setitem
  deriving DecidableEq
def Dn.nm : Dn → Str
  | .add => "__add__" | .radd => "__radd__" | .sub => "__sub__" | .rsub => "__rsub__" | .mul => "__mul__" | .rmul => "__rmul__" | .fdiv => "__floordiv__" | .mod => "__mod__" | .pow => "__pow__"
  | .lsh => "__lshift__" | .rsh => "__rshift__" | .bor => "__or__" | .band => "__and__" | .eq => "__eq__" | .lt => "__lt__" | .le => "__le__" | .gt => "__gt__" | .ge => "__ge__"
  | .neg => "__neg__" | .inv => "__invert__" | .abs => "__abs__" | .bool => "__bool__" | .str => "__str__" | .len => "__len__" | .iter => "__iter__" | .contains => "__contains__"
  | .getitem => "__getitem__" | .setitem => "__setitem__"
/-- the classes' special methods -/
abbrev Dun := Nat → Dn → Option FS
/-- a special method of the left side -/
def objL (dn : Dun) (m : Dn) (c : Nat) (xs : List D) (y : D) (Q : QR) (X : QX) : Prop := match dn c m with
  | some sp => sp [.obj c xs, y] Q X
  | none => False
def mulOk (i j : Int) : Prop := i.natAbs.log2 + j.natAbs.log2 < 1000000
def divOk (j : Int) : Prop := j ≠ 0 ∧ j.natAbs.log2 < 9000
def powOk (i j : Int) : Prop := 0 ≤ j ∧ j ≤ 1000000 ∧ i.natAbs < 2 ^ 64
def repN (k : Int) (xs : List D) : List D := (List.replicate k.toNat xs).flatten
def opAdd (dn : Dun) : Op2 := fun x y Q X => match x, y with
  | .int i, .int j => Q (.fz (.int (i + j)))
  | .str a, .str b => a.length + b.length ≤ 16777216 ∧ Q (.fz (.str (a ++ b)))
  | .lst a, .lst b => a.length + b.length ≤ 16777216 ∧ Q (.own (a ++ b))
  | .obj c xs, .int j => objL dn .add c xs (.int j) Q X
  | .obj c xs, .obj c' ys => c' = c ∧ objL dn .add c xs (.obj c' ys) Q X
  | .int i, .obj c xs => (dn c .add).isSome = true ∧ objL dn .radd c xs (.int i) Q X
  | _, _ => False
def opSub (dn : Dun) : Op2 := fun x y Q X => match x, y with
  | .int i, .int j => Q (.fz (.int (i - j)))
  | .obj c xs, .int j => objL dn .sub c xs (.int j) Q X
  | .obj c xs, .obj c' ys => c' = c ∧ objL dn .sub c xs (.obj c' ys) Q X
  | .int i, .obj c xs => (dn c .sub).isSome = true ∧ objL dn .rsub c xs (.int i) Q X
  | _, _ => False
def opMul (dn : Dun) : Op2 := fun x y Q X => match x, y with
  | .int i, .int j => mulOk i j ∧ Q (.fz (.int (i * j)))
  | .lst a, .int k => (-(2 ^ 63) ≤ k ∧ k < 2 ^ 63 ∧ a.length * k.toNat ≤ 16777216) ∧ Q (.own (repN k a))
  | .obj c xs, .int j => objL dn .mul c xs (.int j) Q X
  | .obj c xs, .obj c' ys => c' = c ∧ objL dn .mul c xs (.obj c' ys) Q X
  | .int i, .obj c xs => (dn c .mul).isSome = true ∧ objL dn .rmul c xs (.int i) Q X
  | _, _ => False
def opFdiv (dn : Dun) : Op2 := fun x y Q X => match x, y with
  | .int i, .int j => divOk j ∧ Q (.fz (.int (i.fdiv j)))
  | .obj c xs, .int j => objL dn .fdiv c xs (.int j) Q X
  | .obj c xs, .obj c' ys => c' = c ∧ objL dn .fdiv c xs (.obj c' ys) Q X
  | _, _ => False
def opMod (dn : Dun) : Op2 := fun x y Q X => match x, y with
  | .int i, .int j => j ≠ 0 ∧ Q (.fz (.int (i.fmod j)))
  | .obj c xs, .int j => objL dn .mod c xs (.int j) Q X
  | .obj c xs, .obj c' ys => c' = c ∧ objL dn .mod c xs (.obj c' ys) Q X
  | _, _ => False
def opPow (dn : Dun) : Op2 := fun x y Q X => match x, y with
  | .int i, .int j => powOk i j ∧ Q (.fz (.int (i ^ j.toNat)))
  | .obj c xs, .int j => objL dn .pow c xs (.int j) Q X
  | _, _ => False
/-- the other operators are of own classes alone -/
def opObj (dn : Dun) (m : Dn) : Op2 := fun x y Q X => match x, y with
  | .obj c xs, .int j => objL dn m c xs (.int j) Q X
  | .obj c xs, .obj c' ys => c' = c ∧ objL dn m c xs (.obj c' ys) Q X
  | _, _ => False
def opNeg (dn : Dun) : Op1 := fun x Q X => match x with
  | .int i => Q (.fz (.int (-i)))
  | .obj c xs => (match dn c .neg with
    | some sp => sp [.obj c xs] Q X
    | none => False)
  | _ => False
def opInv (dn : Dun) : Op1 := fun x Q X => match x with
  | .obj c xs => (match dn c .inv with
    | some sp => sp [.obj c xs] Q X
    | none => False)
  | _ => False
/-! ### comparisons -/
def opOrd (dn : Dun) (m : Dn) (p : Int → Int → Bool) : Op2 := fun x y Q X => match x, y with
  | .int i, .int j => Q (.fz (.bl (p i j)))
  | .obj c xs, .obj c' ys => c' = c ∧ objL dn m c xs (.obj c' ys) Q X
  | _, _ => False
def opLt (dn : Dun) : Op2 := opOrd dn .lt fun i j => decide (i < j)
def opLe (dn : Dun) : Op2 := opOrd dn .le fun i j => decide (i ≤ j)
def opGt (dn : Dun) : Op2 := opOrd dn .gt fun i j => decide (j < i)
def opGe (dn : Dun) : Op2 := opOrd dn .ge fun i j => decide (j ≤ i)
-- no instance of a class within
mutual
def D.flat : D → Bool
  | .lst ds => D.flats ds
  | .tup ds => D.flats ds
  | .obj _ _ => false
  | .cls _ => false
  | .scr _ => false
  | .str x => x.cps.all fun c => decide (c < 1114112)
  | _ => true
def D.flats : List D → Bool
  | [] => true
  | d :: ds => D.flat d && D.flats ds
end
mutual
def D.dep : D → Nat
  | .lst ds => D.deps ds + 1
  | .tup ds => D.deps ds + 1
  | _ => 0
def D.deps : List D → Nat
  | [] => 0
  | d :: ds => max (D.dep d) (D.deps ds)
end
-- == of data
mutual
def D.eqv : D → D → Bool
  | .non, .non => true
  | .bl a, .bl b => a == b
  | .bl a, .int j => (if a then 1 else 0) == j
  | .int i, .bl b => i == (if b then 1 else 0)
  | .int i, .int j => i == j
  | .str x, .str y => x == y
  | .lst xs, .lst ys => D.eqvs xs ys
  | .tup xs, .tup ys => D.eqvs xs ys
  | .obj c xs, .obj d ys => c == d && D.eqvs xs ys
  | _, _ => false
def D.eqvs : List D → List D → Bool
  | [], [] => true
  | x :: xs, y :: ys => D.eqv x y && D.eqvs xs ys
  | _, _ => false
end
/-- the answer of a special method, turned -/
def QR.neg (Q : QR) : QR := fun r => match r with
  | .fz (.bl b) => Q (.fz (.bl (!b)))
  | _ => False
/-- only a truth value is wanted -/
def QR.bl (Q : QR) : QR := fun r => match r with
  | .fz (.bl b) => Q (.fz (.bl b))
  | _ => False
/-- no class, not the law's argument -/
def D.val : D → Bool
  | .cls _ => false
  | .scr _ => false
  | _ => true
def opEq (dn : Dun) : Op2 := fun x y Q X => match x, y with
  | .obj c xs, y => y.val = true ∧ objL dn .eq c xs y (QR.bl Q) X
  | .int i, .obj c xs => objL dn .eq c xs (.int i) (QR.bl Q) X
  | x, y => (x.flat = true ∧ y.flat = true ∧ x.dep ≤ 64 ∧ y.dep ≤ 64) ∧ Q (.fz (.bl (D.eqv x y)))
def opNe (dn : Dun) : Op2 := fun x y Q X => match x, y with
  | .obj c xs, y => y.val = true ∧ objL dn .eq c xs y (QR.neg Q) X
  | .int i, .obj c xs => objL dn .eq c xs (.int i) (QR.neg Q) X
  | x, y => (x.flat = true ∧ y.flat = true ∧ x.dep ≤ 64 ∧ y.dep ≤ 64) ∧ Q (.fz (.bl (!D.eqv x y)))
/-- the same for data alone -/
def opEqF : Op2 := fun x y Q _ => (x.flat = true ∧ y.flat = true ∧ x.dep ≤ 64 ∧ y.dep ≤ 64) ∧ Q (.fz (.bl (D.eqv x y)))
def opNeF : Op2 := fun x y Q _ => (x.flat = true ∧ y.flat = true ∧ x.dep ≤ 64 ∧ y.dep ≤ 64) ∧ Q (.fz (.bl (!D.eqv x y)))
/-- is of None, True, False -/
def opIs : Op2 := fun x y Q _ => match y with
  | .non => (match x with
    | .non => Q (.fz (.bl true))
    | _ => Q (.fz (.bl false)))
  | .bl b => (match x with
    | .bl a => Q (.fz (.bl (a == b)))
    | .non => Q (.fz (.bl false))
    | .int _ => Q (.fz (.bl false))
    | .str _ => Q (.fz (.bl false))
    | .lst _ => Q (.fz (.bl false))
    | .tup _ => Q (.fz (.bl false))
    | .obj _ _ => Q (.fz (.bl false))
    | _ => False)
  | _ => False
def opIsNot : Op2 := fun x y Q X => opIs x y (QR.neg Q) X
/-- in: flat things in a list or tuple of flat things; one sign in a text -/
def D.atom : D → Bool
  | .non => true
  | .bl _ => true
  | .int _ => true
  | .str _ => true
  | _ => false
def memD (x : D) (ys : List D) : Bool := ys.any fun y => D.eqv y x
def opIn (dn : Dun) : Op2 := fun x y Q X => match y with
  | .lst ys => (x.atom = true ∧ ys.all D.atom = true) ∧ Q (.fz (.bl (memD x ys)))
  | .tup ys => (x.atom = true ∧ ys.all D.atom = true) ∧ Q (.fz (.bl (memD x ys)))
  | .str z => (match x with
    | .str w => ∃ c, w = ⟨#[c]⟩ ∧ Q (.fz (.bl (decide (c ∈ z.cps.toList))))
    | _ => False)
  | .obj c xs => objL dn .contains c xs x (QR.bl Q) X
  | _ => False
/-- data alone -/
def opInF : Op2 := fun x y Q _ => match y with
  | .lst ys => (x.atom = true ∧ ys.all D.atom = true) ∧ Q (.fz (.bl (memD x ys)))
  | .tup ys => (x.atom = true ∧ ys.all D.atom = true) ∧ Q (.fz (.bl (memD x ys)))
  | _ => False
def opNotInF : Op2 := fun x y Q X => opInF x y (QR.neg Q) X
def opNotIn (dn : Dun) : Op2 := fun x y Q X => opIn dn x y (QR.neg Q) X

/-! ### builtins -/
abbrev BF := List D → QR → Prop
def aConsR (ta : BW) (tr : AW) : AW := fun δ Q X => ta δ (fun d => tr δ (fun ds => Q (d :: ds)) X) X
def wBlt (bf : BF) (ta : AW) : EW := fun δ Q X => ta δ (fun ds => bf ds Q) X
def obj1 (dn : Dun) (m : Dn) (c : Nat) (xs : List D) (Q : QR) : Prop := match dn c m with
  | some sp => sp [.obj c xs] Q (fun _ => False)
  | none => False
def bLen (dn : Dun) : BF := fun ds Q => match ds with
  | [d] => (match d with
    | .lst xs => Q (.fz (.int (xs.length : Int)))
    | .tup xs => Q (.fz (.int (xs.length : Int)))
    | .scr ns => Q (.fz (.int (ns.length : Int)))
    | .str x => x.length ≤ 16777216 ∧ Q (.fz (.int (x.length : Int)))
    | .obj c xs => obj1 dn .len c xs (fun r => match r with
      | .fz (.int n) => (0 ≤ n ∧ n < 2 ^ 63) ∧ Q (.fz (.int n))
      | _ => False)
    | _ => False)
  | _ => False
def bAbs (dn : Dun) : BF := fun ds Q => match ds with
  | [d] => (match d with
    | .int i => Q (.fz (.int (if i < 0 then -i else i)))
    | .obj c xs => obj1 dn .abs c xs Q
    | _ => False)
  | _ => False
def bInt : BF := fun ds Q => match ds with
  | [d] => (match d with
    | .int i => Q (.fz (.int i))
    | .bl b => Q (.fz (.int (if b then 1 else 0)))
    | _ => False)
  | _ => False
def bBool (dn : Dun) : BF := fun ds Q => match ds with
  | [d] => (match d with
    | .int i => Q (.fz (.bl (i != 0)))
    | .bl b => Q (.fz (.bl b))
    | .obj c xs => obj1 dn .bool c xs (QR.bl Q)
    | _ => False)
  | _ => False
def QR.st (Q : QR) : QR := fun r => match r with
  | .fz (.str x) => Q (.fz (.str x))
  | _ => False
def bStr (dn : Dun) : BF := fun ds Q => match ds with
  | [d] => (match d with
    | .int i => i.natAbs.log2 < 1920 ∧ Q (.fz (.str (toString i)))
    | .str x => Q (.fz (.str x))
    | .obj c xs => obj1 dn .str c xs (QR.st Q)
    | _ => False)
  | _ => False
def bMax2 : BF := fun ds Q => match ds with
  | [d, e] => (match d, e with
    | .int i, .int j => Q (.fz (.int (if j > i then j else i)))
    | _, _ => False)
  | _ => False
def bMin2 : BF := fun ds Q => match ds with
  | [d, e] => (match d, e with
    | .int i, .int j => Q (.fz (.int (if j < i then j else i)))
    | _, _ => False)
  | _ => False
def bGcd : BF := fun ds Q => match ds with
  | [d, e] => (match d, e with
    | .int i, .int j => Q (.fz (.int ((Nat.gcd i.natAbs j.natAbs : Nat) : Int)))
    | _, _ => False)
  | _ => False
def bList : BF := fun ds Q => match ds with
  | [d] => (match seqOf d with
    | some xs => Q (.own xs)
    | none => False)
  | _ => False
def bTuple : BF := fun ds Q => match ds with
  | [d] => (match seqOf d with
    | some xs => Q (.fz (.tup xs))
    | none => False)
  | _ => False
def intsOf : List D → Option (List Int)
  | [] => some []
  | .int i :: ds => (match intsOf ds with
    | some is => some (i :: is)
    | none => none)
  | _ => none
def bSum : BF := fun ds Q => match ds with
  | [d] => (match d with
    | .lst xs => (match intsOf xs with
      | some is => Q (.fz (.int is.sum))
      | none => False)
    | _ => False)
  | _ => False
def bMax : BF := fun ds Q => match ds with
  | [d] => (match d with
    | .lst xs => (match intsOf xs with
      | some is => 0 < is.length ∧ ∀ m, m ∈ is → (∀ y, y ∈ is → y ≤ m) → Q (.fz (.int m))
      | none => False)
    | _ => False)
  | _ => False
def bMin : BF := fun ds Q => match ds with
  | [d] => (match d with
    | .lst xs => (match intsOf xs with
      | some is => 0 < is.length ∧ ∀ m, m ∈ is → (∀ y, y ∈ is → m ≤ y) → Q (.fz (.int m))
      | none => False)
    | _ => False)
  | _ => False
def bSorted : BF := fun ds Q => match ds with
  | [d] => (match d with
    | .lst xs => (match intsOf xs with
      | some is => ∀ os : List Int, os.Perm is → os.Pairwise (· ≤ ·) → Q (.own (os.map D.int))
      | none => False)
    | _ => False)
  | _ => False
def blsOf : List D → Option (List Bool)
  | [] => some []
  | .bl i :: ds => (match blsOf ds with
    | some is => some (i :: is)
    | none => none)
  | _ => none
def bAny : BF := fun ds Q => match ds with
  | [d] => (match d with
    | .lst xs => (match blsOf xs with
      | some is => Q (.fz (.bl (is.any id)))
      | none => False)
    | _ => False)
  | _ => False
def bAll : BF := fun ds Q => match ds with
  | [d] => (match d with
    | .lst xs => (match blsOf xs with
      | some is => Q (.fz (.bl (is.all id)))
      | none => False)
    | _ => False)
  | _ => False
inductive Ty where
  | int | bool | str | list | tuple
def Ty.nm : Ty → String
  | .int => "int" | .bool => "bool" | .str => "str" | .list => "list" | .tuple => "tuple"
def isT : Ty → D → Bool
  | .int, .int _ => true
  | .int, .bl _ => true
  | .bool, .bl _ => true
  | .str, .str _ => true
  | .list, .lst _ => true
  | .list, .scr _ => true
  | .tuple, .tup _ => true
  | _, _ => false
def isC (c : Nat) : D → Bool
  | .obj c' _ => c' == c
  | _ => false
def D.nocls : D → Bool
  | .cls _ => false
  | _ => true
/-- isinstance(e, a builtin type), isinstance(e, an own class) -/
def wIsT (ty : Ty) (u : BW) : EW := fun δ Q X => u δ (fun d => d.nocls = true ∧ Q (.fz (.bl (isT ty d)))) X
def wIsC (c : Nat) (u : BW) : EW := fun δ Q X => u δ (fun d => d.nocls = true ∧ Q (.fz (.bl (isC c d)))) X
/-! ### subscripts, slices -/
def ixD (xs : List D) (i : Int) : Option D := match ixOf xs.length i with
  | some j => xs[j]?
  | none => none
def ixS (z : Str) (i : Int) : Option Nat := match ixOf z.cps.toList.length i with
  | some j => z.cps.toList[j]?
  | none => none
/-- xs[i], xs only read -/
def opIx : Op2 := fun x y Q _ => match x, y with
  | .lst xs, .int i => (match ixD xs i with
    | some v => Q (.fz v)
    | none => False)
  | .tup xs, .int i => (match ixD xs i with
    | some v => Q (.fz v)
    | none => False)
  | .scr ns, .int i => (match ixD (ns.map D.int) i with
    | some v => Q (.fz v)
    | none => False)
  | .str z, .int i => z.length ≤ 16777216 ∧ (match ixS z i with
    | some c => Q (.fz (.str ⟨#[c]⟩))
    | none => False)
  | _, _ => False
/-- the part's own bounds -/
def sIx (n d : Nat) : Option Int → Nat
  | none => d
  | some i => if i < 0 then (i + (n : Int)).toNat else min i.toNat n
def cutD {α : Type} (xs : List α) (lo hi : Option Int) : List α := (xs.drop (sIx xs.length 0 lo)).take (sIx xs.length xs.length hi - sIx xs.length 0 lo)
def cutT (z : Str) (lo hi : Option Int) : Str := ⟨((z.cps.toList.drop (sIx z.length 0 lo)).take (sIx z.length z.length hi - sIx z.length 0 lo)).toArray⟩
/-- a part of a slice -/
abbrev OW := Fr → (Option Int → Prop) → QX → Prop
def oNone : OW := fun _ Q _ => Q none
def oSome (t : EW) : OW := fun δ Q X => t δ (fun r => match r.d with
  | .int i => Q (some i)
  | _ => False) X
/-- f-strings -/
def wFmt (t : EW) : EW := fun δ Q X => t δ (fun r => match r.d with
  | .str y => y.length ≤ 16777216 ∧ Q (.fz (.str y))
  | .int i => i.natAbs.log2 < 1920 ∧ Q (.fz (.str (toString i)))
  | _ => False) X
def wJs : List EW → Str → Fr → (Str → Prop) → QX → Prop
  | [], acc, _, Q, _ => Q acc
  | t :: ts, acc, δ, Q, X => t δ (fun r => match r.d with
    | .str y => (acc ++ y).length ≤ 16777216 ∧ wJs ts (acc ++ y) δ Q X
    | _ => False) X
def wJoin (ts : List EW) : EW := fun δ Q X => wJs ts Str.empty δ (fun out => Q (.fz (.str out))) X
def wSl (u : BW) (lo hi : OW) : EW := fun δ Q X => u δ (fun d => lo δ (fun a => hi δ (fun b => match d with
  | .lst xs => Q (.own (cutD xs a b))
  | .tup xs => Q (.fz (.tup (cutD xs a b)))
  | .str z => z.length ≤ 16777216 ∧ Q (.fz (.str (cutT z a b)))
  | _ => False) X) X) X
/-- xs[::-1] -/
def wRevL (u : BW) : EW := fun δ Q X => u δ (fun d => match d with
  | .lst xs => Q (.own xs.reverse)
  | _ => False) X
/-- a body's start -/
def slotOf (m : Bool) (d : D) : Sl := match m, d with
  | true, .lst xs => .lent xs
  | _, d => .fz d
def slotsOf : List Bool → List D → Fr
  | m :: ms, d :: ds => some (slotOf m d) :: slotsOf ms ds
  | _, _ => []
def startD (n : Nat) (ms : List Bool) (ds : List D) : Fr := slotsOf ms ds ++ List.replicate (n - ds.length) none
/-- an __init__: c's fields are there in the end -/
def initEnd (c n : Nat) (Q : QR) (δ' : Fr) : Prop := match (δ'[(0 : Nat)]? : Option (Option Sl)) with
  | some (some (.ob c' xs)) => (c' = c ∧ xs.length = n) ∧ Q (.fz (.obj c xs))
  | _ => False
def runInit (t : SW) (c n : Nat) (δ : Fr) (Q : QR) (X : QX) : Prop := t { nx := initEnd c n Q, rt := fun _ => False, xq := fun x _ => X x } δ
def startI (n c : Nat) (ms : List Bool) (ds : List D) : Fr := some (.ob c []) :: (slotsOf ms ds ++ List.replicate (n - (ds.length + 1)) none)
/-- a body's end -/
def runBody (t : SW) (δ : Fr) (Q : QR) (X : QX) : Prop := t { nx := fun _ => Q (.fz .non), rt := Q, xq := fun x _ => X x } δ
end VL
end
section
set_option Elab.async false
set_option linter.all false
set_option maxRecDepth 100000
set_option maxHeartbeats 4000000
/-! VLs1: the value layer over the hand layer: what data a value stands for, steps of the heap, judgements. -/
namespace VL
open PySem PySem.Spec PyProof.Rows L2

/-- where the classes stand, their fields -/
structure Tab where
  n : Nat
  cls : Nat → Addr
  flds : Nat → List Str

section
variable (T : Tab) (K : PySem.W.Frag) (H : Hp)
mutual
def Rep : D → V → Prop
  | .non, v => v = .non
  | .bl b, v => v = .bl b
  | .int i, v => v = .int i
  | .str x, v => v = .str x
  | .lst ds, v => ∃ a xs, v = .ref a ∧ H a = some (.lst xs) ∧ RepL ds xs
  | .tup ds, v => ∃ a xs, v = .ref a ∧ H a = some (.tup xs) ∧ RepL ds xs
  | .obj c ds, v => ∃ a dx fs, v = .ref a ∧ c < T.n ∧ H a = some (.ins (T.cls c) dx fs) ∧ fs.map (·.1) = T.flds c ∧ RepL ds (fs.map (·.2))
  | .cls c, v => v = .ref (T.cls c)
  | .scr ns, v => ∃ a, v = .ref a ∧ SqL K H a (ns.map V.int)
def RepL : List D → List V → Prop
  | [], vs => vs = []
  | d :: ds, vs => ∃ v r, vs = v :: r ∧ Rep d v ∧ RepL ds r
end
end

/-- all that was tracked is tracked so -/
def Ex (H H' : Hp) : Prop := ∀ a o, H a = some o → H' a = some o
theorem Ex.refl (H : Hp) : Ex H H := fun _ _ h => h
theorem Ex.trans {H H1 H2 : Hp} (a : Ex H H1) (b : Ex H1 H2) : Ex H H2 := fun x o h => b x o (a x o h)
theorem Ex.new {H : Hp} {p : Addr} {o : HO} (h : H p = none) : Ex H (upd H p o) := fun a u e => by
  rw [upd_ne (ne_of_none e h)]
  exact e
theorem Ex.mut {H H' : Hp} {p : Addr} {o : HO} (e : Ex H H') (h : H p = none) : Ex H (upd H' p o) := fun a u ha => by
  rw [upd_ne (ne_of_none ha h)]
  exact e a u ha
theorem Ex.fresh {H H' : Hp} {p : Addr} (e : Ex H H') (h : H' p = none) : H p = none := by
  cases h1 : H p with
  | none => rfl
  | some o =>
    rw [e p o h1] at h
    cases h
section
variable {T : Tab} {K : PySem.W.Frag} {H H' : Hp} {a : Addr} {xs : List V}
theorem ex_rd {u : HO} (e : Ex H H') (h : Rd H a u) : Rd H' a u := by
  rcases h with h | ⟨o, h⟩
  · exact Or.inl (e a _ h)
  · exact Or.inr ⟨o, e a _ h⟩
theorem ex_l (e : Ex H H') (h : SqL K H a xs) : SqL K H' a xs := by
  rcases h with h | h
  · exact Or.inl (ex_rd e h)
  · exact Or.inr h
theorem ex_t (e : Ex H H') (h : SqT K H a xs) : SqT K H' a xs := by
  rcases h with h | h
  · exact Or.inl (ex_rd e h)
  · exact Or.inr h
mutual
theorem Rep.mono (e : Ex H H') : ∀ {d : D} {v : V}, Rep T K H d v → Rep T K H' d v
  | .non, _, h => h
  | .bl _, _, h => h
  | .int _, _, h => h
  | .str _, _, h => h
  | .cls _, _, h => h
  | .scr ns, v, h => by
    unfold Rep at h ⊢
    obtain ⟨a, h1, h2⟩ := h
    exact ⟨a, h1, ex_l e h2⟩
  | .lst ds, v, h => by
    unfold Rep at h ⊢
    obtain ⟨a, xs, h1, h2, h3⟩ := h
    exact ⟨a, xs, h1, e _ _ h2, RepL.mono e h3⟩
  | .tup ds, v, h => by
    unfold Rep at h ⊢
    obtain ⟨a, xs, h1, h2, h3⟩ := h
    exact ⟨a, xs, h1, e _ _ h2, RepL.mono e h3⟩
  | .obj c ds, v, h => by
    unfold Rep at h ⊢
    obtain ⟨a, dx, fs, h1, h0, h2, h3, h4⟩ := h
    exact ⟨a, dx, fs, h1, h0, e _ _ h2, h3, RepL.mono e h4⟩
theorem RepL.mono (e : Ex H H') : ∀ {ds : List D} {vs : List V}, RepL T K H ds vs → RepL T K H' ds vs
  | [], vs, h => by
    unfold RepL at h ⊢
    exact h
  | d :: ds, vs, h => by
    unfold RepL at h ⊢
    obtain ⟨v, r, h1, h2, h3⟩ := h
    exact ⟨v, r, h1, Rep.mono e h2, RepL.mono e h3⟩
end
theorem repL_nil {vs : List V} : RepL T K H [] vs ↔ vs = [] := by
  unfold RepL
  exact Iff.rfl
theorem repL_cons {d : D} {ds : List D} {vs : List V} : RepL T K H (d :: ds) vs ↔ ∃ v r, vs = v :: r ∧ Rep T K H d v ∧ RepL T K H ds r := by
  conv => lhs; unfold RepL
theorem RepL.nil : RepL T K H [] [] := repL_nil.mpr rfl
theorem RepL.cons {d : D} {ds : List D} {v : V} {vs : List V} (h : Rep T K H d v) (t : RepL T K H ds vs) : RepL T K H (d :: ds) (v :: vs) := repL_cons.mpr ⟨v, vs, rfl, h, t⟩
theorem RepL.un {d : D} {ds : List D} {v : V} {vs : List V} (h : RepL T K H (d :: ds) (v :: vs)) : Rep T K H d v ∧ RepL T K H ds vs := by
  obtain ⟨w, r, e, a, b⟩ := repL_cons.mp h
  obtain ⟨rfl, rfl⟩ := List.cons.inj e
  exact ⟨a, b⟩
theorem RepL.length : ∀ {ds : List D} {vs : List V}, RepL T K H ds vs → ds.length = vs.length
  | [], vs, h => by
    rw [repL_nil.mp h]
    rfl
  | d :: ds, vs, h => by
    obtain ⟨v, r, rfl, _, h3⟩ := repL_cons.mp h
    simp [RepL.length h3]
theorem RepL.get : ∀ {ds : List D} {vs : List V} {i : Nat} {v : V}, RepL T K H ds vs → vs[i]? = some v → ∃ d, ds[i]? = some d ∧ Rep T K H d v
  | [], vs, i, v, h, e => by
    rw [repL_nil.mp h] at e
    simp at e
  | d :: ds, vs, i, v, h, e => by
    obtain ⟨w, r, rfl, h2, h3⟩ := repL_cons.mp h
    cases i with
    | zero =>
      simp at e
      subst e
      exact ⟨d, by simp, h2⟩
    | succ i =>
      obtain ⟨d', e1, e2⟩ := RepL.get (i := i) h3 (by simpa using e)
      exact ⟨d', by simpa using e1, e2⟩
theorem RepL.getD : ∀ {ds : List D} {vs : List V} {i : Nat} {d : D}, RepL T K H ds vs → ds[i]? = some d → ∃ v, vs[i]? = some v ∧ Rep T K H d v
  | [], vs, i, v, h, e => by
    simp at e
  | d :: ds, vs, i, v, h, e => by
    obtain ⟨w, r, rfl, h2, h3⟩ := repL_cons.mp h
    cases i with
    | zero =>
      simp at e
      subst e
      exact ⟨w, by simp, h2⟩
    | succ i =>
      obtain ⟨d', e1, e2⟩ := RepL.getD (i := i) h3 (by simpa using e)
      exact ⟨d', by simpa using e1, e2⟩
theorem RepL.append : ∀ {ds es : List D} {vs ws : List V}, RepL T K H ds vs → RepL T K H es ws → RepL T K H (ds ++ es) (vs ++ ws)
  | [], es, vs, ws, h, h' => by
    rw [repL_nil.mp h]
    exact h'
  | d :: ds, es, vs, ws, h, h' => by
    obtain ⟨w, r, rfl, h2, h3⟩ := repL_cons.mp h
    exact RepL.cons h2 (RepL.append h3 h')
theorem RepL.set : ∀ {ds : List D} {vs : List V} {d : D} {v : V} (i : Nat), RepL T K H ds vs → Rep T K H d v → RepL T K H (ds.set i d) (vs.set i v)
  | [], vs, d, v, i, h, r => by
    rw [repL_nil.mp h]
    exact RepL.nil
  | e :: ds, vs, d, v, i, h, r => by
    obtain ⟨w, s, rfl, h2, h3⟩ := repL_cons.mp h
    cases i with
    | zero => exact RepL.cons r h3
    | succ i => exact RepL.cons h2 (RepL.set i h3 r)
theorem RepL.take : ∀ {ds : List D} {vs : List V} (n : Nat), RepL T K H ds vs → RepL T K H (ds.take n) (vs.take n)
  | [], vs, n, h => by
    rw [repL_nil.mp h]
    simp [repL_nil]
  | e :: ds, vs, n, h => by
    obtain ⟨w, s, rfl, h2, h3⟩ := repL_cons.mp h
    cases n with
    | zero => exact RepL.nil
    | succ n => exact RepL.cons h2 (RepL.take n h3)
theorem RepL.drop : ∀ {ds : List D} {vs : List V} (n : Nat), RepL T K H ds vs → RepL T K H (ds.drop n) (vs.drop n)
  | [], vs, n, h => by
    rw [repL_nil.mp h]
    simp [repL_nil]
  | e :: ds, vs, n, h => by
    obtain ⟨w, s, rfl, h2, h3⟩ := repL_cons.mp h
    cases n with
    | zero => exact h
    | succ n => exact RepL.drop n h3
theorem RepL.ints {ns : List Int} : ∀ {vs : List V}, RepL T K H (ns.map D.int) vs ↔ vs = ns.map V.int := by
  induction ns with
  | nil => exact fun {vs} => repL_nil
  | cons n ns ih =>
    intro vs
    constructor
    · intro h
      obtain ⟨w, r, rfl, h2, h3⟩ := repL_cons.mp h
      unfold Rep at h2
      rw [ih.mp h3, h2]
      rfl
    · intro h
      rw [h]
      exact RepL.cons (by unfold Rep; rfl) (ih.mpr rfl)
end

/-- newly frozen: what was not tracked -/
def NewF (Hf H Hf' : Hp) : Prop := ∀ a, Hf' a ≠ none → Hf a ≠ none ∨ H a = none
/-- an expression's step: nothing tracked changes, the frozen part grows by new things -/
structure Step (Hf H Hf' H' : Hp) : Prop where
  f : Ex Hf Hf'
  h : Ex H H'
  i : Ex Hf' H'
  n : NewF Hf H Hf'
theorem Step.refl {Hf H : Hp} (i : Ex Hf H) : Step Hf H Hf H := ⟨Ex.refl _, Ex.refl _, i, fun _ h => .inl h⟩
theorem Step.trans {Hf H Hf1 H1 Hf2 H2 : Hp} (a : Step Hf H Hf1 H1) (b : Step Hf1 H1 Hf2 H2) : Step Hf H Hf2 H2 :=
  ⟨a.f.trans b.f, a.h.trans b.h, b.i, fun x hx => by
    rcases b.n x hx with h | h
    · exact a.n x h
    · exact .inr (a.h.fresh h)⟩
/-- a new object, frozen at once -/
theorem Step.new {Hf H : Hp} {p : Addr} {o : HO} (i : Ex Hf H) (h : H p = none) : Step Hf H (upd Hf p o) (upd H p o) :=
  ⟨Ex.new (i.fresh h), Ex.new h, fun a u e => by
    by_cases q : a = p
    · subst q
      rw [upd_same] at e ⊢
      exact e
    · rw [upd_ne q] at e ⊢
      exact i a u e, fun a ha => by
    by_cases q : a = p
    · subst q
      exact .inr h
    · rw [upd_ne q] at ha
      exact .inl ha⟩
/-- a new object, tracked alone -/
theorem Step.newH {Hf H : Hp} {p : Addr} {o : HO} (i : Ex Hf H) (h : H p = none) : Step Hf H Hf (upd H p o) :=
  ⟨Ex.refl _, Ex.new h, Ex.mut i (i.fresh h), fun _ ha => .inl ha⟩

section
variable (T : Tab) (K : PySem.W.Frag)
/-- what an expression's value stands for: H the heap ahead -/
def Res (Hf' H' H : Hp) (v : V) : R → Prop
  | .fz d => Rep T K Hf' d v
  | .own ds => ∃ a vs, v = .ref a ∧ Hf' a = none ∧ H a = none ∧ H' a = some (.lst vs) ∧ RepL T K Hf' ds vs
/-- an exception's class and dict -/
def RepX (Hf : Hp) (cls : Value) (d : Option Addr) (x : Xd) : Prop :=
  cls = .ref (T.cls x.c) ∧ ((d = none ∧ T.flds x.c = [] ∧ x.xs = []) ∨ ∃ dx fs vs, d = some dx ∧ Hf dx = some (.xd fs) ∧ RepL T K Hf x.xs vs ∧ vs.length = (T.flds x.c).length ∧ ∀ (i : Nat) f v, (T.flds x.c)[i]? = some f → vs[i]? = some v → fs.lookup f = some v)
/-- the exception that is handled: where it stands, its class, its dict -/
structure Hd where
  ex : Option (Addr × Value × Option Addr)
  /-- the instance that is being made -/
  me : Option Addr
/-- a slot: H0 the heap at the entry -/
def SlOk (z : Hd) (H0 Hf H : Hp) : Option V → Option Sl → Prop
  | _, none => True
  | none, some _ => False
  | some v, some (.fz d) => Rep T K Hf d v
  | some v, some (.own ds) => ∃ a vs, v = .ref a ∧ Hf a = none ∧ H0 a = none ∧ H a = some (.lst vs) ∧ RepL T K Hf ds vs
  | some v, some (.lent ds) => ∃ a vs, v = .ref a ∧ H0 a ≠ none ∧ H a = some (.lst vs) ∧ RepL T K Hf ds vs
  | some v, some (.ob c ds) => ∃ a dx fs, v = .ref a ∧ Hf a = none ∧ ((z.me = some a ∧ H0 a = none) ∧ c < T.n) ∧ H a = some (.ins (T.cls c) dx fs) ∧ fs.map (·.1) = (T.flds c).take ds.length ∧ RepL T K Hf ds (fs.map (·.2))
  | some v, some (.exc c ds) => ∃ a cls d, z.ex = some (a, cls, d) ∧ v = .ref a ∧ RepX T K Hf cls d ⟨c, ds⟩
/-- the slots hold what is said; lists of one's own stand apart -/
structure StOk (z : Hd) (H0 Hf H : Hp) (σ : L2.St) (δ : Fr) : Prop where
  i : Ex Hf H
  h0 : Ex H0 H
  len : δ.length = σ.length
  at_ : ∀ j : Nat, SlOk T K z H0 Hf H (σ[j]?.join) (δ[j]?.join)
  ne : ∀ (j j' : Nat) (s s' : Sl) (a : Addr), δ[j]? = some (some s) → δ[j']? = some (some s') → s.mine = true → s'.mine = true → σ[j]? = some (some (.ref a)) → σ[j']? = some (some (.ref a)) → j = j'
end
section
variable {T : Tab} {K : PySem.W.Frag} {z : Hd} {H0 Hf H Hf' H' : Hp} {σ : L2.St} {δ : Fr}
theorem RepX.mono {cls : Value} {d : Option Addr} {x : Xd} (e : Ex Hf Hf') (h : RepX T K Hf cls d x) : RepX T K Hf' cls d x := by
  obtain ⟨h1, h2⟩ := h
  refine ⟨h1, ?_⟩
  rcases h2 with h | ⟨dx, fs, vs, a, b, c, l, f⟩
  · exact .inl h
  · exact .inr ⟨dx, fs, vs, a, e _ _ b, c.mono e, l, f⟩
theorem SlOk.step {v : Option V} {s : Option Sl} (S : Step Hf H Hf' H') (h : SlOk T K z H0 Hf H v s) : SlOk T K z H0 Hf' H' v s := by
  cases s with
  | none => exact True.intro
  | some s =>
    cases v with
    | none => exact h.elim
    | some v =>
      have nf : ∀ {a o}, Hf a = none → H a = some o → Hf' a = none := fun {a o} h1 h2 => by
        cases q : Hf' a with
        | none => rfl
        | some u =>
          rcases S.n a (by rw [q]; simp) with e | e
          · exact absurd h1 e
          · rw [h2] at e; cases e
      cases s with
      | fz d => exact Rep.mono S.f h
      | own ds =>
        obtain ⟨a, vs, e1, e2, e3, e4, e5⟩ := h
        exact ⟨a, vs, e1, nf e2 e4, e3, S.h _ _ e4, e5.mono S.f⟩
      | lent ds =>
        obtain ⟨a, vs, e1, e2, e3, e4⟩ := h
        exact ⟨a, vs, e1, e2, S.h _ _ e3, e4.mono S.f⟩
      | ob c ds =>
        obtain ⟨a, dx, fs, e1, e2, e0, e3, e4, e5⟩ := h
        exact ⟨a, dx, fs, e1, nf e2 e3, e0, S.h _ _ e3, e4, e5.mono S.f⟩
      | exc c ds =>
        obtain ⟨a, cls, d, e1, e2, e3⟩ := h
        exact ⟨a, cls, d, e1, e2, e3.mono S.f⟩
theorem StOk.step (S : Step Hf H Hf' H') (h : StOk T K z H0 Hf H σ δ) : StOk T K z H0 Hf' H' σ δ :=
  ⟨S.i, h.h0.trans S.h, h.len, fun j => (h.at_ j).step S, h.ne⟩
theorem Res.mono {v : V} {r : R} {H1 Hf1 : Hp} (S : Step Hf' H' Hf1 H1) (h : Res T K Hf' H' H v r) : Res T K Hf1 H1 H v r := by
  cases r with
  | fz d => exact Rep.mono S.f h
  | own ds =>
    obtain ⟨a, vs, e1, e2, e3, e4, e5⟩ := h
    refine ⟨a, vs, e1, ?_, e3, S.h _ _ e4, e5.mono S.f⟩
    cases q : Hf1 a with
    | none => rfl
    | some u =>
      rcases S.n a (by rw [q]; simp) with e | e
      · exact absurd e2 e
      · rw [e4] at e; cases e
/-- a result frozen -/
theorem Res.freeze {v : V} {r : R} (S : Step Hf H Hf' H') (h : Res T K Hf' H' H v r) : ∃ Hf2, Step Hf H Hf2 H' ∧ Rep T K Hf2 r.d v := by
  cases r with
  | fz d => exact ⟨Hf', S, h⟩
  | own ds =>
    obtain ⟨a, vs, e1, e2, e3, e4, e5⟩ := h
    have x1 : Ex Hf' (upd Hf' a (.lst vs)) := Ex.new e2
    refine ⟨upd Hf' a (.lst vs), ⟨S.f.trans x1, S.h, fun b u q => ?_, fun b hb => ?_⟩, ?_⟩
    · by_cases hb : b = a
      · subst hb
        rw [upd_same] at q
        rw [← q]
        exact e4
      · rw [upd_ne hb] at q
        exact S.i b u q
    · by_cases hb' : b = a
      · subst hb'
        exact .inr e3
      · rw [upd_ne hb'] at hb
        exact S.n b hb
    · unfold R.d Rep
      exact ⟨a, vs, e1, upd_same, e5.mono x1⟩
end
end VL
end
section
set_option Elab.async false
set_option linter.all false
set_option maxRecDepth 100000
set_option maxHeartbeats 4000000
/-! VLs2: the judgements; names, constants, operators, calls, displays, tests. -/
namespace VL
open PySem PySem.Spec PyProof.Rows L2

section
variable (T : Tab) (K : PySem.W.Frag)
/-- only read: frozen data, or a list whose items are frozen -/
def LRep (Hf H : Hp) (d : D) (v : V) : Prop := Rep T K Hf d v ∨ ∃ a vs ds, d = .lst ds ∧ v = .ref a ∧ H a = some (.lst vs) ∧ RepL T K Hf ds vs
/-- .. or an instance whose fields are -/
def BRep (Hf H : Hp) (d : D) (v : V) : Prop := LRep T K Hf H d v ∨ ∃ a dx fs c ds, d = .obj c ds ∧ v = .ref a ∧ c < T.n ∧ H a = some (.ins (T.cls c) dx fs) ∧ fs.map (·.1) = (T.flds c).take ds.length ∧ RepL T K Hf ds (fs.map (·.2))
def ArgsOk (Hf H : Hp) : List Bool → List D → List V → Prop
  | [], ds, vs => ds = [] ∧ vs = []
  | m :: ms, ds, vs => ∃ d dr v vr, ds = d :: dr ∧ vs = v :: vr ∧ (if m = true then LRep T K Hf H d v else Rep T K Hf d v) ∧ ArgsOk Hf H ms dr vr
end
section
variable {T : Tab} {K : PySem.W.Frag} {Hf H Hf' H' : Hp} {d : D} {v : V}
theorem LRep.step (S : Step Hf H Hf' H') (h : LRep T K Hf H d v) : LRep T K Hf' H' d v := by
  rcases h with h | ⟨a, vs, ds, e1, e2, e3, e4⟩
  · exact .inl (h.mono S.f)
  · exact .inr ⟨a, vs, ds, e1, e2, S.h _ _ e3, e4.mono S.f⟩
theorem BRep.step (S : Step Hf H Hf' H') (h : BRep T K Hf H d v) : BRep T K Hf' H' d v := by
  rcases h with h | ⟨a, dx, fs, c, ds, e1, e2, e0, e3, e4, e5⟩
  · exact .inl (h.step S)
  · exact .inr ⟨a, dx, fs, c, ds, e1, e2, e0, S.h _ _ e3, e4, e5.mono S.f⟩
theorem ArgsOk.step (S : Step Hf H Hf' H') : ∀ {ms : List Bool} {ds : List D} {vs : List V}, ArgsOk T K Hf H ms ds vs → ArgsOk T K Hf' H' ms ds vs
  | [], ds, vs, h => h
  | m :: ms, ds, vs, h => by
    obtain ⟨d, dr, v, vr, e1, e2, e3, e4⟩ := h
    refine ⟨d, dr, v, vr, e1, e2, ?_, ArgsOk.step S e4⟩
    cases m with
    | true => exact LRep.step S e3
    | false => exact Rep.mono S.f e3
theorem ArgsOk.len : ∀ {ms : List Bool} {ds : List D} {vs : List V}, ArgsOk T K Hf H ms ds vs → ds.length = ms.length ∧ vs.length = ms.length
  | [], ds, vs, h => by
    obtain ⟨rfl, rfl⟩ := h
    exact ⟨rfl, rfl⟩
  | m :: ms, ds, vs, h => by
    obtain ⟨d, dr, v, vr, rfl, rfl, _, e4⟩ := h
    have := e4.len
    simp [this]
theorem ArgsOk.append : ∀ {ms ns : List Bool} {ds es : List D} {vs ws : List V}, ArgsOk T K Hf H ms ds vs → ArgsOk T K Hf H ns es ws → ArgsOk T K Hf H (ms ++ ns) (ds ++ es) (vs ++ ws)
  | [], ns, ds, es, vs, ws, h, h' => by
    obtain ⟨rfl, rfl⟩ := h
    exact h'
  | m :: ms, ns, ds, es, vs, ws, h, h' => by
    obtain ⟨d, dr, v, vr, rfl, rfl, e3, e4⟩ := h
    exact ⟨d, dr ++ es, v, vr ++ ws, rfl, rfl, e3, e4.append h'⟩
/-- all frozen -/
theorem ArgsOk.frozen : ∀ {n : Nat} {ds : List D} {vs : List V}, ArgsOk T K Hf H (List.replicate n false) ds vs → RepL T K Hf ds vs
  | 0, ds, vs, h => by
    obtain ⟨rfl, rfl⟩ := h
    exact RepL.nil
  | n + 1, ds, vs, h => by
    obtain ⟨d, dr, v, vr, rfl, rfl, e3, e4⟩ := h
    exact RepL.cons e3 (ArgsOk.frozen e4)
end

/-- a def's promise from its spec: ms tells which arguments are only lent -/
def SpV (T : Tab) (K : PySem.W.Frag) (ms : List Bool) (sp : FS) : Sp := fun vs H Qv E => ∃ Hf ds Q X, Ex Hf H ∧ ArgsOk T K Hf H ms ds vs ∧
  (∀ v Hf' H' r, Step Hf H Hf' H' → Res T K Hf' H' H v r → Q r → Qv v H') ∧ (∀ x cls d Hf' H', Step Hf H Hf' H' → RepX T K Hf' cls d x → X x → E cls d H') ∧ sp ds Q X

section
variable (T : Tab) (K : PySem.W.Frag) (W : WX) (z : Hd)
def XOk (σ : L2.St) (Hf H : Hp) (X : QX) : Prop := ∀ x cls d Hf' H', Step Hf H Hf' H' → RepX T K Hf' cls d x → X x → W cls d σ H'
/-- the value as it is; frozen; only read -/
def rdR (t : EW) : TE := fun σ H Qv => ∃ H0 Hf δ Q X, StOk T K z H0 Hf H σ δ ∧ XOk T K W σ Hf H X ∧ (∀ v Hf' H' r, Step Hf H Hf' H' → Res T K Hf' H' H v r → Q r → Qv v H') ∧ t δ Q X
def rdD (t : BW) : TE := fun σ H Qv => ∃ H0 Hf δ Q X, StOk T K z H0 Hf H σ δ ∧ XOk T K W σ Hf H X ∧ (∀ v Hf' H' d, Step Hf H Hf' H' → Rep T K Hf' d v → Q d → Qv v H') ∧ t δ Q X
def rdB (t : BW) : TE := fun σ H Qv => ∃ H0 Hf δ Q X, StOk T K z H0 Hf H σ δ ∧ XOk T K W σ Hf H X ∧ (∀ v Hf' H' d, Step Hf H Hf' H' → BRep T K Hf' H' d v → Q d → Qv v H') ∧ t δ Q X
def rdT (t : TW) : TT := fun σ H Qb => ∃ H0 Hf δ Q X, StOk T K z H0 Hf H σ δ ∧ XOk T K W σ Hf H X ∧ (∀ b Hf' H', Step Hf H Hf' H' → Q b → Qb b H') ∧ t δ Q X
def rdA (ms : List Bool) (t : AW) : TA := fun σ H Qa => ∃ H0 Hf δ Q X, StOk T K z H0 Hf H σ δ ∧ XOk T K W σ Hf H X ∧ (∀ vs Hf' H' ds, Step Hf H Hf' H' → ArgsOk T K Hf' H' ms ds vs → Q ds → Qa vs H') ∧ t δ Q X
end
theorem XOk.step {T : Tab} {K : PySem.W.Frag} {W : WX} {σ : L2.St} {Hf H Hf' H' : Hp} {X : QX} (h : XOk T K W σ Hf H X) (S : Step Hf H Hf' H') : XOk T K W σ Hf' H' X := fun x cls d Hf2 H2 S2 => h x cls d Hf2 H2 (S.trans S2)

/-- an expression, its value's reading -/
def VE (X : Cx) (T : Tab) (W : WX) (z : Hd) (e : Expr) (t : EW) : Prop := PE X e (rdR T X.K W z t)
def VD (X : Cx) (T : Tab) (W : WX) (z : Hd) (e : Expr) (t : BW) : Prop := PE X e (rdD T X.K W z t)
def VB (X : Cx) (T : Tab) (W : WX) (z : Hd) (e : Expr) (t : BW) : Prop := PE X e (rdB T X.K W z t)
def VT (X : Cx) (T : Tab) (W : WX) (z : Hd) (e : Expr) (t : TW) : Prop := PT X e (rdT T X.K W z t)
def VW (X : Cx) (T : Tab) (W : WX) (z : Hd) (e : Expr) (t : TW) : Prop := PW X e (rdT T X.K W z t)
def VA (X : Cx) (T : Tab) (W : WX) (z : Hd) (ms : List Bool) (es : List Expr) (t : AW) : Prop := PA X es (rdA T X.K W z ms t)

section
variable {X : Cx} {T : Tab} {W : WX} {z : Hd} {e a b c : Expr} {t ta tb : EW} {u v : BW} {pos : Pos}
theorem PE.imp {t t' : TE} (h : PE X e t) (i : ∀ σ H Q, t' σ H Q → t σ H Q) : PE X e t' := ⟨fun pins s σ H Q I q => h.run pins s σ H Q I (i _ _ _ q)⟩
theorem PT.imp {t t' : TT} (h : PT X e t) (i : ∀ σ H Q, t' σ H Q → t σ H Q) : PT X e t' := ⟨fun pins s σ H Q I q => h.run pins s σ H Q I (i _ _ _ q)⟩
theorem PW.imp {t t' : TT} (h : PW X e t) (i : ∀ σ H Q, t' σ H Q → t σ H Q) : PW X e t' := ⟨fun wh pins s σ H Q I q => h.run wh pins s σ H Q I (i _ _ _ q)⟩
theorem PA.imp {es : List Expr} {t t' : TA} (h : PA X es t) (i : ∀ σ H Q, t' σ H Q → t σ H Q) : PA X es t' := ⟨fun pos pins s σ H Q I q => h.run pos pins s σ H Q I (i _ _ _ q)⟩
theorem VE.toD (h : VE X T W z e t) : VD X T W z e (bOf t) := PE.imp h fun σ H Qv ⟨H0, Hf, δ, Q, Xq, st, xo, k, q⟩ =>
  ⟨H0, Hf, δ, fun r => Q r.d, Xq, st, xo, fun v Hf' H' r S rs hq => by
    obtain ⟨Hf2, S2, rp⟩ := rs.freeze S
    exact k v Hf2 H' r.d S2 rp hq, q⟩
theorem VD.toB (h : VD X T W z e u) : VB X T W z e u := PE.imp h fun σ H Qv ⟨H0, Hf, δ, Q, Xq, st, xo, k, q⟩ =>
  ⟨H0, Hf, δ, Q, Xq, st, xo, fun v Hf' H' d S rp hq => k v Hf' H' d S (.inl (.inl rp)) hq, q⟩
theorem VE.toB (h : VE X T W z e t) : VB X T W z e (bOf t) := h.toD.toB

/-! ### names, constants -/
theorem ve_var {i : Nat} {x : Str} (hN : X.N[i]? = some x := by rfl) (hv : Vis X.env.scope x := by first | exact Or.inl rfl | exact Or.inr (Or.inl rfl) | exact Or.inr (Or.inr rfl)) (hd : (x == ("__debug__" : Str)) = false := by decide)
    (hcd : (x == ("__classdict__" : Str)) = false := by decide) : VE X T W z (.Name x pos) (wVar i) := PE.imp (pe_var hN hv hd hcd) fun σ H Qv ⟨H0, Hf, δ, Q, Xq, st, xo, k, q⟩ => by
  unfold wVar at q
  cases e1 : δ[i]? with
  | none => rw [e1] at q; exact q.elim
  | some o =>
    cases o with
    | none => rw [e1] at q; exact q.elim
    | some s =>
      cases s with
      | fz d =>
        rw [e1] at q
        have h := st.at_ i
        rw [e1] at h
        cases e2 : σ[i]? with
        | none => rw [e2] at h; exact h.elim
        | some o =>
          cases o with
          | none => rw [e2] at h; exact h.elim
          | some v =>
            rw [e2] at h
            exact ⟨v, e2, k v Hf H (.fz d) (Step.refl st.i) h q⟩
      | own _ => rw [e1] at q; exact q.elim
      | lent _ => rw [e1] at q; exact q.elim
      | ob _ _ => rw [e1] at q; exact q.elim
      | exc _ _ => rw [e1] at q; exact q.elim
theorem vb_var {i : Nat} {x : Str} (hN : X.N[i]? = some x := by rfl) (hv : Vis X.env.scope x := by first | exact Or.inl rfl | exact Or.inr (Or.inl rfl) | exact Or.inr (Or.inr rfl)) (hd : (x == ("__debug__" : Str)) = false := by decide)
    (hcd : (x == ("__classdict__" : Str)) = false := by decide) : VB X T W z (.Name x pos) (bVar i) := PE.imp (pe_var hN hv hd hcd) fun σ H Qv ⟨H0, Hf, δ, Q, Xq, st, xo, k, q⟩ => by
  unfold bVar at q
  cases e1 : δ[i]? with
  | none => rw [e1] at q; exact q.elim
  | some o =>
    cases o with
    | none => rw [e1] at q; exact q.elim
    | some s =>
      rw [e1] at q
      have h := st.at_ i
      rw [e1] at h
      cases e2 : σ[i]? with
      | none => rw [e2] at h; exact h.elim
      | some o =>
        cases o with
        | none => rw [e2] at h; exact h.elim
        | some v =>
          rw [e2] at h
          refine ⟨v, e2, ?_⟩
          cases s with
          | fz d => exact k v Hf H d (Step.refl st.i) (.inl (.inl h)) q
          | own ds =>
            obtain ⟨a, vs, e3, e4, e5, e6, e7⟩ := h
            exact k v Hf H (.lst ds) (Step.refl st.i) (.inl (.inr ⟨a, vs, ds, rfl, e3, e6, e7⟩)) q
          | lent ds =>
            obtain ⟨a, vs, e3, e4, e5, e6⟩ := h
            exact k v Hf H (.lst ds) (Step.refl st.i) (.inl (.inr ⟨a, vs, ds, rfl, e3, e5, e6⟩)) q
          | ob c ds =>
            obtain ⟨a, dx, fs, e3, e4, e0, e5, e6, e7⟩ := h
            exact k v Hf H (.obj c ds) (Step.refl st.i) (.inr ⟨a, dx, fs, c, ds, rfl, e3, e0.2, e5, e6, e7⟩) q
          | exc c ds => exact q.elim
/-- what gives the value v whatever the slots are -/
theorem ve_of {d : D} {v : V} (h : PE X e (tC v)) (r : ∀ Hf, Rep T X.K Hf d v) : VE X T W z e (wLit d) := PE.imp h fun σ H Qv ⟨H0, Hf, δ, Q, Xq, st, xo, k, q⟩ => k v Hf H (.fz d) (Step.refl st.i) (r Hf) q
theorem ve_int {i : Int} {j : Nat} : VE X T W z (.Constant (.int i) j pos) (wLit (.int i)) := ve_of pe_int fun _ => by unfold Rep; rfl
theorem ve_bl {i : Bool} {j : Nat} : VE X T W z (.Constant (.bool i) j pos) (wLit (.bl i)) := ve_of pe_bl fun _ => by unfold Rep; rfl
theorem ve_non {j : Nat} : VE X T W z (.Constant .none j pos) (wLit .non) := ve_of pe_non fun _ => by unfold Rep; rfl
theorem ve_str {i : Str} {j : Nat} : VE X T W z (.Constant (.str i) j pos) (wLit (.str i)) := ve_of pe_str fun _ => by unfold Rep; rfl
theorem ve_gint {x : Str} {i : Int} (hg : Gl X x) (hm : ∃ t, X.mg x = some (.int i t)) (hd : (x == ("__debug__" : Str)) = false := by decide) : VE X T W z (.Name x pos) (wLit (.int i)) := by
  obtain ⟨t, hm⟩ := hm
  exact ve_of (v := .int i) (pe_glob hg hm ⟨t, rfl⟩ hd) fun _ => by unfold Rep; rfl
theorem ve_gstr {x y : Str} (hg : Gl X x) (hm : ∃ t, X.mg x = some (.str y t)) (hd : (x == ("__debug__" : Str)) = false := by decide) : VE X T W z (.Name x pos) (wLit (.str y)) := by
  obtain ⟨t, hm⟩ := hm
  exact ve_of (v := .str y) (pe_glob hg hm ⟨t, rfl⟩ hd) fun _ => by unfold Rep; rfl

/-! ### operators -/
def OpV (X : Cx) (T : Tab) (W : WX) (f : Value → Value → Sem Value) (op : Op2) : Prop := ∀ (pins : List (Addr × Obj)) (s : Shared) (σ : L2.St) (H Hf : Hp) (x y : V) (u v : Value) (dx dy : D) (Q : QR) (Xq : QX) (Qv : VK),
  Inv X pins σ H s → RelV x u → RelV y v → Ex Hf H → Rep T X.K Hf dx x → Rep T X.K Hf dy y → XOk T X.K W σ Hf H Xq → (∀ v Hf' H' r, Step Hf H Hf' H' → Res T X.K Hf' H' H v r → Q r → Qv v H') → op dx dy Q Xq →
  wpAny (model X.prog X.w) X.A (f u v) (EP X pins σ Qv) X.xe s
def OpB (X : Cx) (T : Tab) (W : WX) (f : Value → Value → Sem Value) (op : Op2) : Prop := ∀ (pins : List (Addr × Obj)) (s : Shared) (σ : L2.St) (H Hf : Hp) (x y : V) (u v : Value) (dx dy : D) (Q : QR) (Xq : QX) (Qv : VK),
  Inv X pins σ H s → RelV x u → RelV y v → Ex Hf H → BRep T X.K Hf H dx x → BRep T X.K Hf H dy y → XOk T X.K W σ Hf H Xq → (∀ v Hf' H' r, Step Hf H Hf' H' → Res T X.K Hf' H' H v r → Q r → Qv v H') → op dx dy Q Xq →
  wpAny (model X.prog X.w) X.A (f u v) (EP X pins σ Qv) X.xe s
def OpU (X : Cx) (T : Tab) (W : WX) (f : Value → Sem Value) (op : Op1) : Prop := ∀ (pins : List (Addr × Obj)) (s : Shared) (σ : L2.St) (H Hf : Hp) (x : V) (u : Value) (dx : D) (Q : QR) (Xq : QX) (Qv : VK),
  Inv X pins σ H s → RelV x u → Ex Hf H → Rep T X.K Hf dx x → XOk T X.K W σ Hf H Xq → (∀ v Hf' H' r, Step Hf H Hf' H' → Res T X.K Hf' H' H v r → Q r → Qv v H') → op dx Q Xq →
  wpAny (model X.prog X.w) X.A (f u) (EP X pins σ Qv) X.xe s
theorem OpB.toV {f : Value → Value → Sem Value} {op : Op2} (h : OpB X T W f op) : OpV X T W f op := fun pins s σ H Hf x y u v dx dy Q Xq Qv I rx ry i hx hy xo k q =>
  h pins s σ H Hf x y u v dx dy Q Xq Qv I rx ry i (.inl (.inl hx)) (.inl (.inl hy)) xo k q

theorem VD.two {Q : QR} {R : V → V → Hp → Hp → D → D → Prop} {pins : List (Addr × Obj)} {s : Shared} {σ : L2.St} {H H0 Hf : Hp} {δ : Fr} {Xq : QX} {Q2 : D → D → Prop} {fin : Value → Value → Shared → Prop}
    (ha : VD X T W z a u) (hb : VD X T W z b v) (I : Inv X pins σ H s) (st : StOk T X.K z H0 Hf H σ δ) (xo : XOk T X.K W σ Hf H Xq) (q : u δ (fun d => v δ (fun e => Q2 d e) Xq) Xq)
    (hf : ∀ va ub s2 x y H2 Hf2 d e, Inv X pins σ H2 s2 → RelV x va → RelV y ub → Step Hf H Hf2 H2 → Rep T X.K Hf2 d x → Rep T X.K Hf2 e y → Q2 d e → fin va ub s2) :
    wpAny (model X.prog X.w) X.A (eval a X.env) (fun va s1 => wpAny (model X.prog X.w) X.A (eval b X.env) (fun ub s2 => fin va ub s2) X.xe s1) X.xe s := by
  refine thn (ha.run pins s σ H (fun x H1 => ∃ Hf1 d, Step Hf H Hf1 H1 ∧ Rep T X.K Hf1 d x ∧ v δ (fun e => Q2 d e) Xq) I ⟨H0, Hf, δ, _, Xq, st, xo, fun x Hf1 H1 d S rp hq => ⟨Hf1, d, S, rp, hq⟩, q⟩) fun va s1 ⟨x, H1, I1, r1, Hf1, d, S1, rp1, q1⟩ => ?_
  refine thn (hb.run pins s1 σ H1 (fun y H2 => ∃ Hf2 e, Step Hf1 H1 Hf2 H2 ∧ Rep T X.K Hf2 e y ∧ Q2 d e) I1 ⟨H0, Hf1, δ, _, Xq, st.step S1, xo.step S1, fun y Hf2 H2 e S rp hq => ⟨Hf2, e, S, rp, hq⟩, q1⟩) fun ub s2 ⟨y, H2, I2, r2, Hf2, e, S2, rp2, q2⟩ => ?_
  exact hf va ub s2 x y H2 Hf2 d e I2 r1 r2 (S1.trans S2) (rp1.mono S2.f) rp2 q2
theorem VB.two {R : V → V → Hp → Hp → D → D → Prop} {pins : List (Addr × Obj)} {s : Shared} {σ : L2.St} {H H0 Hf : Hp} {δ : Fr} {Xq : QX} {Q2 : D → D → Prop} {fin : Value → Value → Shared → Prop}
    (ha : VB X T W z a u) (hb : VB X T W z b v) (I : Inv X pins σ H s) (st : StOk T X.K z H0 Hf H σ δ) (xo : XOk T X.K W σ Hf H Xq) (q : u δ (fun d => v δ (fun e => Q2 d e) Xq) Xq)
    (hf : ∀ va ub s2 x y H2 Hf2 d e, Inv X pins σ H2 s2 → RelV x va → RelV y ub → Step Hf H Hf2 H2 → BRep T X.K Hf2 H2 d x → BRep T X.K Hf2 H2 e y → Q2 d e → fin va ub s2) :
    wpAny (model X.prog X.w) X.A (eval a X.env) (fun va s1 => wpAny (model X.prog X.w) X.A (eval b X.env) (fun ub s2 => fin va ub s2) X.xe s1) X.xe s := by
  refine thn (ha.run pins s σ H (fun x H1 => ∃ Hf1 d, Step Hf H Hf1 H1 ∧ BRep T X.K Hf1 H1 d x ∧ v δ (fun e => Q2 d e) Xq) I ⟨H0, Hf, δ, _, Xq, st, xo, fun x Hf1 H1 d S rp hq => ⟨Hf1, d, S, rp, hq⟩, q⟩) fun va s1 ⟨x, H1, I1, r1, Hf1, d, S1, rp1, q1⟩ => ?_
  refine thn (hb.run pins s1 σ H1 (fun y H2 => ∃ Hf2 e, Step Hf1 H1 Hf2 H2 ∧ BRep T X.K Hf2 H2 e y ∧ Q2 d e) I1 ⟨H0, Hf1, δ, _, Xq, st.step S1, xo.step S1, fun y Hf2 H2 e S rp hq => ⟨Hf2, e, S, rp, hq⟩, q1⟩) fun ub s2 ⟨y, H2, I2, r2, Hf2, e, S2, rp2, q2⟩ => ?_
  exact hf va ub s2 x y H2 Hf2 d e I2 r1 r2 (S1.trans S2) (rp1.step S2) rp2 q2
/-- what a rule's end hands on: the value of a step from Hf1, H1 is one from Hf, H -/
theorem kont {Hf H Hf1 H1 : Hp} {Q : QR} {Qv : VK} {T : Tab} {K : PySem.W.Frag} (k : ∀ v Hf' H' r, Step Hf H Hf' H' → Res T K Hf' H' H v r → Q r → Qv v H') (S : Step Hf H Hf1 H1) :
    ∀ v Hf' H' r, Step Hf1 H1 Hf' H' → Res T K Hf' H' H1 v r → Q r → Qv v H' := fun v Hf' H' r S' rs q => by
  refine k v Hf' H' r (S.trans S') ?_ q
  cases r with
  | fz d => exact rs
  | own ds =>
    obtain ⟨a, vs, e1, e2, e3, e4, e5⟩ := rs
    exact ⟨a, vs, e1, e2, S.h.fresh e3, e4, e5⟩
theorem ve_bin {op : Operator} {w2 : Op2} (ho : OpV X T W (binaryOp op) w2) (ha : VE X T W z a ta) (hb : VE X T W z b tb) : VE X T W z (.BinOp a op b pos) (wBin w2 ta tb) :=
  ⟨fun pins s σ H Qv I ⟨H0, Hf, δ, Q, Xq, st, xo, k, q⟩ => wpAny_BinOp (VD.two (Q := Q) (R := fun _ _ _ _ _ _ => True) (Q2 := fun d e => w2 d e Q Xq) ha.toD hb.toD I st xo q fun va ub s2 x y H2 Hf2 d e I2 rx ry S r1 r2 q2 =>
    ho pins s2 σ H2 Hf2 x y va ub d e Q Xq Qv I2 rx ry S.i r1 r2 (xo.step S) (kont k S) q2)⟩
theorem ve_binB {op : Operator} {w2 : Op2} (ho : OpB X T W (binaryOp op) w2) (ha : VB X T W z a u) (hb : VB X T W z b v) : VE X T W z (.BinOp a op b pos) (wBinB w2 u v) :=
  ⟨fun pins s σ H Qv I ⟨H0, Hf, δ, Q, Xq, st, xo, k, q⟩ => wpAny_BinOp (VB.two (R := fun _ _ _ _ _ _ => True) (Q2 := fun d e => w2 d e Q Xq) ha hb I st xo q fun va ub s2 x y H2 Hf2 d e I2 rx ry S r1 r2 q2 =>
    ho pins s2 σ H2 Hf2 x y va ub d e Q Xq Qv I2 rx ry S.i r1 r2 (xo.step S) (kont k S) q2)⟩
theorem ve_un {op : UnaryOp} {w1 : Op1} (ho : OpU X T W (unaryOp op) w1) (ha : VE X T W z a ta) : VE X T W z (.UnaryOp op a pos) (wUn w1 ta) := by
  refine ⟨fun pins s σ H Qv I ⟨H0, Hf, δ, Q, Xq, st, xo, k, q⟩ => ?_⟩
  refine UnaryOp_ (thn (VE.toD ha |>.run pins s σ H (fun x H1 => ∃ Hf1 d, Step Hf H Hf1 H1 ∧ Rep T X.K Hf1 d x ∧ w1 d Q Xq) I ⟨H0, Hf, δ, _, Xq, st, xo, fun x Hf1 H1 d S rp hq => ⟨Hf1, d, S, rp, hq⟩, q⟩) fun va s1 ⟨x, H1, I1, r1, Hf1, d, S1, rp1, q1⟩ => ?_)
  exact ho pins s1 σ H1 Hf1 x va d Q Xq Qv I1 r1 S1.i rp1 (xo.step S1) (kont k S1) q1
/-- a comparison -/
theorem ve_cmp {op : CmpOp} {w2 : Op2} (ho : OpV X T W (compareOp op) w2) (ha : VE X T W z a ta) (hb : VE X T W z b tb) (hm : behindInMarks op b = false) : VE X T W z (.Compare a [op] [b] pos) (wBin w2 ta tb) :=
  ⟨fun pins s σ H Qv I ⟨H0, Hf, δ, Q, Xq, st, xo, k, q⟩ => wpAny_Compare1 (VD.two (Q := Q) (R := fun _ _ _ _ _ _ => True) (Q2 := fun d e => w2 d e Q Xq) ha.toD hb.toD I st xo q fun va ub s2 x y H2 Hf2 d e I2 rx ry S r1 r2 q2 =>
    ho pins s2 σ H2 Hf2 x y va ub d e Q Xq Qv I2 rx ry S.i r1 r2 (xo.step S) (kont k S) q2) hm⟩
theorem ve_cmpB {op : CmpOp} {w2 : Op2} (ho : OpB X T W (compareOp op) w2) (ha : VB X T W z a u) (hb : VB X T W z b v) (hm : behindInMarks op b = false) : VE X T W z (.Compare a [op] [b] pos) (wBinB w2 u v) :=
  ⟨fun pins s σ H Qv I ⟨H0, Hf, δ, Q, Xq, st, xo, k, q⟩ => wpAny_Compare1 (VB.two (R := fun _ _ _ _ _ _ => True) (Q2 := fun d e => w2 d e Q Xq) ha hb I st xo q fun va ub s2 x y H2 Hf2 d e I2 rx ry S r1 r2 q2 =>
    ho pins s2 σ H2 Hf2 x y va ub d e Q Xq Qv I2 rx ry S.i r1 r2 (xo.step S) (kont k S) q2) hm⟩
/-- a rule of the hand layer for numbers -/
theorem opB_I {f : Value → Value → Sem Value} {C : Int → Int → Prop} {g : Int → Int → V} {g2 : Int → Int → D} (h : OpR X f (rI C g)) (hg : ∀ i j Hf, Rep T X.K Hf (g2 i j) (g i j)) :
    OpB X T W f (fun x y Q _ => match x, y with | .int i, .int j => C i j ∧ Q (.fz (g2 i j)) | _, _ => False) := by
  intro pins s σ H Hf x y u v dx dy Q Xq Qv I rx ry i hx hy xo k q
  cases dx <;> cases dy <;> try exact q.elim
  rename_i i1 j1
  have e1 : x = .int i1 := by
    rcases hx with (hx | ⟨_, _, _, e, _⟩) | ⟨_, _, _, _, _, e, _⟩
    · unfold Rep at hx; exact hx
    · cases e
    · cases e
  have e2 : y = .int j1 := by
    rcases hy with (hy | ⟨_, _, _, e, _⟩) | ⟨_, _, _, _, _, e, _⟩
    · unfold Rep at hy; exact hy
    · cases e
    · cases e
  subst e1 e2
  exact h pins s σ H _ _ u v Qv I rx ry ⟨i1, j1, rfl, rfl, q.1, k _ Hf H (.fz (g2 i1 j1)) (Step.refl i) (hg _ _ _) q.2⟩
end
end VL
end
section
set_option Elab.async false
set_option linter.all false
set_option maxRecDepth 100000
set_option maxHeartbeats 4000000
/-! VLop: operators of own classes, at the machine's level. -/
namespace PySem.W
open PySem PySem.Calls PyProof.Rows Builtin

section
variable {prog : Program} {w : World} {A : Around} {E : Value → Shared → Prop} {s : Shared} {K : Frag} {x C f : Addr} {ox : Obj} {od : Option Obj} {nm T : String} {b : Value}

theorem vl_first (hc : selfFirst K C = true) : ∃ cd rest, clsIn K C = some cd ∧ cd.mro = .ref C :: rest := by
  obtain ⟨cd, hcd, hm⟩ := any_some hc
  cases q : cd.mro with
  | nil => rw [q] at hm; cases hm
  | cons a r => rw [q, List.head?_cons] at hm; cases (beq_iff_eq.mp hm); exact ⟨cd, r, hcd, q⟩
theorem vl_try {Q : Value → Shared → Prop} {name : Str} (X : K.In s.heap) (I : InstAt s.heap x ox C od) (hs : findIn K (.ref C) name = some (some (.ref f))) (hf : isFn K (.ref f) = true)
    (h : wpAny (model prog w) A (call (.ref f) [.ref x, b]) (CmpBack Q) E s) : wpAny (model prog w) A (tryMethod (.ref x) name b) (fun r s' => ∃ v, r = some v ∧ Q v s') E s := by
  unfold tryMethod
  refine wpAny_bind (special_fn X I hs (beq_iff_eq.mp hf) (wpAny_mono h (fun v s' hv => ?_) fun _ _ e => e))
  cases v <;> first | exact hv.elim | exact wpAny_pure ⟨_, rfl, hv⟩
/-- both of one own class -/
theorem vl_bin1_same {Q : Value → Shared → Prop} (X : K.In s.heap) (I : InstAt s.heap x ox C od) (hb : Looks (model prog w) s.heap (typeOf b) (.ref C)) (hc : selfFirst K C = true)
    (hs : findIn K (.ref C) (PySem.dunder nm) = some (some (.ref f))) (hf : isFn K (.ref f) = true)
    (h : wpAny (model prog w) A (call (.ref f) [.ref x, b]) (CmpBack Q) E s) : wpAny (model prog w) A (binaryOp1 nm (.ref x) b) (fun r s' => ∃ v, r = some v ∧ Q v s') E s := by
  obtain ⟨cd, rest, hcd, hm⟩ := vl_first hc
  unfold binaryOp1
  refine wpAny_bind (I.type.here (wpAny_bind (hb.here (wpAny_bind ((fills_K X hcd hm hs).here ?_)))))
  simp only [beq_self_eq_true, if_true]
  refine wpAny_bind (wpAny_pure ?_)
  simp only [Bool.and_false, Bool.false_eq_true, if_false, Bool.false_and]
  refine wpAny_bind (wpAny_pure ?_)
  simp only [Bool.false_eq_true, if_false]
  refine wpAny_bind (wpAny_mono (vl_try X I hs hf h) (fun r s' hr => ?_) fun _ _ e => e)
  obtain ⟨v, rfl, hq⟩ := hr
  exact wpAny_pure ⟨v, rfl, hq⟩
/-- an own instance, then a value of a built-in class -/
theorem vl_bin1_T {fo ro rc : Option Value} {Q : Value → Shared → Prop} (X : K.In s.heap) (I : InstAt s.heap x ox C od) (hb : typeOf b = pure (.type T)) (hc : selfFirst K C = true)
    (hs : findIn K (.ref C) (PySem.dunder nm) = some (some (.ref f))) (hf : isFn K (.ref f) = true) (hr : findIn K (.ref C) (dunderR nm) = some rc) (hp : rc = none ∨ ∃ g : Addr, rc = some (.ref g))
    (h1 : findIn K (.type T) (PySem.dunder nm) = some fo) (h2 : findIn K (.type T) (dunderR nm) = some ro) (hsub : subIn K (.type T) (.ref C) = some false)
    (h : wpAny (model prog w) A (call (.ref f) [.ref x, b]) (CmpBack Q) E s) : wpAny (model prog w) A (binaryOp1 nm (.ref x) b) (fun r s' => ∃ v, r = some v ∧ Q v s') E s := by
  obtain ⟨cd, rest, hcd, hm⟩ := vl_first hc
  have one := vl_try X I hs hf h
  obtain ⟨hh, g, d, tt, os⟩ := s
  have L1 : Looks (model prog w) hh (typeOf (.ref x)) (.ref C) := I.type
  have L2 : Looks (model prog w) hh (typeOf b) (.type T) := Looks.of_pure hb
  have L3 : Looks (model prog w) hh (fillsNumberSlot (.ref C) nm) true := fills_K X hcd hm hs
  have L4 : Looks (model prog w) hh (fillsNumberSlot (.type T) nm) ((fo.isSome && !isSeqSlot fo) || (ro.isSome && !isSeqSlot ro)) := ksp_fillsT X h1 h2
  have L5 : Looks (model prog w) hh (isSubtype (.type T) (.ref C)) false := looks_subIn X hsub
  have L6 : Looks (model prog w) hh (numberSlotInPython (.ref C) nm) true := ksp_inPy X hs hr hp
  have L7 : Looks (model prog w) hh (numberSlotInPython (.type T) nm) false := Looks.of_pure rfl
  have L8 : Looks (model prog w) hh (typeLookup (.type T) (dunderR nm)) ro := looks_findIn X h2
  generalize ((fo.isSome && !isSeqSlot fo) || (ro.isSome && !isSeqSlot ro)) = right at L4
  have hne : (Value.ref C == Value.type T) = false := Bool.eq_false_iff.mpr fun q => by cases beq_iff_eq.mp q
  unfold binaryOp1
  refine wpAny_bind (L1.at (wpAny_bind (L2.at (wpAny_bind (L3.at ?_)))))
  simp only [hne, Bool.false_eq_true, if_false]
  cases right with
  | false =>
    ksp_lk
    refine wpAny_mono one (fun r s' hr' => ?_) fun _ _ e => e
    obtain ⟨v, rfl, hq⟩ := hr'
    ksp_lk
    exact ⟨_, rfl, hq⟩
  | true =>
    ksp_lk
    refine wpAny_mono one (fun r s' hr' => ?_) fun _ _ e => e
    obtain ⟨v, rfl, hq⟩ := hr'
    ksp_lk
    exact ⟨_, rfl, hq⟩
/-- a value of a built-in class whose own slot declines, then an own instance's reflected method -/
theorem vl_bin1_R {id : String} {Q : Value → Shared → Prop} {a : Value} (X : K.In s.heap) (I : InstAt s.heap x ox C od) (ha : ∀ s' : Shared, s'.TypeIs a T) (hty : typeOf a = pure (.type T)) (hc : selfFirst K C = true)
    (hfl : Looks (model prog w) s.heap (fillsNumberSlot (.ref C) nm) true)
    (hs : findIn K (.ref C) (dunderR nm) = some (some (.ref f))) (hf : isFn K (.ref f) = true)
    (hfT : fillsNumberSlot (.type T) nm = pure true) (hsl : Slot T (PySem.dunder nm) id) (hsub : subIn K (.ref C) (.type T) = some false)
    (hcall : wpAny (model prog w) A (call (.builtin id) [a, .ref x]) (fun v s' => v = .notImplemented ∧ s' = s) E s)
    (h : wpAny (model prog w) A (call (.ref f) [.ref x, a]) (CmpBack Q) E s) : wpAny (model prog w) A (binaryOp1 nm a (.ref x)) (fun r s' => ∃ v, r = some v ∧ Q v s') E s := by
  have one := vl_try X I hs hf h
  have hne : (Value.type T == Value.ref C) = false := Bool.eq_false_iff.mpr fun q => by cases beq_iff_eq.mp q
  unfold binaryOp1
  refine wpAny_bind (wpAny_of_eq hty (wpAny_bind (I.type.here (wpAny_bind (wpAny_of_eq hfT ?_)))))
  simp only [hne, Bool.false_eq_true, if_false]
  refine wpAny_bind (hfl.here ?_)
  simp only [Bool.and_self, if_true]
  refine wpAny_bind ((looks_subIn X hsub).here ?_)
  simp only [Bool.false_eq_true, if_false, pure_bind, Bool.not_false, Bool.and_self, if_true, Bool.and_true]
  have hpy : numberSlotInPython (.type T) nm = pure false := rfl
  simp only [hpy, pure_bind, Bool.false_eq_true, if_false]
  refine wpAny_bind (wpAny_tryMethod_declines (ha s) hsl (wpAny_mono hcall (fun v s' h' => ⟨h'.1, ?_⟩) fun _ _ e => e))
  obtain ⟨_, rfl⟩ := h'
  refine wpAny_bind (wpAny_mono one (fun r s' hr => ?_) fun _ _ e => e)
  obtain ⟨v, rfl, hq⟩ := hr
  exact wpAny_bind (wpAny_rule (wpAny_pure ⟨v, rfl, hq⟩))
/-- the operator from its first part -/
theorem vl_bin {op : Operator} {a : Value} {Q : Value → Shared → Prop} (h : wpAny (model prog w) A (binaryOp1 op.info.2 a b) (fun r s' => ∃ v, r = some v ∧ Q v s') E s) : wpAny (model prog w) A (binaryOp op a b) Q E s := by
  unfold binaryOp
  refine wpAny_holding ?_
  refine wpAny_bind (wpAny_mono h (fun r s' hr => ?_) fun _ _ e => e)
  obtain ⟨v, rfl, hq⟩ := hr
  exact wpAny_pure hq
/-- no in-place method: op= as op -/
theorem vl_inp {op : Operator} {a ta : Value} {Q : Value → Shared → Prop} (ht : Looks (model prog w) s.heap (typeOf a) ta) (hn : Looks (model prog w) s.heap (fillsInplaceSlot ta op.info.2 (op == .Add)) false)
    (h : wpAny (model prog w) A (binaryOp1 op.info.2 a b) (fun r s' => ∃ v, r = some v ∧ Q v s') E s) : wpAny (model prog w) A (inplaceOp op a b) Q E s := by
  unfold inplaceOp
  refine wpAny_holding ?_
  refine wpAny_bind (ht.here (wpAny_bind (hn.here ?_)))
  simp only [Bool.false_eq_true, if_false]
  refine wpAny_bind (wpAny_mono h (fun r s' hr => ?_) fun _ _ e => e)
  obtain ⟨v, rfl, hq⟩ := hr
  exact wpAny_pure hq
theorem vl_anyM_none {M : Model} {h : Heap} {g : Value → Sem Bool} : ∀ {l : List Value}, (∀ c ∈ l, Looks M h (g c) false) → Looks M h (l.anyM g) false
  | [], _ => .now
  | c :: r, e => by
    rw [List.anyM_cons]
    exact (e c List.mem_cons_self).andThen (vl_anyM_none fun d hd => e d (List.mem_cons_of_mem _ hd))
theorem vl_fillsI {M : Model} {h : Heap} {cd : ClassData} {i : String} {add : Bool} (X : K.In h) (hc : clsIn K C = some cd) (hn : ∀ c ∈ cd.mro, findIn K c (dunderI i) = some none) : Looks M h (fillsInplaceSlot (.ref C) i add) false := by
  have Lm : Looks M h (mroOf (.ref C)) cd.mro := (looks_clsIn X hc).andThen (f := fun cd => pure cd.mro) .now
  unfold fillsInplaceSlot
  refine Lm.andThen (vl_anyM_none fun c hcm => ?_)
  have L := looks_findIn (M := M) X (hn c hcm)
  exact L.andThen .now
end
end PySem.W
end
section
set_option Elab.async false
set_option linter.all false
set_option maxRecDepth 100000
set_option maxHeartbeats 4000000
/-! VLop2: comparisons of own classes, what a whole number's own slots decline. -/
namespace PySem
open Builtin
section
/-- what int's slots say of an instance of an own class -/
theorem vl_decl {B : Builtin} {a : Int} {t : Tok} {l C dx : Addr} (h : Meets (B ⟨[.int a t, .ref l], []⟩) (fun _ R s => s.heap.get? l = some (W.instObj C dx) ∧ R (.ok (.ret Value.notImplemented)) s)) :
    Meets (B ⟨[.int a t, .ref l], []⟩) (fun _ R s => s.heap.get? l = some (W.instObj C dx) ∧ R (.ok (.ret Value.notImplemented)) s) := h
variable (a : Int) (t : Tok) (l C dx : Addr)
theorem vl_int_add : Meets (Builtin.«int.__add__» ⟨[.int a t, .ref l], []⟩) (fun _ R s => s.heap.get? l = some (W.instObj C dx) ∧ R (.ok (.ret Value.notImplemented)) s) :=
  .of_wp fun prog w A R s h => by obtain ⟨hp, g, d, tk, os⟩ := s; obtain ⟨hl, h⟩ := h; unfold W.instObj at hl; wp_walk; exact ⟨_, rfl, h⟩
theorem vl_int_sub : Meets (Builtin.«int.__sub__» ⟨[.int a t, .ref l], []⟩) (fun _ R s => s.heap.get? l = some (W.instObj C dx) ∧ R (.ok (.ret Value.notImplemented)) s) :=
  .of_wp fun prog w A R s h => by obtain ⟨hp, g, d, tk, os⟩ := s; obtain ⟨hl, h⟩ := h; unfold W.instObj at hl; wp_walk; exact ⟨_, rfl, h⟩
theorem vl_int_mul : Meets (Builtin.«int.__mul__» ⟨[.int a t, .ref l], []⟩) (fun _ R s => s.heap.get? l = some (W.instObj C dx) ∧ R (.ok (.ret Value.notImplemented)) s) :=
  .of_wp fun prog w A R s h => by obtain ⟨hp, g, d, tk, os⟩ := s; obtain ⟨hl, h⟩ := h; unfold W.instObj at hl; wp_walk; exact ⟨_, rfl, h⟩
theorem vl_int_eq : Meets (Builtin.«int.__eq__» ⟨[.int a t, .ref l], []⟩) (fun _ R s => s.heap.get? l = some (W.instObj C dx) ∧ R (.ok (.ret Value.notImplemented)) s) :=
  .of_wp fun prog w A R s h => by obtain ⟨hp, g, d, tk, os⟩ := s; obtain ⟨hl, h⟩ := h; unfold W.instObj at hl; wp_walk; exact ⟨_, rfl, h⟩
theorem vl_int_ne : Meets (Builtin.«int.__ne__» ⟨[.int a t, .ref l], []⟩) (fun _ R s => s.heap.get? l = some (W.instObj C dx) ∧ R (.ok (.ret Value.notImplemented)) s) :=
  .of_wp fun prog w A R s h => by obtain ⟨hp, g, d, tk, os⟩ := s; obtain ⟨hl, h⟩ := h; unfold W.instObj at hl; wp_walk; exact ⟨_, rfl, h⟩
end
end PySem
namespace PySem.W
open PySem PySem.Calls PyProof.Rows Builtin
section
variable {prog : Program} {w : World} {A : Around} {E : Value → Shared → Prop} {s : Shared} {K : Frag} {x C f : Addr} {ox : Obj} {od : Option Obj} {T : String} {b tb : Value}
theorem vl_bind_ne (self : Value) : bindSpecial (.builtin "object.__ne__") self = pure (.builtin "object.__ne__", [self]) :=
  (Slot.of (T := "object") (name := "__ne__") (owner := "object") (n := "__ne__") (by rw [typeLookup_type, builtinLookup_eq_fast]; kernel_rfl) (by decide +kernel) (by decide +kernel) (by decide +kernel)
    (.inl (by decide +kernel)) (by rw [isSubtype_type]; kernel_rfl)).bind self
theorem vl_plain_ne : plainId "object.__ne__" = true := by decide +kernel
/-- callSpecialIfBound? of a slot that the class inherits from object -/
theorem vl_ifBoundB {M : Model} {args : List Value} {name : Str} {id : String} {Q : Option Value → Shared → Prop} (X : K.In s.heap) (I : InstAt s.heap x ox C od) (hs : findIn K (.ref C) name = some (some (.builtin id)))
    (hb : ∀ self, bindSpecial (.builtin id) self = pure (.builtin id, [self]))
    (h : wpAny M A (call (.builtin id) (.ref x :: args)) (fun v => Q (some v)) E s) : wpAny M A (callSpecialIfBound? (.ref x) name args) Q E s := by
  simp only [callSpecialIfBound?, bindSpecialIfBound?]
  refine wpAny_holding (wpAny_bind (wpAny_bind (wpAny_bind (I.type.here ((looks_findIn X hs).here ?_)))))
  refine wpAny_bind (wpAny_askSetting (wpAny_ite ?_))
  have fin : wpAny M A (call (.builtin id) ([.ref x] ++ args) >>= fun v => pure (some v)) Q E s := wpAny_bind (wpAny_mono h (fun v s' h' => wpAny_pure h') fun _ _ h' => h')
  split
  · exact wpAny_bind (wpAny_of_eq (hb _) (wpAny_pure (by exact fin)))
  · exact wpAny_tryCatch (wpAny_bind (wpAny_of_eq (hb _) (wpAny_pure (by exact fin))))
/-- object.__ne__ of an instance with an own __eq__ -/
theorem vl_objNe {Q : Fin → Shared → Prop} (X : K.In s.heap) (I : InstAt s.heap x ox C od) (hs : findIn K (.ref C) "__eq__" = some (some (.ref f))) (hf : isFn K (.ref f) = true) (hu : A.units < cLine)
    (hcall : wpAny (model prog w) A (call (.ref f) [.ref x, b]) (fun v s' => ∃ c, v = .bool c ∧ Q (.done (.ret (.bool (!c)))) s') E s) :
    wpAny (model prog w) A (Builtin.«object.__ne__» ⟨[.ref x, b], []⟩) Q E s := by
  unfold Builtin.«object.__ne__»
  repeat (first
    | with_reducible refine wpAny_cRoomFor hu ?_
    | (refine wpAny_bind (m := callSpecialIfBound? (.ref x) (Str.ofString "__eq__") [b])
        (ifBound_K X I hs hf (wpAny_mono hcall (fun r s' hr => by
          obtain ⟨b, rfl, hq⟩ := hr
          repeat (first | exact hq | exact wpAny_pure hq | exact wpAny_truthy_bool hq | (refine wpAny_bind (m := truthy (.bool _)) (wpAny_truthy_bool ?_)) | wp_step)) fun _ _ e => e)))
    | wp_step)
/-- x != b by object.__ne__ -/
theorem vl_tryNe {Q : Value → Shared → Prop} (X : K.In s.heap) (I : InstAt s.heap x ox C od) (hne : findIn K (.ref C) "__ne__" = some (some (.builtin "object.__ne__"))) (hm : mroIn K C (.type "object") = some true)
    (hs : findIn K (.ref C) "__eq__" = some (some (.ref f))) (hf : isFn K (.ref f) = true) (hu : A.units + 1 < cLine)
    (hcall : wpAny (model prog w) A.in1 (call (.ref f) [.ref x, b]) (fun v s' => ∃ c, v = .bool c ∧ Q (.bool (!c)) s') E s) :
    wpAny (model prog w) A (tryCompare (.ref x) "__ne__" b) (fun r s' => ∃ v, r = some v ∧ Q v s') E s := by
  unfold tryCompare
  have sub : Looks (model prog w) s.heap (isInstance (.ref x) (.type "object")) true := I.type.andThen (looks_mroIn X hm)
  refine wpAny_bind (vl_ifBoundB X I hne vl_bind_ne (wpAny_call (codeAny_call_builtin vl_plain_ne F.cmpEntry_ne
    (check_slot F.cmpKind_ne F.cmpSplit_ne sub (F.cmpArgs_ne _ _) (vl_objNe (A := A.in1) X I hs hf hu (wpAny_mono hcall (fun v s' hv => ?_) fun _ _ e => e))))))
  obtain ⟨c, rfl, hq⟩ := hv
  refine ⟨c, rfl, ?_⟩
  first
    | exact ⟨_, rfl, hq⟩
    | exact wpAny_pure ⟨_, rfl, hq⟩
    | exact wpAny_pure (wpAny_pure ⟨_, rfl, hq⟩)
/-- the comparison from its left side's try -/
theorem vl_rcLeft {op : CmpOp} {Q : Value → Shared → Prop} (hu : A.units < cLine) (X : K.In s.heap) (I : InstAt s.heap x ox C od) (hb : Looks (model prog w) s.heap (typeOf b) tb) (hn : notFirst K C tb = true)
    (one : wpAny (model prog w) A (tryCompare (.ref x) (cmpInfo op).2.1 b) (fun r s' => ∃ v, r = some v ∧ Q v s') E s) : wpAny (model prog w) A (richCompare op (.ref x) b) Q E s := by
  unfold richCompare
  simp only [oneThing_ref]
  refine wpAny_holding (wpAny_bind (wpAny_cRoomFor hu ?_))
  refine wpAny_bind (I.type.here (wpAny_bind (hb.here ?_)))
  split
  · rename_i q
    have e : subIn K tb (.ref C) = some false := by
      rcases Bool.or_eq_true_iff.mp hn with e | e
      · rw [beq_iff_eq.mp e] at q; simp at q
      · exact beq_iff_eq.mp e
    refine wpAny_bind ((looks_subIn X e).here ?_)
    simp only [Bool.false_eq_true, if_false]
    refine wpAny_bind (wpAny_mono one (fun r s' z => ?_) fun _ _ e => e)
    obtain ⟨v, rfl, hq⟩ := z
    exact wpAny_pure hq
  · refine wpAny_bind (wpAny_pure ?_)
    simp only [Bool.false_eq_true, if_false]
    refine wpAny_bind (wpAny_mono one (fun r s' z => ?_) fun _ _ e => e)
    obtain ⟨v, rfl, hq⟩ := z
    exact wpAny_pure hq
theorem vl_tryCmp {name : Str} {Q : Value → Shared → Prop} (X : K.In s.heap) (I : InstAt s.heap x ox C od) (hs : findIn K (.ref C) name = some (some (.ref f))) (hf : isFn K (.ref f) = true)
    (h : wpAny (model prog w) A (call (.ref f) [.ref x, b]) (CmpBack Q) E s) : wpAny (model prog w) A (tryCompare (.ref x) name b) (fun r s' => ∃ v, r = some v ∧ Q v s') E s := by
  unfold tryCompare
  refine wpAny_bind (ifBound_K X I hs hf (wpAny_mono h (fun v s' hv => ?_) fun _ _ e => e))
  cases v <;> first | exact hv.elim | exact wpAny_pure ⟨_, rfl, hv⟩
/-- a left side of a built-in class that declines, then the instance's own -/
theorem vl_rcRight {op : CmpOp} {id : String} {i : Int} {t : Tok} {Q : Value → Shared → Prop} (hu : A.units < cLine) (X : K.In s.heap) (I : InstAt s.heap x ox C od) (hsub : subIn K (.ref C) (.type "int") = some false)
    (hsl : Slot "int" (cmpInfo op).2.1 id) (hcall : wpAny (model prog w) A (call (.builtin id) [.int i t, .ref x]) (fun v s' => v = .notImplemented ∧ s' = s) E s)
    (one : wpAny (model prog w) A (tryCompare (.ref x) (cmpInfo op).2.2 (.int i t)) (fun r s' => ∃ v, r = some v ∧ Q v s') E s) : wpAny (model prog w) A (richCompare op (.int i t) (.ref x)) Q E s := by
  unfold richCompare
  have h1 : oneThing? op (.int i t) (.ref x) = none := by cases op <;> rfl
  simp only [h1]
  refine wpAny_holding (wpAny_bind (wpAny_cRoomFor hu ?_))
  refine wpAny_bind (wpAny_of_eq (show typeOf (.int i t) = pure (.type "int") from rfl) (wpAny_bind (I.type.here ?_)))
  have hne : (Value.type "int" != Value.ref C) = true := rfl
  simp only [hne, if_true]
  refine wpAny_bind ((looks_subIn X hsub).here ?_)
  simp only [Bool.false_eq_true, if_false]
  refine wpAny_bind (m := tryCompare _ _ _) (wpAny_tryCompare_declines (typeIs_int s i t) hsl (wpAny_mono hcall (fun v s' h' => ⟨h'.1, ?_⟩) fun _ _ e => e))
  obtain ⟨_, rfl⟩ := h'
  simp only [Bool.not_false, if_true]
  refine wpAny_bind (wpAny_mono one (fun r s' z => ?_) fun _ _ e => e)
  obtain ⟨v, rfl, hq⟩ := z
  exact wpAny_pure hq
end
end PySem.W
end
section
set_option Elab.async false
set_option linter.all false
set_option maxRecDepth 100000
set_option maxHeartbeats 4000000
/-! VLs3: defs called, operators of numbers, texts, lists and own classes. -/
namespace VL
open PySem PySem.Spec PyProof.Rows L2

/-! ### a def that keeps its spec -/
structure FnV (P : Program) (w : World) (K : PySem.W.Frag) (mg : Str → Option Value) (base : Heap) (T : Tab) (k : Nat) (f : Addr) (ms : List Bool) (dv : List D) (sp : FS) : Prop where
  ex : ∃ (fd : FuncData) (ps : List Str) (ds : List Value) (dvs : List V), FnOk P w K mg base (L2.CX P w) k f fd ps (SpV T K (ms ++ List.replicate dv.length false) sp) ∧ Binds K fd ps ds ∧ Vals dvs ds ∧ ∀ H, RepL T K H dv dvs
  kp : PySem.W.keepIn K (.ref f) = true
theorem ArgsOk.ofRep {T : Tab} {K : PySem.W.Frag} {Hf H : Hp} : ∀ {ds : List D} {vs : List V}, RepL T K Hf ds vs → ArgsOk T K Hf H (List.replicate ds.length false) ds vs
  | [], vs, h => ⟨rfl, repL_nil.mp h⟩
  | d :: ds, vs, h => by
    obtain ⟨v, r, rfl, h2, h3⟩ := repL_cons.mp h
    exact ⟨d, ds, v, r, rfl, rfl, h2, ArgsOk.ofRep h3⟩
theorem FnV.mono {P : Program} {w : World} {K : PySem.W.Frag} {mg : Str → Option Value} {base : Heap} {T : Tab} {j k : Nat} {f : Addr} {ms : List Bool} {dv : List D} {sp : FS} (F : FnV P w K mg base T j f ms dv sp) (h : j ≤ k) : FnV P w K mg base T k f ms dv sp := by
  obtain ⟨⟨fd, ps, ds, dvs, h1, h2⟩, kp⟩ := F
  exact ⟨⟨fd, ps, ds, dvs, h1.mono h, h2⟩, kp⟩
section
variable {X : Cx} {T : Tab} {W : WX} {z : Hd} {k : Nat} {f : Addr} {ms : List Bool} {dv : List D} {sp : FS}
theorem callV (F : FnV X.prog X.w X.K X.mg X.base T k f ms dv sp) (hr : Room k X.A) (tk : Takes X W) {pins : List (Addr × Obj)} {s : Shared} {σ : L2.St} {H Hf : Hp} {vs : List V} {us : List Value} {ds : List D} {Q : QR} {Xq : QX} {Qv : VK}
    (I : Inv X pins σ H s) (r : Vals vs us) (i : Ex Hf H) (ha : ArgsOk T X.K Hf H ms ds vs) (xo : XOk T X.K W σ Hf H Xq) (kt : ∀ v Hf' H' r, Step Hf H Hf' H' → Res T X.K Hf' H' H v r → Q r → Qv v H') (q : sp (ds ++ dv) Q Xq) :
    wpAny (model X.prog X.w) X.A (call (.ref f) us) (EP X pins σ Qv) X.xe s := by
  obtain ⟨fd, ps, des, dvs, G, b, rd, hd⟩ := F.ex
  have h : SpV T X.K (ms ++ List.replicate dv.length false) sp (vs ++ dvs) H Qv (L2.WE W σ) := ⟨Hf, ds ++ dv, Q, Xq, i, ha.append (ArgsOk.ofRep (hd Hf)), kt, fun x cls d Hf' H' S rx hx => xo x cls d Hf' H' S rx hx, q⟩
  exact run_fnSD G hr b rd (passAt tk σ) I r h
end

theorem CE.ep {pins : List (Addr × Obj)} {s s' : Shared} {σ : L2.St} {H : Hp} {Q : VK} {u : Value} (I : Inv X pins σ H s) (h : CE X.stack X.prog X.w H s Q u s') : EP X pins σ Q u s' := I.after h
/-- the same, one place further in -/
theorem callV1 (F : FnV X.prog X.w X.K X.mg X.base T k f ms dv sp) (hr : Room (k + 1) X.A) (tk : Takes X W) {pins : List (Addr × Obj)} {s : Shared} {σ : L2.St} {H Hf : Hp} {vs : List V} {us : List Value} {ds : List D} {Q : QR} {Xq : QX} {Qv : VK}
    (I : Inv X pins σ H s) (r : Vals vs us) (i : Ex Hf H) (ha : ArgsOk T X.K Hf H ms ds vs) (xo : XOk T X.K W σ Hf H Xq) (kt : ∀ v Hf' H' r, Step Hf H Hf' H' → Res T X.K Hf' H' H v r → Q r → Qv v H') (q : sp (ds ++ dv) Q Xq) :
    wpAny (model X.prog X.w) X.A.in1 (call (.ref f) us) (EP X pins σ Qv) X.xe s := by
  obtain ⟨fd, ps, des, dvs, G, b, rd, hd⟩ := F.ex
  have h : SpV T X.K (ms ++ List.replicate dv.length false) sp (vs ++ dvs) H Qv (L2.WE W σ) := ⟨Hf, ds ++ dv, Q, Xq, i, ha.append (ArgsOk.ofRep (hd Hf)), kt, fun x cls d Hf' H' S rx hx => xo x cls d Hf' H' S rx hx, q⟩
  have r2 : Vals (vs ++ dvs) (us ++ des) := r.append rd
  have hl : (us ++ des).length = ps.length := by rw [← r2.length]; exact G.len _ _ _ _ h
  refine wpAny_call (codeAny_mono (G.run X.A.in1 X.stack s H ⟨us, []⟩ (us ++ des) (vs ++ dvs) Qv (L2.WE W σ) hr.in1 I.env0.in1 (b s us I.kIn hl) r2 h) fun r s' hq => ?_)
  cases r with
  | error e => exact passAt tk σ pins H s e s' I hq
  | ok fl =>
    cases fl with
    | ret u => exact I.after hq
    | next => exact False.elim hq
    | brk => exact False.elim hq
    | cont => exact False.elim hq

/-! ### what the text says of a class -/
def tyNames : List String := ["NoneType", "bool", "int", "str", "list", "tuple"]
def opNames : List String := ["add", "sub", "mul", "floordiv", "mod", "pow", "lshift", "rshift", "or", "and"]
structure ClsF (K : PySem.W.Frag) (C : Addr) : Prop where
  cl : Cls K C
  sf : PySem.W.selfFirst K C = true
  subT : ∀ t ∈ tyNames, PySem.W.subIn K (.type t) (.ref C) = some false
  subI : PySem.W.subIn K (.ref C) (.type "int") = some false
  ne : PySem.W.findIn K (.ref C) "__ne__" = some (some (.builtin "object.__ne__"))
  ha : PySem.W.findIn K (.ref C) "__class__" = some (some (.builtin "object.__class__"))
  hn : PySem.W.specialIn K (.builtin "object.__class__") "__get__" = some (some (.builtin "getset_descriptor.__get__"))
  htk : PySem.W.takesIn K (.builtin "object.__class__") = some true
  hm : PySem.W.mroIn K C (.type "object") = some true
  rr : ∀ nm ∈ opNames, ∃ rc, PySem.W.findIn K (.ref C) (dunderR nm) = some rc ∧ (rc = none ∨ ∃ g : Addr, rc = some (.ref g))
  isT : ∀ t ∈ tyNames, PySem.W.kitOne K (.ref C) (.type t) = some false
  isO : ∀ t ∈ tyNames, PySem.W.kitOne K (.type t) (.ref C) = some false
  ni : ∀ nm ∈ opNames, ∃ cd, PySem.W.clsIn K C = some cd ∧ ∀ c ∈ cd.mro, PySem.W.findIn K c (dunderI nm) = some none
structure Lib (T : Tab) (K : PySem.W.Frag) : Prop where
  cl : ∀ c, c < T.n → ClsF K (T.cls c)
  sub : ∀ c c', c < T.n → c' < T.n → c ≠ c' → PySem.W.subIn K (.ref (T.cls c')) (.ref (T.cls c)) = some false
  inj : ∀ c c', c < T.n → c' < T.n → T.cls c = T.cls c' → c = c'
  iss : ∀ c c', c < T.n → c' < T.n → PySem.W.kitOne K (.ref (T.cls c)) (.ref (T.cls c')) = some (c == c')
  nd : ∀ c, c < T.n → (T.flds c).Nodup
  na : ∀ c, c < T.n → ∀ f ∈ T.flds c, NoAttr K (T.cls c) f
  nl : ∀ c, c < T.n → (T.flds c).length < 1000
/-- a special method that stands -/
structure DnOk (P : Program) (w : World) (K : PySem.W.Frag) (mg : Str → Option Value) (base : Heap) (T : Tab) (k : Nat) (c : Nat) (m : Dn) (ms : List Bool) (sp : FS) : Prop where
  ex : ∃ f, PySem.W.findIn K (.ref (T.cls c)) m.nm = some (some (.ref f)) ∧ PySem.W.isFn K (.ref f) = true ∧ FnV P w K mg base T k f ms [] sp
def Dn.two : Dn → Bool
  | .neg => false | .inv => false | .abs => false | .bool => false | .str => false | .len => false | .iter => false
  | _ => true
def Dn.ms (m : Dn) : List Bool := match m with
  | .setitem => [false, false, false]
  | m => if m.two = true then [false, false] else [false]
/-- where an operator may stand: defs of level k can be called, exceptions are taken -/
structure OpC (X : Cx) (T : Tab) (W : WX) (k : Nat) (dn : Dun) : Prop where
  lib : Lib T X.K
  tk : Takes X W
  rm : Room (k + 2) X.A
  du : ∀ c m sp, dn c m = some sp → c < T.n → DnOk X.prog X.w X.K X.mg X.base T k c m m.ms sp
theorem OpC.r {X : Cx} {T : Tab} {W : WX} {k : Nat} {dn : Dun} (o : OpC X T W k dn) : Room k X.A := o.rm.mono (by omega)
theorem OpC.r1 {X : Cx} {T : Tab} {W : WX} {k : Nat} {dn : Dun} (o : OpC X T W k dn) : Room (k + 1) X.A := o.rm.mono (by omega)

section
variable {T : Tab} {K : PySem.W.Frag} {Hf H : Hp} {v : V}
theorem BRep.int {i : Int} (h : BRep T K Hf H (.int i) v) : v = .int i := by
  rcases h with (h | ⟨_, _, _, e, _⟩) | ⟨_, _, _, _, _, e, _⟩
  · unfold Rep at h; exact h
  · cases e
  · cases e
theorem BRep.bl {i : Bool} (h : BRep T K Hf H (.bl i) v) : v = .bl i := by
  rcases h with (h | ⟨_, _, _, e, _⟩) | ⟨_, _, _, _, _, e, _⟩
  · unfold Rep at h; exact h
  · cases e
  · cases e
theorem BRep.non (h : BRep T K Hf H .non v) : v = .non := by
  rcases h with (h | ⟨_, _, _, e, _⟩) | ⟨_, _, _, _, _, e, _⟩
  · unfold Rep at h; exact h
  · cases e
  · cases e
theorem BRep.str {i : Str} (h : BRep T K Hf H (.str i) v) : v = .str i := by
  rcases h with (h | ⟨_, _, _, e, _⟩) | ⟨_, _, _, _, _, e, _⟩
  · unfold Rep at h; exact h
  · cases e
  · cases e
theorem BRep.lst {ds : List D} (i : Ex Hf H) (h : BRep T K Hf H (.lst ds) v) : ∃ a vs, v = .ref a ∧ H a = some (.lst vs) ∧ RepL T K Hf ds vs := by
  rcases h with (h | ⟨a, vs, ds', e, e2, e3, e4⟩) | ⟨_, _, _, _, _, e, _⟩
  · unfold Rep at h
    obtain ⟨a, vs, h1, h2, h3⟩ := h
    exact ⟨a, vs, h1, i _ _ h2, h3⟩
  · cases e
    exact ⟨a, vs, e2, e3, e4⟩
  · cases e
theorem BRep.tup {ds : List D} (i : Ex Hf H) (h : BRep T K Hf H (.tup ds) v) : ∃ a vs, v = .ref a ∧ H a = some (.tup vs) ∧ RepL T K Hf ds vs := by
  rcases h with (h | ⟨a, vs, ds', e, _⟩) | ⟨_, _, _, _, _, e, _⟩
  · unfold Rep at h
    obtain ⟨a, vs, h1, h2, h3⟩ := h
    exact ⟨a, vs, h1, i _ _ h2, h3⟩
  · cases e
  · cases e
theorem Rep.b {d : D} (h : Rep T K Hf d v) : BRep T K Hf H d v := .inl (.inl h)
theorem Rep.objU {c : Nat} {ds : List D} (i : Ex Hf H) (h : Rep T K Hf (.obj c ds) v) : ∃ a dx fs, v = .ref a ∧ c < T.n ∧ H a = some (.ins (T.cls c) dx fs) ∧ fs.map (·.1) = T.flds c ∧ RepL T K Hf ds (fs.map (·.2)) := by
  unfold Rep at h
  obtain ⟨a, dx, fs, h1, h0, h2, h3, h4⟩ := h
  exact ⟨a, dx, fs, h1, h0, i _ _ h2, h3, h4⟩
end

section
variable {X : Cx} {T : Tab} {W : WX} {z : Hd} {k : Nat} {dn : Dun}
theorem inst_at {pins : List (Addr × Obj)} {s : Shared} {σ : L2.St} {H : Hp} {a C dx : Addr} {fs : List (Str × V)} (I : Inv X pins σ H s) (h : H a = some (.ins C dx fs)) :
    ∃ od, PySem.W.InstAt s.heap a (PySem.W.instObj C dx) C (some od) ∧ s.heap.get? a = some (PySem.W.instObj C dx) := by
  obtain ⟨mA, O, _⟩ := ins_get I.hok h
  obtain ⟨od, J, _⟩ := O.look
  exact ⟨od, J, O.obj⟩
theorem cmpback {P : Value → Shared → Prop} {y : V} {v : Value} {s' : Shared} (r : RelV y v) (h : P v s') : PySem.W.CmpBack P v s' := by
  cases y with
  | non => cases r; exact h
  | bl _ => cases r; exact h
  | int _ => obtain ⟨t, rfl⟩ := r; exact h
  | str _ => obtain ⟨t, rfl⟩ := r; exact h
  | byt _ => obtain ⟨t, rfl⟩ := r; exact h
  | flt _ => obtain ⟨t, rfl⟩ := r; exact h
  | ref _ => cases r; exact h
  | ty _ => cases r; exact h
/-- the call of a special method of the left side -/
theorem objCall (o : OpC X T W k dn) {m : Dn} (hm : m.ms = [false, false]) {pins : List (Addr × Obj)} {s : Shared} {σ : L2.St} {H Hf : Hp} {c : Nat} {xs : List D} {a : Addr} {y : V} {u : Value} {dy : D} {Q : QR} {Xq : QX} {Qv : VK}
    (I : Inv X pins σ H s) (i : Ex Hf H) (hx : Rep T X.K Hf (.obj c xs) (.ref a)) (ry : RelV y u) (hy : Rep T X.K Hf dy y) (xo : XOk T X.K W σ Hf H Xq) (kt : ∀ v Hf' H' r, Step Hf H Hf' H' → Res T X.K Hf' H' H v r → Q r → Qv v H') (q : objL dn m c xs dy Q Xq) :
    ∃ f, c < T.n ∧ PySem.W.findIn X.K (.ref (T.cls c)) m.nm = some (some (.ref f)) ∧ PySem.W.isFn X.K (.ref f) = true ∧ wpAny (model X.prog X.w) X.A (call (.ref f) [.ref a, u]) (EP X pins σ Qv) X.xe s := by
  unfold objL at q
  cases e : dn c m with
  | none => rw [e] at q; exact q.elim
  | some sp =>
    rw [e] at q
    obtain ⟨a', dx, fs, e1, hc, _⟩ := hx.objU i
    obtain ⟨f, h1, h2, F⟩ := (o.du c m sp e hc).ex
    rw [hm] at F
    refine ⟨f, hc, h1, h2, ?_⟩
    exact callV F o.r o.tk (vs := [.ref a, y]) (ds := [.obj c xs, dy]) I (.cons rfl (.cons ry .nil)) i ⟨_, _, _, _, rfl, rfl, hx, _, _, _, _, rfl, rfl, hy, rfl, rfl⟩ xo kt q
theorem objCall1i (o : OpC X T W k dn) {m : Dn} (hm : m.ms = [false, false]) {pins : List (Addr × Obj)} {s : Shared} {σ : L2.St} {H Hf : Hp} {c : Nat} {xs : List D} {a : Addr} {y : V} {u : Value} {dy : D} {Q : QR} {Xq : QX} {Qv : VK}
    (I : Inv X pins σ H s) (i : Ex Hf H) (hx : Rep T X.K Hf (.obj c xs) (.ref a)) (ry : RelV y u) (hy : Rep T X.K Hf dy y) (xo : XOk T X.K W σ Hf H Xq) (kt : ∀ v Hf' H' r, Step Hf H Hf' H' → Res T X.K Hf' H' H v r → Q r → Qv v H') (q : objL dn m c xs dy Q Xq) :
    ∃ f, c < T.n ∧ PySem.W.findIn X.K (.ref (T.cls c)) m.nm = some (some (.ref f)) ∧ PySem.W.isFn X.K (.ref f) = true ∧ wpAny (model X.prog X.w) X.A.in1 (call (.ref f) [.ref a, u]) (EP X pins σ Qv) X.xe s := by
  unfold objL at q
  cases e : dn c m with
  | none => rw [e] at q; exact q.elim
  | some sp =>
    rw [e] at q
    obtain ⟨a', dx, fs, e1, hc, _⟩ := hx.objU i
    obtain ⟨f, h1, h2, F⟩ := (o.du c m sp e hc).ex
    rw [hm] at F
    refine ⟨f, hc, h1, h2, ?_⟩
    exact callV1 F o.r1 o.tk (vs := [.ref a, y]) (ds := [.obj c xs, dy]) I (.cons rfl (.cons ry .nil)) i ⟨_, _, _, _, rfl, rfl, hx, _, _, _, _, rfl, rfl, hy, rfl, rfl⟩ xo kt q
/-- a binary operator, an own instance on the left -/
theorem bin_objL (o : OpC X T W k dn) {m : Dn} {op : Operator} (hm : m.ms = [false, false]) (hnm : PySem.dunder op.info.2 = m.nm) (hop : op.info.2 ∈ opNames) {pins : List (Addr × Obj)} {s : Shared} {σ : L2.St} {H Hf : Hp} {c : Nat} {xs : List D} {v y : V} {va u : Value} {dy : D} {Q : QR} {Xq : QX} {Qv : VK}
    {fo ro : Option Value} (h1 : PySem.W.findIn X.K (.type "int") (PySem.dunder op.info.2) = some fo) (h2 : PySem.W.findIn X.K (.type "int") (dunderR op.info.2) = some ro)
    (I : Inv X pins σ H s) (i : Ex Hf H) (rx : RelV v va) (hx : Rep T X.K Hf (.obj c xs) v) (ry : RelV y u) (hy : Rep T X.K Hf dy y) (xo : XOk T X.K W σ Hf H Xq) (kt : ∀ v Hf' H' r, Step Hf H Hf' H' → Res T X.K Hf' H' H v r → Q r → Qv v H') (q : objL dn m c xs dy Q Xq)
    (hd : (∃ j, dy = .int j) ∨ ∃ ys, dy = .obj c ys) : wpAny (model X.prog X.w) X.A (binaryOp1 op.info.2 va u) (fun r s' => ∃ v, r = some v ∧ EP X pins σ Qv v s') X.xe s := by
  obtain ⟨a, dx, fs, rfl, hc, hH, _⟩ := hx.objU i
  obtain rfl : va = Value.ref a := rx
  obtain ⟨f, _, g1, g2, g3⟩ := objCall o hm I i hx ry hy xo kt q
  obtain ⟨od, J, _⟩ := inst_at I hH
  have cf := o.lib.cl c hc
  have g4 : wpAny (model X.prog X.w) X.A (call (.ref f) [.ref a, u]) (PySem.W.CmpBack (EP X pins σ Qv)) X.xe s := thn g3 fun v s' ⟨w', H', I', r', q'⟩ => cmpback r' ⟨w', H', I', r', q'⟩
  rw [← hnm] at g1
  rcases hd with ⟨j, rfl⟩ | ⟨ys, rfl⟩
  · unfold Rep at hy
    subst hy
    obtain ⟨t, rfl⟩ := ry
    obtain ⟨rc, r1, r2⟩ := cf.rr _ hop
    exact PySem.W.vl_bin1_T I.kIn J (T := "int") rfl cf.sf g1 g2 r1 r2 h1 h2 (cf.subT "int" (by decide)) g4
  · obtain ⟨b, dy, gs, rfl, _, hH2, _⟩ := hy.objU i
    obtain rfl : u = Value.ref b := ry
    obtain ⟨od2, J2, _⟩ := inst_at I hH2
    exact PySem.W.vl_bin1_same I.kIn J J2.type cf.sf g1 g2 g4
end
end VL
end
section
set_option Elab.async false
set_option linter.all false
set_option maxRecDepth 100000
set_option maxHeartbeats 4000000
/-! VLs4: the operators, one by one. -/
namespace VL
open PySem PySem.Spec PyProof.Rows L2

section
variable {X : Cx} {T : Tab} {W : WX} {z : Hd} {k : Nat} {dn : Dun}
theorem mulOk.ok {i j : Int} (h : mulOk i j) : IntMulOk i j := CMulW.ok h
/-- a rule that gives a number, at the end -/
theorem endI {pins : List (Addr × Obj)} {s : Shared} {σ : L2.St} {H Hf : Hp} {i : Int} {t tk : Nat} {Q : QR} {Qv : VK} (I : Inv X pins σ H s) (ex : Ex Hf H) (kt : ∀ v Hf' H' r, Step Hf H Hf' H' → Res T X.K Hf' H' H v r → Q r → Qv v H') (q : Q (.fz (.int i))) :
    EP X pins σ Qv (.int i t) { s with toks := tk } := ⟨.int i, H, I.tok _, ⟨_, rfl⟩, kt _ Hf H (.fz (.int i)) (Step.refl ex) (by unfold Res Rep; rfl) q⟩
theorem endI' {pins : List (Addr × Obj)} {s : Shared} {σ : L2.St} {H Hf : Hp} {i : Int} {t : Nat} {Q : QR} {Qv : VK} (I : Inv X pins σ H s) (ex : Ex Hf H) (kt : ∀ v Hf' H' r, Step Hf H Hf' H' → Res T X.K Hf' H' H v r → Q r → Qv v H') (q : Q (.fz (.int i))) :
    EP X pins σ Qv (.int i t) s := ⟨.int i, H, I, ⟨_, rfl⟩, kt _ Hf H (.fz (.int i)) (Step.refl ex) (by unfold Res Rep; rfl) q⟩
theorem endB {pins : List (Addr × Obj)} {s : Shared} {σ : L2.St} {H Hf : Hp} {b : Bool} {Q : QR} {Qv : VK} (I : Inv X pins σ H s) (ex : Ex Hf H) (kt : ∀ v Hf' H' r, Step Hf H Hf' H' → Res T X.K Hf' H' H v r → Q r → Qv v H') (q : Q (.fz (.bl b))) :
    EP X pins σ Qv (.bool b) s := ⟨.bl b, H, I, rfl, kt _ Hf H (.fz (.bl b)) (Step.refl ex) (by unfold Res Rep; rfl) q⟩
theorem endS {pins : List (Addr × Obj)} {s : Shared} {σ : L2.St} {H Hf : Hp} {x : Str} {t tk : Nat} {Q : QR} {Qv : VK} (I : Inv X pins σ H s) (ex : Ex Hf H) (kt : ∀ v Hf' H' r, Step Hf H Hf' H' → Res T X.K Hf' H' H v r → Q r → Qv v H') (q : Q (.fz (.str x))) :
    EP X pins σ Qv (.str x t) { s with toks := tk } := ⟨.str x, H, I.tok _, ⟨_, rfl⟩, kt _ Hf H (.fz (.str x)) (Step.refl ex) (by unfold Res Rep; rfl) q⟩
/-- a new list of one's own -/
theorem resOwn {Hf H : Hp} {p : Addr} {vs : List V} {ds : List D} {K : PySem.W.Frag} (ex : Ex Hf H) (hp : H p = none) (r : RepL T K Hf ds vs) : Res T K Hf (upd H p (.lst vs)) H (.ref p) (.own ds) :=
  ⟨p, vs, rfl, ex.fresh hp, hp, upd_same, r⟩
/-- a new tuple -/
theorem resTup {Hf H : Hp} {p : Addr} {vs : List V} {ds : List D} {K : PySem.W.Frag} (ex : Ex Hf H) (hp : H p = none) (r : RepL T K Hf ds vs) : Res T K (upd Hf p (.tup vs)) (upd H p (.tup vs)) H (.ref p) (.fz (.tup ds)) := by
  unfold Res Rep
  exact ⟨p, vs, rfl, upd_same, r.mono (Ex.new (ex.fresh hp))⟩
/-- a rule of the hand layer, used -/
theorem useR {f : Value → Value → Sem Value} {r : R2} (h : OpR X f r) {pins : List (Addr × Obj)} {s : Shared} {σ : L2.St} {H : Hp} {x y : V} {u v : Value} {Q : VK} (I : Inv X pins σ H s) (rx : RelV x u) (ry : RelV y v) (q : r x y H Q) : wpAny (model X.prog X.w) X.A (f u v) (EP X pins σ Q) X.xe s :=
  h pins s σ H x y u v Q I rx ry q
/-- list + list -/
theorem lst_add {pins : List (Addr × Obj)} {s : Shared} {σ : L2.St} {H Hf : Hp} {x y : V} {u v : Value} {xs ys : List D} {Q : QR} {Qv : VK} (I : Inv X pins σ H s) (rx : RelV x u) (ry : RelV y v) (i : Ex Hf H) (hx : BRep T X.K Hf H (.lst xs) x) (hy : BRep T X.K Hf H (.lst ys) y)
    (kt : ∀ v Hf' H' r, Step Hf H Hf' H' → Res T X.K Hf' H' H v r → Q r → Qv v H') (hl : xs.length + ys.length ≤ 16777216) (q : Q (.own (xs ++ ys))) : wpAny (model X.prog X.w) X.A (binaryOp .Add u v) (EP X pins σ Qv) X.xe s := by
  obtain ⟨a, vs, rfl, h1, h2⟩ := hx.lst i
  obtain ⟨b, ws, rfl, h3, h4⟩ := hy.lst i
  refine useR op_cat I rx ry ⟨a, b, vs, ws, rfl, rfl, h1, h3, ?_, fun p hp => ?_⟩
  · rw [sizeLine_eq, ← h2.length, ← h4.length]
    exact hl
  · exact kt _ Hf _ _ (Step.newH i hp) (resOwn i hp (h2.append h4)) q
theorem str_add {pins : List (Addr × Obj)} {s : Shared} {σ : L2.St} {H Hf : Hp} {x y : V} {u v : Value} {xs ys : Str} {Q : QR} {Qv : VK} (I : Inv X pins σ H s) (rx : RelV x u) (ry : RelV y v) (i : Ex Hf H) (hx : BRep T X.K Hf H (.str xs) x) (hy : BRep T X.K Hf H (.str ys) y)
    (kt : ∀ v Hf' H' r, Step Hf H Hf' H' → Res T X.K Hf' H' H v r → Q r → Qv v H') (hl : xs.length + ys.length ≤ 16777216) (q : Q (.fz (.str (xs ++ ys)))) : wpAny (model X.prog X.w) X.A (binaryOp .Add u v) (EP X pins σ Qv) X.xe s := by
  rw [hx.str] at rx
  rw [hy.str] at ry
  exact useR op_add_str I rx ry ⟨xs, ys, rfl, rfl, by rw [sizeLine_eq]; exact hl, kt _ Hf H (.fz (.str (xs ++ ys))) (Step.refl i) (by unfold Res Rep; rfl) q⟩
/-- the whole numbers' cases of the operators -/
theorem fills_own {nm : String} (o : OpC X T W k dn) {c : Nat} (hc : c < T.n) {f : Addr} (hs : PySem.W.findIn X.K (.ref (T.cls c)) (PySem.dunder nm) = some (some (.ref f))) {h : Heap} (hk : X.K.In h) {M : Model} : PySem.W.Looks M h (fillsNumberSlot (.ref (T.cls c)) nm) true := by
  obtain ⟨cd, rest, hcd, hm⟩ := PySem.W.vl_first (o.lib.cl c hc).sf
  exact PySem.W.fills_K hk hcd hm hs
/-- an own instance on the right of a whole number, its reflected method -/
theorem bin_objR (o : OpC X T W k dn) {m m' : Dn} {op : Operator} (hm : m.ms = [false, false]) (hnm : dunderR op.info.2 = m.nm) (hnm' : PySem.dunder op.info.2 = m'.nm) {pins : List (Addr × Obj)} {s : Shared} {σ : L2.St} {H Hf : Hp} {c : Nat} {xs : List D} {v : V} {va : Value} {j : Int} {t : Tok} {Q : QR} {Xq : QX} {Qv : VK}
    {id : String} {B : Builtin} (hfT : fillsNumberSlot (.type "int") op.info.2 = pure true) (hsl : Slot "int" (PySem.dunder op.info.2) id) (he : entryFor table id = some B) (ha : ∀ a b, argsOk id ⟨[a, b], []⟩)
    (hB : ∀ (l C dx : Addr), Meets (B ⟨[.int j t, .ref l], []⟩) (fun _ R s => s.heap.get? l = some (PySem.W.instObj C dx) ∧ R (.ok (.ret Value.notImplemented)) s))
    (h0 : (dn c m').isSome = true)
    (I : Inv X pins σ H s) (i : Ex Hf H) (rx : RelV v va) (hx : Rep T X.K Hf (.obj c xs) v) (xo : XOk T X.K W σ Hf H Xq) (kt : ∀ v Hf' H' r, Step Hf H Hf' H' → Res T X.K Hf' H' H v r → Q r → Qv v H') (q : objL dn m c xs (.int j) Q Xq) :
    wpAny (model X.prog X.w) X.A (binaryOp1 op.info.2 (.int j t) va) (fun r s' => ∃ v, r = some v ∧ EP X pins σ Qv v s') X.xe s := by
  obtain ⟨a, dx, fs, rfl, hc, hH, _⟩ := hx.objU i
  obtain rfl : va = Value.ref a := rx
  obtain ⟨f, _, g1, g2, g3⟩ := objCall o hm (y := .int j) (u := .int j t) I i hx ⟨t, rfl⟩ (by unfold Rep; rfl) xo kt q
  obtain ⟨od, J, hO⟩ := inst_at I hH
  have cf := o.lib.cl c hc
  have g4 : wpAny (model X.prog X.w) X.A (call (.ref f) [.ref a, .int j t]) (PySem.W.CmpBack (EP X pins σ Qv)) X.xe s := thn g3 fun v s' ⟨w', H', I', r', q'⟩ => cmpback r' ⟨w', H', I', r', q'⟩
  rw [← hnm] at g1
  cases e0 : dn c m' with
  | none => rw [e0] at h0; cases h0
  | some sp0 =>
    obtain ⟨f0, k1, _, _⟩ := (o.du c m' sp0 e0 hc).ex
    rw [← hnm'] at k1
    refine PySem.W.vl_bin1_R I.kIn J (fun s' => typeIs_int s' j t) rfl cf.sf (fills_own o hc k1 I.kIn) g1 g2 hfT hsl cf.subI ?_ g4
    exact call_meets hsl (typeIs_int s j t) he (ha _ _) (hB a (T.cls c) dx) ⟨hO, rfl, rfl⟩

theorem dun_add : PySem.dunder Operator.Add.info.2 = Dn.add.nm := by decide +kernel
theorem dun_sub : PySem.dunder Operator.Sub.info.2 = Dn.sub.nm := by decide +kernel
theorem dun_mul : PySem.dunder Operator.Mult.info.2 = Dn.mul.nm := by decide +kernel
theorem dun_fdiv : PySem.dunder Operator.FloorDiv.info.2 = Dn.fdiv.nm := by decide +kernel
theorem dun_mod : PySem.dunder Operator.Mod.info.2 = Dn.mod.nm := by decide +kernel
theorem dun_pow : PySem.dunder Operator.Pow.info.2 = Dn.pow.nm := by decide +kernel
theorem dun_lsh : PySem.dunder Operator.LShift.info.2 = Dn.lsh.nm := by decide +kernel
theorem dun_rsh : PySem.dunder Operator.RShift.info.2 = Dn.rsh.nm := by decide +kernel
theorem dun_bor : PySem.dunder Operator.BitOr.info.2 = Dn.bor.nm := by decide +kernel
theorem dun_band : PySem.dunder Operator.BitAnd.info.2 = Dn.band.nm := by decide +kernel
theorem dun_radd : dunderR Operator.Add.info.2 = Dn.radd.nm := by decide +kernel
theorem dun_rsub : dunderR Operator.Sub.info.2 = Dn.rsub.nm := by decide +kernel
theorem dun_rmul : dunderR Operator.Mult.info.2 = Dn.rmul.nm := by decide +kernel

theorem opv_add (o : OpC X T W k dn) : OpV X T W (binaryOp .Add) (opAdd dn) := by
  intro pins s σ H Hf x y u v dx dy Q Xq Qv I rx ry i hx hy xo kt q
  unfold opAdd at q
  split at q
  · rename_i a b
    unfold Rep at hx hy
    subst hx hy
    obtain ⟨t, rfl⟩ := rx
    obtain ⟨t', rfl⟩ := ry
    exact add_int (endI I i kt q)
  · exact str_add I rx ry i hx.b hy.b kt q.1 q.2
  · exact lst_add I rx ry i hx.b hy.b kt q.1 q.2
  · exact PySem.W.vl_bin (bin_objL o rfl dun_add (by decide) rfl rfl I i rx hx ry hy xo kt q (.inl ⟨_, rfl⟩))
  · rename_i c xs c' ys
    obtain ⟨e, q⟩ := q
    subst e
    exact PySem.W.vl_bin (bin_objL o rfl dun_add (by decide) rfl rfl I i rx hx ry hy xo kt q (.inr ⟨_, rfl⟩))
  · rename_i j c xs
    unfold Rep at hx
    subst hx
    obtain ⟨t, rfl⟩ := rx
    obtain ⟨q0, q⟩ := q
    exact PySem.W.vl_bin (bin_objR o rfl dun_radd dun_add F.fills_int_add F.slot_int_add F.entry_int_add (F.args_int_add_2 · ·) (vl_int_add _ _) q0 I i ry hy xo kt q)
  · exact q.elim
theorem opv_sub (o : OpC X T W k dn) : OpV X T W (binaryOp .Sub) (opSub dn) := by
  intro pins s σ H Hf x y u v dx dy Q Xq Qv I rx ry i hx hy xo kt q
  unfold opSub at q
  split at q
  · rename_i a b
    unfold Rep at hx hy
    subst hx hy
    obtain ⟨t, rfl⟩ := rx
    obtain ⟨t', rfl⟩ := ry
    exact sub_int (endI I i kt q)
  · exact PySem.W.vl_bin (bin_objL o rfl dun_sub (by decide) rfl rfl I i rx hx ry hy xo kt q (.inl ⟨_, rfl⟩))
  · rename_i c xs c' ys
    obtain ⟨e, q⟩ := q
    subst e
    exact PySem.W.vl_bin (bin_objL o rfl dun_sub (by decide) rfl rfl I i rx hx ry hy xo kt q (.inr ⟨_, rfl⟩))
  · rename_i j c xs
    unfold Rep at hx
    subst hx
    obtain ⟨t, rfl⟩ := rx
    obtain ⟨q0, q⟩ := q
    exact PySem.W.vl_bin (bin_objR o rfl dun_rsub dun_sub F.fills_int_sub F.slot_int_sub F.entry_int_sub (F.args_int_sub_2 · ·) (vl_int_sub _ _) q0 I i ry hy xo kt q)
  · exact q.elim
/-- a list times a whole number -/
theorem lst_mul {pins : List (Addr × Obj)} {s : Shared} {σ : L2.St} {H Hf : Hp} {x y : V} {u v : Value} {xs : List D} {n : Int} {Q : QR} {Qv : VK} (I : Inv X pins σ H s) (rx : RelV x u) (ry : RelV y v) (i : Ex Hf H) (hx : BRep T X.K Hf H (.lst xs) x) (hy : y = .int n)
    (kt : ∀ v Hf' H' r, Step Hf H Hf' H' → Res T X.K Hf' H' H v r → Q r → Qv v H') (hl : -(2 ^ 63) ≤ n ∧ n < 2 ^ 63 ∧ xs.length * n.toNat ≤ 16777216) (q : Q (.own (repN n xs))) : wpAny (model X.prog X.w) X.A (binaryOp .Mult u v) (EP X pins σ Qv) X.xe s := by
  obtain ⟨a, vs, rfl, h1, h2⟩ := hx.lst i
  subst hy
  refine useR op_rep I rx ry ⟨a, n, vs, rfl, rfl, h1, hl.1, hl.2.1, ?_, fun p hp => ?_⟩
  · rw [sizeLine_eq, ← h2.length]
    exact hl.2.2
  · refine kt _ Hf _ _ (Step.newH i hp) (resOwn i hp ?_) q
    unfold repN
    generalize n.toNat = m
    induction m with
    | zero => exact RepL.nil
    | succ m ih =>
      rw [List.replicate_succ, List.flatten_cons, List.replicate_succ, List.flatten_cons]
      exact h2.append ih
theorem opv_mul (o : OpC X T W k dn) : OpV X T W (binaryOp .Mult) (opMul dn) := by
  intro pins s σ H Hf x y u v dx dy Q Xq Qv I rx ry i hx hy xo kt q
  unfold opMul at q
  split at q
  · rename_i a b
    unfold Rep at hx hy
    subst hx hy
    obtain ⟨t, rfl⟩ := rx
    obtain ⟨t', rfl⟩ := ry
    exact mul_int (endI I i kt q.2) q.1.ok
  · unfold Rep at hy
    exact lst_mul I rx ry i hx.b hy kt q.1 q.2
  · exact PySem.W.vl_bin (bin_objL o rfl dun_mul (by decide) rfl rfl I i rx hx ry hy xo kt q (.inl ⟨_, rfl⟩))
  · rename_i c xs c' ys
    obtain ⟨e, q⟩ := q
    subst e
    exact PySem.W.vl_bin (bin_objL o rfl dun_mul (by decide) rfl rfl I i rx hx ry hy xo kt q (.inr ⟨_, rfl⟩))
  · rename_i j c xs
    unfold Rep at hx
    subst hx
    obtain ⟨t, rfl⟩ := rx
    obtain ⟨q0, q⟩ := q
    exact PySem.W.vl_bin (bin_objR o rfl dun_rmul dun_mul F.fills_int_mul F.slot_int_mul F.entry_int_mul (F.args_int_mul_2 · ·) (vl_int_mul _ _) q0 I i ry hy xo kt q)
  · exact q.elim
theorem opv_fdiv (o : OpC X T W k dn) : OpV X T W (binaryOp .FloorDiv) (opFdiv dn) := by
  intro pins s σ H Hf x y u v dx dy Q Xq Qv I rx ry i hx hy xo kt q
  unfold opFdiv at q
  split at q
  · rename_i a b
    unfold Rep at hx hy
    subst hx hy
    obtain ⟨t, rfl⟩ := rx
    obtain ⟨t', rfl⟩ := ry
    exact floordiv_int q.1.1 (endI I i kt q.2) (.inl (PyProof.noPylong_of_log2 q.1.2))
  · exact PySem.W.vl_bin (bin_objL o rfl dun_fdiv (by decide) rfl rfl I i rx hx ry hy xo kt q (.inl ⟨_, rfl⟩))
  · rename_i c xs c' ys
    obtain ⟨e, q⟩ := q
    subst e
    exact PySem.W.vl_bin (bin_objL o rfl dun_fdiv (by decide) rfl rfl I i rx hx ry hy xo kt q (.inr ⟨_, rfl⟩))
  · exact q.elim
theorem opv_mod (o : OpC X T W k dn) : OpV X T W (binaryOp .Mod) (opMod dn) := by
  intro pins s σ H Hf x y u v dx dy Q Xq Qv I rx ry i hx hy xo kt q
  unfold opMod at q
  split at q
  · rename_i a b
    unfold Rep at hx hy
    subst hx hy
    obtain ⟨t, rfl⟩ := rx
    obtain ⟨t', rfl⟩ := ry
    exact mod_int' q.1 (endI I i kt q.2)
  · exact PySem.W.vl_bin (bin_objL o rfl dun_mod (by decide) rfl rfl I i rx hx ry hy xo kt q (.inl ⟨_, rfl⟩))
  · rename_i c xs c' ys
    obtain ⟨e, q⟩ := q
    subst e
    exact PySem.W.vl_bin (bin_objL o rfl dun_mod (by decide) rfl rfl I i rx hx ry hy xo kt q (.inr ⟨_, rfl⟩))
  · exact q.elim
theorem opv_pow (o : OpC X T W k dn) : OpV X T W (binaryOp .Pow) (opPow dn) := by
  intro pins s σ H Hf x y u v dx dy Q Xq Qv I rx ry i hx hy xo kt q
  unfold opPow at q
  split at q
  · rename_i a b
    unfold Rep at hx hy
    subst hx hy
    obtain ⟨t, rfl⟩ := rx
    obtain ⟨t', rfl⟩ := ry
    exact pow_int_small q.1.1 q.1.2.1 q.1.2.2 (endI I i kt q.2)
  · exact PySem.W.vl_bin (bin_objL o rfl dun_pow (by decide) rfl rfl I i rx hx ry hy xo kt q (.inl ⟨_, rfl⟩))
  · exact q.elim
theorem opv_obj (o : OpC X T W k dn) {m : Dn} {op : Operator} (hm : m.ms = [false, false]) (hnm : PySem.dunder op.info.2 = m.nm) (hop : op.info.2 ∈ opNames) {fo ro : Option Value} (h1 : ∀ K, PySem.W.findIn K (.type "int") (PySem.dunder op.info.2) = some fo)
    (h2 : ∀ K, PySem.W.findIn K (.type "int") (dunderR op.info.2) = some ro) : OpV X T W (binaryOp op) (opObj dn m) := by
  intro pins s σ H Hf x y u v dx dy Q Xq Qv I rx ry i hx hy xo kt q
  unfold opObj at q
  split at q
  · exact PySem.W.vl_bin (bin_objL o hm hnm hop (h1 _) (h2 _) I i rx hx ry hy xo kt q (.inl ⟨_, rfl⟩))
  · rename_i c xs c' ys
    obtain ⟨e, q⟩ := q
    subst e
    exact PySem.W.vl_bin (bin_objL o hm hnm hop (h1 _) (h2 _) I i rx hx ry hy xo kt q (.inr ⟨_, rfl⟩))
  · exact q.elim
theorem opv_lsh (o : OpC X T W k dn) : OpV X T W (binaryOp .LShift) (opObj dn .lsh) := opv_obj o rfl dun_lsh (by decide) (fun _ => rfl) (fun _ => rfl)
theorem opv_rsh (o : OpC X T W k dn) : OpV X T W (binaryOp .RShift) (opObj dn .rsh) := opv_obj o rfl dun_rsh (by decide) (fun _ => rfl) (fun _ => rfl)
theorem opv_bor (o : OpC X T W k dn) : OpV X T W (binaryOp .BitOr) (opObj dn .bor) := opv_obj o rfl dun_bor (by decide) (fun _ => rfl) (fun _ => rfl)
theorem opv_band (o : OpC X T W k dn) : OpV X T W (binaryOp .BitAnd) (opObj dn .band) := opv_obj o rfl dun_band (by decide) (fun _ => rfl) (fun _ => rfl)

/-! ### one place -/
theorem objCall1 (o : OpC X T W k dn) {m : Dn} (hm : m.ms = [false]) {pins : List (Addr × Obj)} {s : Shared} {σ : L2.St} {H Hf : Hp} {c : Nat} {xs : List D} {a : Addr} {Q : QR} {Xq : QX} {Qv : VK}
    (I : Inv X pins σ H s) (i : Ex Hf H) (hx : Rep T X.K Hf (.obj c xs) (.ref a)) (xo : XOk T X.K W σ Hf H Xq) (kt : ∀ v Hf' H' r, Step Hf H Hf' H' → Res T X.K Hf' H' H v r → Q r → Qv v H')
    (q : match dn c m with | some sp => sp [.obj c xs] Q Xq | none => False) :
    ∃ f, c < T.n ∧ PySem.W.findIn X.K (.ref (T.cls c)) m.nm = some (some (.ref f)) ∧ PySem.W.isFn X.K (.ref f) = true ∧ wpAny (model X.prog X.w) X.A (call (.ref f) [.ref a]) (EP X pins σ Qv) X.xe s := by
  cases e : dn c m with
  | none => rw [e] at q; exact q.elim
  | some sp =>
    rw [e] at q
    obtain ⟨a', dx, fs, e1, hc, _⟩ := hx.objU i
    obtain ⟨f, h1, h2, F⟩ := (o.du c m sp e hc).ex
    rw [hm] at F
    refine ⟨f, hc, h1, h2, ?_⟩
    exact callV F o.r o.tk (vs := [.ref a]) (ds := [.obj c xs]) I (.cons rfl .nil) i ⟨_, _, _, _, rfl, rfl, hx, rfl, rfl⟩ xo kt q
theorem opu_neg (o : OpC X T W k dn) : OpU X T W (unaryOp .USub) (opNeg dn) := by
  intro pins s σ H Hf x u dx Q Xq Qv I rx i hx xo kt q
  unfold opNeg at q
  split at q
  · unfold Rep at hx
    subst hx
    obtain ⟨t, rfl⟩ := rx
    exact neg_int (endI I i kt q)
  · obtain ⟨a, dx, fs, rfl, hc, hH, _⟩ := hx.objU i
    obtain rfl : u = Value.ref a := rx
    obtain ⟨f, _, g1, g2, g3⟩ := objCall1 o (m := .neg) rfl I i hx xo kt q
    obtain ⟨od, J, _⟩ := inst_at I hH
    obtain ⟨m, fr⟩ := I.fr
    exact PySem.W.ksp_neg fr I.ok.mod.kin J g1 g2 g3
  · exact q.elim
theorem opu_inv (o : OpC X T W k dn) : OpU X T W (unaryOp .Invert) (opInv dn) := by
  intro pins s σ H Hf x u dx Q Xq Qv I rx i hx xo kt q
  unfold opInv at q
  split at q
  · obtain ⟨a, dx, fs, rfl, hc, hH, _⟩ := hx.objU i
    obtain rfl : u = Value.ref a := rx
    obtain ⟨f, _, g1, g2, g3⟩ := objCall1 o (m := .inv) rfl I i hx xo kt q
    obtain ⟨od, J, _⟩ := inst_at I hH
    obtain ⟨m, fr⟩ := I.fr
    exact PySem.W.ksp_inv fr I.ok.mod.kin J g1 g2 g3
  · exact q.elim
end
end VL
end
section
set_option Elab.async false
set_option linter.all false
set_option maxRecDepth 100000
set_option maxHeartbeats 4000000
/-! VLs5: comparisons. -/
namespace VL
open PySem PySem.Spec PyProof.Rows L2
mutual
def D.py : D → PyData
  | .non => .none
  | .bl b => .bool b
  | .int i => .int i
  | .str x => .str x
  | .lst ds => .list (D.pys ds)
  | .tup ds => .tuple (D.pys ds)
  | .obj _ _ => .none
  | .cls _ => .none
  | .scr _ => .none
def D.pys : List D → List PyData
  | [] => []
  | d :: ds => D.py d :: D.pys ds
end
section
variable {T : Tab} {K : PySem.W.Frag} {Hf H : Hp}
mutual
theorem dp_of (i : Ex Hf H) : ∀ {d : D} {v : V}, d.flat = true → Rep T K Hf d v → Dp K H v d.py
  | .non, v, _, h => by unfold Rep at h; subst h; unfold D.py; exact .non
  | .bl b, v, _, h => by unfold Rep at h; subst h; unfold D.py; exact .bl b
  | .int b, v, _, h => by unfold Rep at h; subst h; unfold D.py; exact .int b
  | .str b, v, _, h => by unfold Rep at h; subst h; unfold D.py; exact .str b
  | .lst ds, v, f, h => by
    unfold Rep at h
    obtain ⟨a, xs, rfl, h2, h3⟩ := h
    unfold D.py
    exact .lst (SqL.of (i _ _ h2)) (dpl_of i (by unfold D.flat at f; exact f) h3)
  | .tup ds, v, f, h => by
    unfold Rep at h
    obtain ⟨a, xs, rfl, h2, h3⟩ := h
    unfold D.py
    exact .tup (SqT.of (i _ _ h2)) (dpl_of i (by unfold D.flat at f; exact f) h3)
  | .obj _ _, v, f, _ => by unfold D.flat at f; cases f
  | .cls _, v, f, _ => by unfold D.flat at f; cases f
  | .scr _, v, f, _ => by unfold D.flat at f; cases f
theorem dpl_of (i : Ex Hf H) : ∀ {ds : List D} {vs : List V}, D.flats ds = true → RepL T K Hf ds vs → DpAll K H vs (D.pys ds)
  | [], vs, _, h => by rw [repL_nil.mp h]; unfold D.pys; exact .nil
  | d :: ds, vs, f, h => by
    obtain ⟨v, r, rfl, h2, h3⟩ := repL_cons.mp h
    unfold D.flats at f
    obtain ⟨f1, f2⟩ := Bool.and_eq_true_iff.mp f
    unfold D.pys
    exact .cons (dp_of i f1 h2) (dpl_of i f2 h3)
end
theorem dp_ofB (i : Ex Hf H) {d : D} {v : V} (f : d.flat = true) (h : BRep T K Hf H d v) : Dp K H v d.py := by
  rcases h with (h | ⟨a, vs, ds, rfl, rfl, h2, h3⟩) | ⟨_, _, _, _, _, rfl, _⟩
  · exact dp_of i f h
  · unfold D.py
    exact .lst (SqL.of h2) (dpl_of i (by unfold D.flat at f; exact f) h3)
  · unfold D.flat at f; cases f
mutual
theorem py_can : ∀ {d : D}, d.flat = true → d.py.canLay0 = true
  | .non, _ => rfl
  | .bl _, _ => rfl
  | .int _, _ => rfl
  | .str x, h => by
    unfold D.py PyData.canLay0 PyData.strOk
    unfold D.flat at h
    exact h
  | .lst ds, h => by
    unfold D.py PyData.canLay0
    exact pys_can (by unfold D.flat at h; exact h)
  | .tup ds, h => by
    unfold D.py PyData.canLay0
    exact pys_can (by unfold D.flat at h; exact h)
  | .obj _ _, h => by unfold D.flat at h; cases h
  | .cls _, h => by unfold D.flat at h; cases h
  | .scr _, h => by unfold D.flat at h; cases h
theorem pys_can : ∀ {ds : List D}, D.flats ds = true → PyData.canLayAll0 (D.pys ds) = true
  | [], _ => rfl
  | d :: ds, h => by
    unfold D.flats at h
    obtain ⟨h1, h2⟩ := Bool.and_eq_true_iff.mp h
    unfold D.pys PyData.canLayAll0
    rw [py_can h1, pys_can h2]
    rfl
end
mutual
theorem py_dep : ∀ {d : D}, d.flat = true → d.py.depth = d.dep
  | .non, _ => rfl
  | .bl _, _ => rfl
  | .int _, _ => rfl
  | .str x, h => rfl
  | .lst ds, h => by
    unfold D.py D.dep PyData.depth
    rw [pys_dep (by unfold D.flat at h; exact h)]
  | .tup ds, h => by
    unfold D.py D.dep PyData.depth
    rw [pys_dep (by unfold D.flat at h; exact h)]
  | .obj _ _, h => by unfold D.flat at h; cases h
  | .cls _, h => by unfold D.flat at h; cases h
  | .scr _, h => by unfold D.flat at h; cases h
theorem pys_dep : ∀ {ds : List D}, D.flats ds = true → PyData.depthAll (D.pys ds) = D.deps ds
  | [], _ => rfl
  | d :: ds, h => by
    unfold D.flats at h
    obtain ⟨h1, h2⟩ := Bool.and_eq_true_iff.mp h
    unfold D.pys D.deps PyData.depthAll
    rw [py_dep h1, pys_dep h2]
end
theorem shaped_of {d : D} (f : d.flat = true) (h : d.dep ≤ 64) : SeqAt.shaped d.py = true := by
  unfold SeqAt.shaped
  rw [py_can f, py_dep f, decide_eq_true h]
  rfl
end

mutual
theorem py_eqv : ∀ {d e : D}, d.flat = true → e.flat = true → PyData.eqv d.py e.py = D.eqv d e
  | .non, e, _, h => by cases e <;> first | rfl | (unfold D.flat at h; cases h)
  | .bl b, e, _, h => by cases e <;> first | rfl | (unfold D.flat at h; cases h)
  | .int b, e, _, h => by cases e <;> first | rfl | (unfold D.flat at h; cases h)
  | .str b, e, _, h => by cases e <;> first | rfl | (unfold D.flat at h; cases h)
  | .lst ds, e, g, h => by
    cases e with
    | lst es =>
      unfold D.py PyData.eqv D.eqv
      exact pys_eqv (by unfold D.flat at g; exact g) (by unfold D.flat at h; exact h)
    | obj _ _ => unfold D.flat at h; cases h
    | cls _ => unfold D.flat at h; cases h
    | scr _ => unfold D.flat at h; cases h
    | _ => rfl
  | .tup ds, e, g, h => by
    cases e with
    | tup es =>
      unfold D.py PyData.eqv D.eqv
      exact pys_eqv (by unfold D.flat at g; exact g) (by unfold D.flat at h; exact h)
    | obj _ _ => unfold D.flat at h; cases h
    | cls _ => unfold D.flat at h; cases h
    | scr _ => unfold D.flat at h; cases h
    | _ => rfl
  | .obj _ _, _, h, _ => by unfold D.flat at h; cases h
  | .cls _, _, h, _ => by unfold D.flat at h; cases h
  | .scr _, _, h, _ => by unfold D.flat at h; cases h
theorem pys_eqv : ∀ {ds es : List D}, D.flats ds = true → D.flats es = true → PyData.eqvAll (D.pys ds) (D.pys es) = D.eqvs ds es
  | [], [], _, _ => rfl
  | [], _ :: _, _, _ => rfl
  | _ :: _, [], _, _ => rfl
  | d :: ds, e :: es, g, h => by
    unfold D.flats at g h
    obtain ⟨g1, g2⟩ := Bool.and_eq_true_iff.mp g
    obtain ⟨h1, h2⟩ := Bool.and_eq_true_iff.mp h
    unfold D.pys PyData.eqvAll D.eqvs
    rw [py_eqv g1 h1, pys_eqv g2 h2]
end

section
variable {X : Cx} {T : Tab} {W : WX} {z : Hd} {k : Nat} {dn : Dun}
theorem opb_eqF (hr : X.A.units + 64 < cLine) : OpB X T W (compareOp .Eq) opEqF := by
  intro pins s σ H Hf x y u v dx dy Q Xq Qv I rx ry i hx hy xo kt ⟨⟨f1, f2, d1, d2⟩, q⟩
  refine useR (op_eqD hr) I rx ry ⟨dx.py, dy.py, dp_ofB i f1 hx, dp_ofB i f2 hy, shaped_of f1 d1, shaped_of f2 d2, ?_⟩
  rw [py_eqv f1 f2]
  exact kt _ Hf H (.fz (.bl _)) (Step.refl i) (by unfold Res Rep; rfl) q
theorem opb_neF (hr : X.A.units + 64 < cLine) : OpB X T W (compareOp .NotEq) opNeF := by
  intro pins s σ H Hf x y u v dx dy Q Xq Qv I rx ry i hx hy xo kt ⟨⟨f1, f2, d1, d2⟩, q⟩
  refine useR (op_neD hr) I rx ry ⟨dx.py, dy.py, dp_ofB i f1 hx, dp_ofB i f2 hy, shaped_of f1 d1, shaped_of f2 d2, ?_⟩
  rw [py_eqv f1 f2]
  exact kt _ Hf H (.fz (.bl _)) (Step.refl i) (by unfold Res Rep; rfl) q

theorem res_bl {Hf H : Hp} {K : PySem.W.Frag} {b : Bool} {v : V} {H' : Hp} {r : R} (h : Res T K Hf H' H v r) (e : r = .fz (.bl b)) : v = .bl b := by
  subst e
  unfold Res Rep at h
  exact h
/-- the class of what data stands for -/
theorem ty_of (lib : Lib T X.K) {pins : List (Addr × Obj)} {s : Shared} {σ : L2.St} {H Hf : Hp} {y : V} {u : Value} {dy : D} {c : Nat} (hc : c < T.n) (I : Inv X pins σ H s) (i : Ex Hf H) (ry : RelV y u) (hy : Rep T X.K Hf dy y) (h : ∀ n, dy ≠ .cls n) (h2 : ∀ n, dy ≠ .scr n) :
    ∃ tb, PySem.W.Looks (model X.prog X.w) s.heap (typeOf u) tb ∧ PySem.W.notFirst X.K (T.cls c) tb = true := by
  have cf := lib.cl c hc
  have nt : ∀ t ∈ tyNames, PySem.W.notFirst X.K (T.cls c) (.type t) = true := fun t ht => by
    unfold PySem.W.notFirst
    rw [cf.subT t ht]
    simp
  have lk : ∀ {a : Addr} {o : Obj}, s.heap.get? a = some o → PySem.W.Looks (model X.prog X.w) s.heap (typeOf (.ref a)) o.cls := fun e => fun A Q E s' k q => wpAny_typeOf_ref (k _ _ e) q
  cases dy with
  | non => unfold Rep at hy; subst hy; obtain rfl : u = Value.none := ry; exact ⟨.type "NoneType", PySem.W.Looks.of_pure rfl, nt _ (by decide)⟩
  | bl b => unfold Rep at hy; subst hy; obtain rfl : u = Value.bool b := ry; exact ⟨.type "bool", PySem.W.Looks.of_pure rfl, nt _ (by decide)⟩
  | int b => unfold Rep at hy; subst hy; obtain ⟨t, rfl⟩ := ry; exact ⟨.type "int", PySem.W.Looks.of_pure rfl, nt _ (by decide)⟩
  | str b => unfold Rep at hy; subst hy; obtain ⟨t, rfl⟩ := ry; exact ⟨.type "str", PySem.W.Looks.of_pure rfl, nt _ (by decide)⟩
  | lst ds =>
    obtain ⟨a, vs, rfl, h1, _⟩ := hy.b.lst i
    obtain rfl : u = Value.ref a := ry
    obtain ⟨_, _, n, _, e⟩ := (show ObjOk X.prog X.w H s.heap a (.lst vs) from I.hok a _ h1)
    exact ⟨_, lk e, nt "list" (by decide)⟩
  | tup ds =>
    obtain ⟨a, vs, rfl, h1, _⟩ := hy.b.tup i
    obtain rfl : u = Value.ref a := ry
    obtain ⟨_, _, _, o, e, e2, _⟩ := (show ObjOk X.prog X.w H s.heap a (.tup vs) from I.hok a _ h1)
    exact ⟨_, lk e, by rw [e2]; exact nt "tuple" (by decide)⟩
  | obj c' ds =>
    obtain ⟨a, dx, fs, rfl, hc', h1, _⟩ := hy.objU i
    obtain rfl : u = Value.ref a := ry
    obtain ⟨od, J, e⟩ := inst_at I h1
    refine ⟨.ref (T.cls c'), J.type, ?_⟩
    unfold PySem.W.notFirst
    by_cases e1 : c = c'
    · subst e1
      simp
    · rw [lib.sub c c' hc hc' e1]
      simp
  | cls n => exact absurd rfl (h n)
  | scr n => exact absurd rfl (h2 n)
theorem val_ne {d : D} (h : d.val = true) : (∀ n, d ≠ .cls n) ∧ (∀ n, d ≠ .scr n) := ⟨fun n e => (by rw [e] at h; cases h), fun n e => (by rw [e] at h; cases h)⟩
/-- a comparison by the left side's own method -/
theorem cmp_objL (o : OpC X T W k dn) {m : Dn} {op : CmpOp} (hm : m.ms = [false, false]) (hnm : (cmpInfo op).2.1 = m.nm) {pins : List (Addr × Obj)} {s : Shared} {σ : L2.St} {H Hf : Hp} {c : Nat} {xs : List D} {v y : V} {va u : Value} {dy : D} {Q : QR} {Xq : QX} {Qv : VK}
    (I : Inv X pins σ H s) (i : Ex Hf H) (rx : RelV v va) (hx : Rep T X.K Hf (.obj c xs) v) (ry : RelV y u) (hy : Rep T X.K Hf dy y) (xo : XOk T X.K W σ Hf H Xq) (kt : ∀ v Hf' H' r, Step Hf H Hf' H' → Res T X.K Hf' H' H v r → Q r → Qv v H') (q : objL dn m c xs dy Q Xq)
    (h1 : ∀ n, dy ≠ .cls n) (h2 : ∀ n, dy ≠ .scr n) : wpAny (model X.prog X.w) X.A (richCompare op va u) (EP X pins σ Qv) X.xe s := by
  obtain ⟨a, dx, fs, rfl, hc, hH, _⟩ := hx.objU i
  obtain rfl : va = Value.ref a := rx
  obtain ⟨f, _, g1, g2, g3⟩ := objCall o hm I i hx ry hy xo kt q
  obtain ⟨od, J, _⟩ := inst_at I hH
  obtain ⟨tb, l1, l2⟩ := ty_of o.lib hc I i ry hy h1 h2
  rw [← hnm] at g1
  exact PySem.W.vl_rcLeft o.r.units0 I.kIn J l1 l2 (PySem.W.vl_tryCmp I.kIn J g1 g2 (thn g3 fun v s' ⟨w', H', I', r', q'⟩ => cmpback r' ⟨w', H', I', r', q'⟩))

theorem cmpOf {op : CmpOp} {va u : Value} {A : Around} {E : Value → Shared → Prop} {Q : Value → Shared → Prop} {s : Shared} (h1 : compareOp op va u = richCompare op va u) (h : wpAny (model X.prog X.w) A (richCompare op va u) Q E s) : wpAny (model X.prog X.w) A (compareOp op va u) Q E s := by
  rw [h1]
  exact h
theorem opv_ord (o : OpC X T W k dn) {m : Dn} {op : CmpOp} {p : Int → Int → Bool} (hm : m.ms = [false, false]) (hnm : (cmpInfo op).2.1 = m.nm) (hop : ∀ a b, compareOp op a b = richCompare op a b) (hI : OpR X (compareOp op) (rI0 fun i j => .bl (p i j))) : OpV X T W (compareOp op) (opOrd dn m p) := by
  intro pins s σ H Hf x y u v dx dy Q Xq Qv I rx ry i hx hy xo kt q
  unfold opOrd at q
  split at q
  · unfold Rep at hx hy
    subst hx hy
    exact useR hI I rx ry ⟨_, _, rfl, rfl, kt _ Hf H (.fz (.bl _)) (Step.refl i) (by unfold Res Rep; rfl) q⟩
  · rename_i c xs c' ys
    obtain ⟨e, q⟩ := q
    subst e
    exact cmpOf (hop _ _) (cmp_objL o hm hnm I i rx hx ry hy xo kt q (fun n e => by cases e) (fun n e => by cases e))
  · exact q.elim
theorem opv_lt (o : OpC X T W k dn) : OpV X T W (compareOp .Lt) (opLt dn) := opv_ord o rfl (by decide +kernel) (fun _ _ => rfl) op_lt
theorem opv_le (o : OpC X T W k dn) : OpV X T W (compareOp .LtE) (opLe dn) := opv_ord o rfl (by decide +kernel) (fun _ _ => rfl) op_le
theorem opv_gt (o : OpC X T W k dn) : OpV X T W (compareOp .Gt) (opGt dn) := opv_ord o rfl (by decide +kernel) (fun _ _ => rfl) op_gt
theorem opv_ge (o : OpC X T W k dn) : OpV X T W (compareOp .GtE) (opGe dn) := opv_ord o rfl (by decide +kernel) (fun _ _ => rfl) op_ge

/-- a truth value is handed back -/
theorem bl_kt {pins : List (Addr × Obj)} {σ : L2.St} {H Hf : Hp} {Q : QR} {Qv : VK} (kt : ∀ v Hf' H' r, Step Hf H Hf' H' → Res T X.K Hf' H' H v r → Q r → Qv v H') :
    ∀ v Hf' H' r, Step Hf H Hf' H' → Res T X.K Hf' H' H v r → QR.bl Q r → Qv v H' := fun v Hf' H' r S rs q => by
  cases r with
  | own ds => exact q.elim
  | fz d =>
    cases d with
    | bl b => exact kt v Hf' H' (.fz (.bl b)) S rs q
    | _ => exact q.elim
/-- .. turned -/
theorem neg_kt {Hf H : Hp} {Q : QR} {Qv : VK} (kt : ∀ v Hf' H' r, Step Hf H Hf' H' → Res T X.K Hf' H' H v r → Q r → Qv v H') :
    ∀ v Hf' H' r, Step Hf H Hf' H' → Res T X.K Hf' H' H v r → QR.neg Q r → ∃ b, v = .bl b ∧ Qv (.bl (!b)) H' := fun v Hf' H' r S rs q => by
  cases r with
  | own ds => exact q.elim
  | fz d =>
    cases d with
    | bl b => exact ⟨b, res_bl rs rfl, kt _ Hf' H' (.fz (.bl (!b))) S (by unfold Res Rep; rfl) q⟩
    | _ => exact q.elim
theorem opv_eq (o : OpC X T W k dn) : OpV X T W (compareOp .Eq) (opEq dn) := by
  intro pins s σ H Hf x y u v dx dy Q Xq Qv I rx ry i hx hy xo kt q
  unfold opEq at q
  split at q
  · exact cmpOf rfl (cmp_objL o rfl (by decide +kernel) I i rx hx ry hy xo (bl_kt (pins := pins) (σ := σ) kt) q.2 (val_ne q.1).1 (val_ne q.1).2)
  · rename_i j c xs
    unfold Rep at hx
    subst hx
    obtain ⟨t, rfl⟩ := rx
    obtain ⟨a, dx, fs, rfl, hc, hH, _⟩ := hy.objU i
    obtain rfl : v = Value.ref a := ry
    obtain ⟨f, _, g1, g2, g3⟩ := objCall o (m := .eq) rfl (y := .int j) (u := .int j t) I i hy ⟨t, rfl⟩ (by unfold Rep; rfl) xo (bl_kt (pins := pins) (σ := σ) kt) q
    obtain ⟨od, J, hO⟩ := inst_at I hH
    refine cmpOf rfl (PySem.W.vl_rcRight (op := .Eq) o.r.units0 I.kIn J (o.lib.cl c hc).subI F.slot_int_eq ?_ (PySem.W.vl_tryCmp I.kIn J g1 g2 (thn g3 fun v s' ⟨w', H', I', r', q'⟩ => cmpback r' ⟨w', H', I', r', q'⟩)))
    exact call_meets F.slot_int_eq (typeIs_int s j t) F.entry_int_eq (F.args_int_eq_2 _ _) (vl_int_eq j t a (T.cls c) dx) ⟨hO, rfl, rfl⟩
  · exact opb_eqF o.r.units pins s σ H Hf x y u v dx dy Q Xq Qv I rx ry i hx.b hy.b xo kt q
theorem opv_ne (o : OpC X T W k dn) : OpV X T W (compareOp .NotEq) (opNe dn) := by
  intro pins s σ H Hf x y u v dx dy Q Xq Qv I rx ry i hx hy xo kt q
  have hu : X.A.units + 1 < cLine := hu_of o.r
  unfold opNe at q
  split at q
  · rename_i y' c xs
    obtain ⟨a, dx, fs, rfl, hc, hH, _⟩ := hx.objU i
    obtain rfl : u = Value.ref a := rx
    have cf := o.lib.cl c hc
    obtain ⟨f, _, g1, g2, g3⟩ := objCall1i o (m := .eq) rfl I i hx ry hy xo (neg_kt kt) q.2
    obtain ⟨od, J, _⟩ := inst_at I hH
    obtain ⟨tb, l1, l2⟩ := ty_of o.lib hc I i ry hy (val_ne q.1).1 (val_ne q.1).2
    refine cmpOf rfl (PySem.W.vl_rcLeft (op := .NotEq) o.r.units0 I.kIn J l1 l2 (PySem.W.vl_tryNe I.kIn J cf.ne cf.hm g1 g2 hu (thn g3 fun v s' ⟨w', H', I', r', b, e, q'⟩ => ?_)))
    subst e
    obtain rfl : v = Value.bool b := r'
    exact ⟨b, rfl, .bl (!b), H', I', rfl, q'⟩
  · rename_i j c xs
    unfold Rep at hx
    subst hx
    obtain ⟨t, rfl⟩ := rx
    obtain ⟨a, dx, fs, rfl, hc, hH, _⟩ := hy.objU i
    obtain rfl : v = Value.ref a := ry
    have cf := o.lib.cl c hc
    obtain ⟨f, _, g1, g2, g3⟩ := objCall1i o (m := .eq) rfl (y := .int j) (u := .int j t) I i hy ⟨t, rfl⟩ (by unfold Rep; rfl) xo (neg_kt kt) q
    obtain ⟨od, J, hO⟩ := inst_at I hH
    refine cmpOf rfl (PySem.W.vl_rcRight (op := .NotEq) o.r.units0 I.kIn J cf.subI F.slot_int_ne ?_ (PySem.W.vl_tryNe I.kIn J cf.ne cf.hm g1 g2 hu (thn g3 fun v s' ⟨w', H', I', r', b, e, q'⟩ => ?_)))
    · exact call_meets F.slot_int_ne (typeIs_int s j t) F.entry_int_ne (F.args_int_ne_2 _ _) (vl_int_ne j t a (T.cls c) dx) ⟨hO, rfl, rfl⟩
    · subst e
      obtain rfl : v = Value.bool b := r'
      exact ⟨b, rfl, .bl (!b), H', I', rfl, q'⟩
  · exact opb_neF o.r.units pins s σ H Hf x y u v dx dy Q Xq Qv I rx ry i hx.b hy.b xo kt q
end
end VL
end
section
set_option Elab.async false
set_option linter.all false
set_option maxRecDepth 100000
set_option maxHeartbeats 4000000
/-! VLs6: is, in; tests, and, or, not; conditional expressions. -/
namespace VL
open PySem PySem.Spec PyProof.Rows L2
section
variable {X : Cx} {T : Tab} {W : WX} {z : Hd} {k : Nat} {dn : Dun}
theorem isB_other {M : Model} {A : Around} {E : Value → Shared → Prop} {s : Shared} {u : Value} {b : Bool} {Q : Value → Shared → Prop} (hu : plainIs u (.bool b) = true) (hne : u ≠ .bool b) (h : Q (.bool false) s) : wpAny M A (compareOp .Is u (.bool b)) Q E s := wpAny_is_other hu hne h
theorem opb_is : OpB X T W (compareOp .Is) opIs := by
  intro pins s σ H Hf x y u v dx dy Q Xq Qv I rx ry i hx hy xo kt q
  unfold opIs at q
  cases dy with
  | non =>
    rw [hy.non] at ry
    obtain rfl : v = Value.none := ry
    have fin : ∀ (c : Bool), Q (.fz (.bl c)) → c = (u == Value.none) → wpAny (model X.prog X.w) X.A (compareOp .Is u .none) (EP X pins σ Qv) X.xe s := fun c q e => is_none_gen (by rw [← e]; exact endB I i kt q)
    have nn : ∀ {a : Addr}, x = .ref a → (u == Value.none) = false := fun e => by
      subst e
      obtain rfl : u = Value.ref _ := rx
      rfl
    cases dx with
    | non => rw [hx.non] at rx; obtain rfl : u = Value.none := rx; exact fin true q rfl
    | bl b => rw [hx.bl] at rx; obtain rfl : u = Value.bool b := rx; exact fin false q rfl
    | int b => rw [hx.int] at rx; obtain ⟨t, rfl⟩ := rx; exact fin false q rfl
    | str b => rw [hx.str] at rx; obtain ⟨t, rfl⟩ := rx; exact fin false q rfl
    | lst ds =>
      obtain ⟨a, _, e, _⟩ := hx.lst i
      exact fin false q (nn e).symm
    | tup ds =>
      obtain ⟨a, _, e, _⟩ := hx.tup i
      exact fin false q (nn e).symm
    | obj c ds =>
      obtain ⟨a, e⟩ : ∃ a, x = .ref a := by
        rcases hx with (hx | ⟨_, _, _, e, _⟩) | ⟨a, _, _, _, _, _, e, _⟩
        · obtain ⟨a, _, _, e, _⟩ := hx.objU i
          exact ⟨a, e⟩
        · cases e
        · exact ⟨a, e⟩
      exact fin false q (nn e).symm
    | cls n =>
      obtain ⟨a, e⟩ : ∃ a, x = .ref a := by
        rcases hx with (hx | ⟨_, _, _, e, _⟩) | ⟨a, _, _, _, _, _, e, _⟩
        · unfold Rep at hx
          exact ⟨_, hx⟩
        · cases e
        · exact ⟨a, e⟩
      exact fin false q (nn e).symm
    | scr n =>
      obtain ⟨a, e⟩ : ∃ a, x = .ref a := by
        rcases hx with (hx | ⟨_, _, _, e, _⟩) | ⟨a, _, _, _, _, _, e, _⟩
        · unfold Rep at hx
          obtain ⟨a, e, _⟩ := hx
          exact ⟨a, e⟩
        · cases e
        · exact ⟨a, e⟩
      exact fin false q (nn e).symm
  | bl b =>
    rw [hy.bl] at ry
    obtain rfl : v = Value.bool b := ry
    have nn : ∀ {a : Addr}, x = .ref a → Q (.fz (.bl false)) → wpAny (model X.prog X.w) X.A (compareOp .Is u (.bool b)) (EP X pins σ Qv) X.xe s := fun e q => by
      subst e
      obtain rfl : u = Value.ref _ := rx
      exact isB_other rfl (fun e => by cases e) (endB I i kt q)
    cases dx with
    | non => rw [hx.non] at rx; obtain rfl : u = Value.none := rx; exact isB_other rfl (fun e => by cases e) (endB I i kt q)
    | bl a =>
      rw [hx.bl] at rx
      obtain rfl : u = Value.bool a := rx
      by_cases e : a = b
      · subst e
        exact wpAny_is_self rfl (endB I i kt (by simpa using q))
      · exact isB_other rfl (fun z => e (Value.bool.inj z)) (endB I i kt (by have q : Q (.fz (.bl (a == b))) := q; rw [beq_eq_false_iff_ne.mpr e] at q; exact q))
    | int b => rw [hx.int] at rx; obtain ⟨t, rfl⟩ := rx; exact isB_other rfl (fun e => by cases e) (endB I i kt q)
    | str b => rw [hx.str] at rx; obtain ⟨t, rfl⟩ := rx; exact isB_other rfl (fun e => by cases e) (endB I i kt q)
    | lst ds =>
      obtain ⟨a, _, e, _⟩ := hx.lst i
      exact nn e q
    | tup ds =>
      obtain ⟨a, _, e, _⟩ := hx.tup i
      exact nn e q
    | obj c ds =>
      obtain ⟨a, e⟩ : ∃ a, x = .ref a := by
        rcases hx with (hx | ⟨_, _, _, e, _⟩) | ⟨a, _, _, _, _, _, e, _⟩
        · obtain ⟨a, _, _, e, _⟩ := hx.objU i
          exact ⟨a, e⟩
        · cases e
        · exact ⟨a, e⟩
      exact nn e q
    | cls n => exact q.elim
    | scr n => exact q.elim
  | _ => exact q.elim
theorem isNot_of {M : Model} {A : Around} {E : Value → Shared → Prop} {s : Shared} {a b : Value} {Q : Value → Shared → Prop} (h : wpAny M A (compareOp .Is a b) (fun v s' => ∃ c, v = .bool c ∧ Q (.bool (!c)) s') E s) : wpAny M A (compareOp .IsNot a b) Q E s := by
  have e : compareOp .IsNot a b = (compareOp .Is a b >>= fun v => match v with | .bool c => pure (.bool (!c)) | v => pure v) := by
    show (isSame a b >>= fun r => pure (Value.bool (!r))) = ((isSame a b >>= fun r => pure (Value.bool r)) >>= _)
    rw [bind_assoc]
    simp only [pure_bind]
  rw [e]
  refine wpAny_bind (wpAny_mono h (fun v s' ⟨c, e, q⟩ => ?_) fun _ _ x => x)
  subst e
  exact wpAny_pure q
theorem opb_isNot : OpB X T W (compareOp .IsNot) opIsNot := by
  intro pins s σ H Hf x y u v dx dy Q Xq Qv I rx ry i hx hy xo kt q
  refine isNot_of (thn (opb_is pins s σ H Hf x y u v dx dy (QR.neg Q) Xq (fun w H' => ∃ b, w = .bl b ∧ Qv (.bl (!b)) H') I rx ry i hx hy xo (neg_kt kt) q) fun v' s' ⟨w, H', I', r', b, e, q'⟩ => ?_)
  subst e
  obtain rfl : v' = Value.bool b := r'
  exact ⟨b, rfl, .bl (!b), H', I', rfl, q'⟩

/-! ### in -/
theorem atom_flat {K : PySem.W.Frag} {Hf : Hp} {d : D} {v : V} (h : d.atom = true) (r : Rep T K Hf d v) : flatV v = true := by
  cases d <;> first | (unfold Rep at r; subst r; rfl) | cases h
theorem atoms_flat {K : PySem.W.Frag} {Hf : Hp} : ∀ {ds : List D} {vs : List V}, ds.all D.atom = true → RepL T K Hf ds vs → vs.all flatV = true
  | [], vs, _, r => by rw [repL_nil.mp r]; rfl
  | d :: ds, vs, h, r => by
    obtain ⟨v, w, rfl, r1, r2⟩ := repL_cons.mp r
    rw [List.all_cons, Bool.and_eq_true] at h
    rw [List.all_cons, atom_flat h.1 r1, atoms_flat h.2 r2]
    rfl
theorem eqV_of {K : PySem.W.Frag} {Hf : Hp} {d e : D} {v w : V} (hd : d.atom = true) (he : e.atom = true) (r : Rep T K Hf d v) (q : Rep T K Hf e w) : eqV v w = D.eqv d e := by
  cases d <;> cases e <;> first | (unfold Rep at r q; subst r; subst q; rfl) | exact absurd hd Bool.false_ne_true | exact absurd he Bool.false_ne_true
theorem inV_of {K : PySem.W.Frag} {Hf : Hp} {d : D} {v : V} (hd : d.atom = true) (r : Rep T K Hf d v) : ∀ {ds : List D} {vs : List V}, ds.all D.atom = true → RepL T K Hf ds vs → inV v vs = memD d ds
  | [], vs, _, q => by rw [repL_nil.mp q]; rfl
  | e :: ds, vs, h, q => by
    obtain ⟨w, w', rfl, r1, r2⟩ := repL_cons.mp q
    rw [List.all_cons, Bool.and_eq_true] at h
    unfold inV memD
    rw [List.any_cons, List.any_cons, eqV_of h.1 hd r1 r]
    have := inV_of hd r h.2 r2
    unfold inV memD at this
    rw [this]
theorem atom_rep {K : PySem.W.Frag} {Hf H : Hp} {d : D} {v : V} (h : d.atom = true) (r : BRep T K Hf H d v) : Rep T K Hf d v := by
  rcases r with (r | ⟨_, _, _, rfl, _⟩) | ⟨_, _, _, _, _, rfl, _⟩
  · exact r
  · cases h
  · cases h
theorem opb_inF : OpB X T W (compareOp .In) opInF := by
  intro pins s σ H Hf x y u v dx dy Q Xq Qv I rx ry i hx hy xo kt q
  unfold opInF at q
  split at q
  · obtain ⟨⟨h1, h2⟩, q⟩ := q
    obtain ⟨a, vs, rfl, e1, e2⟩ := hy.lst i
    have rd := atom_rep h1 hx
    refine useR op_in_seq I rx ry ⟨a, vs, rfl, .inl (SqL.of e1), atom_flat h1 rd, atoms_flat h2 e2, ?_⟩
    exact kt _ Hf H (.fz (.bl _)) (Step.refl i) (by unfold Res Rep; rw [← inV_of h1 rd h2 e2]; rfl) q
  · obtain ⟨⟨h1, h2⟩, q⟩ := q
    obtain ⟨a, vs, rfl, e1, e2⟩ := hy.tup i
    have rd := atom_rep h1 hx
    refine useR op_in_seq I rx ry ⟨a, vs, rfl, .inr (SqT.of e1), atom_flat h1 rd, atoms_flat h2 e2, ?_⟩
    exact kt _ Hf H (.fz (.bl _)) (Step.refl i) (by unfold Res Rep; rw [← inV_of h1 rd h2 e2]; rfl) q
  · exact q.elim
theorem notIn_of {M : Model} {A : Around} {E : Value → Shared → Prop} {s : Shared} {a b : Value} {Q : Value → Shared → Prop} (h : wpAny M A (compareOp .In a b) (fun v s' => ∃ c, v = .bool c ∧ Q (.bool (!c)) s') E s) : wpAny M A (compareOp .NotIn a b) Q E s := by
  have e : compareOp .NotIn a b = (compareOp .In a b >>= fun v => match v with | .bool c => pure (.bool (!c)) | v => pure v) := by
    show (contains b a >>= fun r => pure (Value.bool (!r))) = ((contains b a >>= fun r => pure (Value.bool r)) >>= _)
    rw [bind_assoc]
    simp only [pure_bind]
  rw [e]
  refine wpAny_bind (wpAny_mono h (fun v s' ⟨c, e, q⟩ => ?_) fun _ _ x => x)
  subst e
  exact wpAny_pure q
theorem opb_notInF : OpB X T W (compareOp .NotIn) opNotInF := by
  intro pins s σ H Hf x y u v dx dy Q Xq Qv I rx ry i hx hy xo kt q
  refine notIn_of (thn (opb_inF pins s σ H Hf x y u v dx dy (QR.neg Q) Xq (fun w H' => ∃ b, w = .bl b ∧ Qv (.bl (!b)) H') I rx ry i hx hy xo (neg_kt kt) q) fun v' s' ⟨w, H', I', r', b, e, q'⟩ => ?_)
  subst e
  obtain rfl : v' = Value.bool b := r'
  exact ⟨b, rfl, .bl (!b), H', I', rfl, q'⟩
theorem opv_in (o : OpC X T W k dn) : OpV X T W (compareOp .In) (opIn dn) := by
  intro pins s σ H Hf x y u v dx dy Q Xq Qv I rx ry i hx hy xo kt q
  unfold opIn at q
  split at q
  · exact opb_inF pins s σ H Hf x y u v dx _ Q Xq Qv I rx ry i hx.b hy.b xo kt q
  · exact opb_inF pins s σ H Hf x y u v dx _ Q Xq Qv I rx ry i hx.b hy.b xo kt q
  · split at q
    · obtain ⟨c1, e1, q⟩ := q
      subst e1
      unfold Rep at hx hy
      exact useR op_in_sign I rx ry ⟨_, _, hx, hy, kt _ Hf H (.fz (.bl _)) (Step.refl i) (by unfold Res Rep; rfl) q⟩
    · exact q.elim
  · rename_i c xs
    obtain ⟨a, dx', fs, rfl, hc, hH, _⟩ := hy.objU i
    obtain rfl : v = Value.ref a := ry
    obtain ⟨f, _, g1, g2, g3⟩ := objCall o (m := .contains) rfl I i hy rx hx xo (kt := fun v Hf' H' r S rs (q : QR.bl Q r) => (show ∃ b, v = .bl b ∧ Qv (.bl b) H' from by
      cases r with
      | own ds => exact q.elim
      | fz d =>
        cases d with
        | bl b => exact ⟨b, res_bl rs rfl, (by have e := res_bl rs rfl; rw [← e]; exact kt _ Hf' H' (.fz (.bl b)) S rs q)⟩
        | _ => exact q.elim)) q
    obtain ⟨od, J, _⟩ := inst_at I hH
    obtain ⟨m, fr⟩ := I.fr
    refine PySem.W.in_K fr I.ok.mod.kin J g1 g2 (thn g3 fun v s' ⟨w', H', I', r', b, e, q'⟩ => ?_)
    subst e
    obtain rfl : v = Value.bool b := r'
    exact wpAny_truthy_bool ⟨.bl b, H', I', rfl, q'⟩
  · exact q.elim
theorem opv_notIn (o : OpC X T W k dn) : OpV X T W (compareOp .NotIn) (opNotIn dn) := by
  intro pins s σ H Hf x y u v dx dy Q Xq Qv I rx ry i hx hy xo kt q
  refine notIn_of (thn (opv_in o pins s σ H Hf x y u v dx dy (QR.neg Q) Xq (fun w H' => ∃ b, w = .bl b ∧ Qv (.bl (!b)) H') I rx ry i hx hy xo (neg_kt kt) q) fun v' s' ⟨w, H', I', r', b, e, q'⟩ => ?_)
  subst e
  obtain rfl : v' = Value.bool b := r'
  exact ⟨b, rfl, .bl (!b), H', I', rfl, q'⟩
end
end VL
end
section
set_option Elab.async false
set_option linter.all false
set_option maxRecDepth 100000
set_option maxHeartbeats 4000000
/-! VLs7: tests, and, or, not; arguments, displays, calls of defs. -/
namespace VL
open PySem PySem.Spec PyProof.Rows L2
section
variable {X : Cx} {T : Tab} {W : WX} {z : Hd} {k : Nat} {dn : Dun} {e a b c o : Expr} {t ta tb tc : EW} {u v : BW} {p q : TW} {pos : Pos} {rest : List Expr}
theorem res_b {Hf' H' H : Hp} {w : V} {r : R} {d : D} (h : Res T X.K Hf' H' H w r) (e : r.d = d) (i : Ex Hf' H') : BRep T X.K Hf' H' d w := by
  cases r with
  | fz d' =>
    cases e
    exact (show Rep T X.K Hf' _ w from h).b
  | own ds =>
    cases e
    obtain ⟨a, vs, e1, e2, e3, e4, e5⟩ := h
    exact .inl (.inr ⟨a, vs, ds, rfl, e1, e4, e5⟩)
theorem Step.trans' {Hf H Hf1 H1 Hf2 H2 : Hp} (a : Step Hf H Hf1 H1) (b : Step Hf1 H1 Hf2 H2) : Step Hf H Hf2 H2 := a.trans b
theorem trul {ds : List D} {vs : List V} {Hf : Hp} (r : RepL T X.K Hf ds vs) : (!vs.isEmpty) = !ds.isEmpty := by
  cases ds with
  | nil => rw [repL_nil.mp r]; rfl
  | cons d ds =>
    obtain ⟨w, s, rfl, _⟩ := repL_cons.mp r
    rfl
theorem truV_of {Hf H : Hp} {d : D} {w : V} {b : Bool} (i : Ex Hf H) (h : BRep T X.K Hf H d w) (e : tru d = some b) (sh : d.short) : TruV X.K w H b := by
  cases d with
  | non => rw [h.non]; cases e; rfl
  | bl c => rw [h.bl]; cases e; rfl
  | int c => rw [h.int]; cases e; rfl
  | str c =>
    rw [h.str]
    cases e
    exact ⟨by rw [sizeLine_eq]; exact sh, rfl⟩
  | lst ds =>
    obtain ⟨a, vs, rfl, e1, e2⟩ := h.lst i
    cases e
    exact .inl ⟨vs, SqL.of e1, (trul e2).symm⟩
  | tup ds =>
    obtain ⟨a, vs, rfl, e1, e2⟩ := h.tup i
    cases e
    exact .inr (.inl ⟨vs, SqT.of e1, (trul e2).symm⟩)
  | obj _ _ => cases e
  | cls _ => cases e
  | scr _ => cases e
/-- a value's truth as a test -/
theorem vt_ofB (h : VB X T W z a u) (he : ∀ whole, isTrue a X.env whole = (do let v ← whole; standAt a.pos; holding [v] (truthy v)) := by intro _; rfl) : VT X T W z a (cOfB u) :=
  PT.imp (pt_truth h he) fun σ H Qb ⟨H0, Hf, δ, Q, Xq, st, xo, kt, q⟩ =>
    ⟨H0, Hf, δ, _, Xq, st, xo, fun w Hf' H' d S r (hq : match tru d with | some b => d.short ∧ Q b | none => False) => by
      cases e : tru d with
      | none => rw [e] at hq; exact hq.elim
      | some b =>
        rw [e] at hq
        exact ⟨b, truV_of S.i r e hq.1, kt b Hf' H' S hq.2⟩, q⟩
theorem vt_of (h : VE X T W z a t) (he : ∀ whole, isTrue a X.env whole = (do let v ← whole; standAt a.pos; holding [v] (truthy v)) := by intro _; rfl) : VT X T W z a (cOf t) := vt_ofB h.toB he
theorem kt_bl {Hf H : Hp} {Q : Bool → Prop} {Qb : Bool → Hp → Prop} {K : PySem.W.Frag} (kt : ∀ b Hf' H', Step Hf H Hf' H' → Q b → Qb b H') :
    ∀ v Hf' H' r, Step Hf H Hf' H' → Res T K Hf' H' H v r → (match r.d with | .bl b => Q b | _ => False) → ∃ b, v = .bl b ∧ Qb b H' := fun v Hf' H' r S rs q => by
  cases r with
  | own ds => exact q.elim
  | fz d =>
    cases d with
    | bl b => exact ⟨b, res_bl rs rfl, kt b Hf' H' S q⟩
    | _ => exact q.elim
theorem vt_cmp {op : CmpOp} {w2 : Op2} (ho : OpV X T W (compareOp op) w2) (ha : VE X T W z a ta) (hb : VE X T W z b tb) (hm : behindInMarks op b = false) : VT X T W z (.Compare a [op] [b] pos) (cBl (wBin w2 ta tb)) :=
  ⟨fun pins s σ H Qb I ⟨H0, Hf, δ, Q, Xq, st, xo, k, q⟩ => wpAny_isTrue_Compare1 (VD.two (Q := fun _ => True) (R := fun _ _ _ _ _ _ => True) (Q2 := fun d e => w2 d e (fun r => match r.d with | .bl b => Q b | _ => False) Xq) ha.toD hb.toD I st xo q fun va ub s2 x y H2 Hf2 d e I2 rx ry S r1 r2 q2 =>
    thn (ho pins s2 σ H2 Hf2 x y va ub d e _ Xq _ I2 rx ry S.i r1 r2 (xo.step S) (kt_bl fun b Hf' H' S' q' => k b Hf' H' (S.trans S') q') q2) fun v' s3 ⟨w', H3, I3, r3, b, e3, q3⟩ => by
      subst e3
      cases r3
      exact wpAny_truthy_bool ⟨H3, I3, q3⟩) hm⟩
theorem vt_cmpB {op : CmpOp} {w2 : Op2} (ho : OpB X T W (compareOp op) w2) (ha : VB X T W z a u) (hb : VB X T W z b v) (hm : behindInMarks op b = false) : VT X T W z (.Compare a [op] [b] pos) (cBl (wBinB w2 u v)) :=
  ⟨fun pins s σ H Qb I ⟨H0, Hf, δ, Q, Xq, st, xo, k, q⟩ => wpAny_isTrue_Compare1 (VB.two (R := fun _ _ _ _ _ _ => True) (Q2 := fun d e => w2 d e (fun r => match r.d with | .bl b => Q b | _ => False) Xq) ha hb I st xo q fun va ub s2 x y H2 Hf2 d e I2 rx ry S r1 r2 q2 =>
    thn (ho pins s2 σ H2 Hf2 x y va ub d e _ Xq _ I2 rx ry S.i r1 r2 (xo.step S) (kt_bl fun b Hf' H' S' q' => k b Hf' H' (S.trans S') q') q2) fun v' s3 ⟨w', H3, I3, r3, b, e3, q3⟩ => by
      subst e3
      cases r3
      exact wpAny_truthy_bool ⟨H3, I3, q3⟩) hm⟩
theorem VD.one {pins : List (Addr × Obj)} {s : Shared} {σ : L2.St} {H H0 Hf : Hp} {δ : Fr} {Xq : QX} {Q2 : D → Prop} (ha : VD X T W z a u) (I : Inv X pins σ H s) (st : StOk T X.K z H0 Hf H σ δ) (xo : XOk T X.K W σ Hf H Xq) (q : u δ Q2 Xq) :
    wpAny (model X.prog X.w) X.A (eval a X.env) (fun va s1 => ∃ x H1 Hf1 d, Inv X pins σ H1 s1 ∧ RelV x va ∧ Step Hf H Hf1 H1 ∧ Rep T X.K Hf1 d x ∧ Q2 d) X.xe s :=
  thn (ha.run pins s σ H (fun x H1 => ∃ Hf1 d, Step Hf H Hf1 H1 ∧ Rep T X.K Hf1 d x ∧ Q2 d) I ⟨H0, Hf, δ, _, Xq, st, xo, fun x Hf1 H1 d S rp hq => ⟨Hf1, d, S, rp, hq⟩, q⟩) fun va s1 ⟨x, H1, I1, r1, Hf1, d, S1, rp1, q1⟩ => ⟨x, H1, Hf1, d, I1, r1, S1, rp1, q1⟩
/-- the reading of a truth value -/
def qBl (C : Bool → Prop) : QR := fun r => match r.d with
  | .bl b => C b
  | _ => False
theorem kt_blS {Hf H : Hp} {C : Bool → Prop} {K : PySem.W.Frag} : ∀ v Hf' H' r, Step Hf H Hf' H' → Res T K Hf' H' H v r → qBl C r → ∃ b Hf2, v = .bl b ∧ Step Hf H Hf2 H' ∧ C b := fun v Hf' H' r S rs q => by
  cases r with
  | own ds => exact q.elim
  | fz d =>
    cases d with
    | bl b => exact ⟨b, Hf', res_bl rs rfl, S, q⟩
    | _ => exact q.elim
theorem ve_chain {op op' : CmpOp} {w2 w2' : Op2} (ho : OpV X T W (compareOp op) w2) (ho' : OpV X T W (compareOp op') w2') (ha : VE X T W z a ta) (hb : VE X T W z b tb) (hc : VE X T W z c tc) (hm : lastMarks [op, op'] [b, c] = false := by with_unfolding_all rfl) :
    VE X T W z (.Compare a [op, op'] [b, c] pos) (wChain w2 w2' ta tb tc) := by
  refine ⟨fun pins s σ H Qv I ⟨H0, Hf, δ, Q, Xq, st, xo, k, q⟩ => ?_⟩
  refine Compare_chain (thn (ha.toD.one (Q2 := fun d => bOf tb δ (fun e => w2 d e (qBl fun b => if b = true then bOf tc δ (fun u => w2' e u Q Xq) Xq else Q (.fz (.bl false))) Xq) Xq) I st xo q) fun va s1 ⟨x, H1, Hf1, d, I1, r1, S1, p1, q1⟩ => ?_) hm
  refine chain_link (thn (hb.toD.one (Q2 := fun e => w2 d e (qBl fun b => if b = true then bOf tc δ (fun u => w2' e u Q Xq) Xq else Q (.fz (.bl false))) Xq) I1 (st.step S1) (xo.step S1) q1) fun vb s2 ⟨y, H2, Hf2, e, I2, r2, S2, p2, q2⟩ => ?_)
  have S12 := S1.trans S2
  refine thn (ho pins s2 σ H2 Hf2 x y va vb d e _ Xq (fun v H' => ∃ b Hf3, v = .bl b ∧ Step Hf2 H2 Hf3 H' ∧ if b = true then bOf tc δ (fun u => w2' e u Q Xq) Xq else Q (.fz (.bl false))) I2 r1 r2 S2.i (p1.mono S2.f) p2 (xo.step S12) kt_blS q2) fun v' s3 ⟨w', H3, I3, r3, b, Hf3, e3, S3, q3⟩ => ?_
  subst e3
  cases r3
  refine wpAny_truthy_bool ?_
  have S13 := S12.trans S3
  cases b with
  | false => exact ite_ff ⟨.bl false, H3, I3, rfl, k _ Hf3 H3 (.fz (.bl false)) S13 (by unfold Res Rep; rfl) q3⟩
  | true =>
    refine ite_tt (chain_last (thn (hc.toD.one (Q2 := fun u => w2' e u Q Xq) I3 (st.step S13) (xo.step S13) q3) fun vc s4 ⟨y4, H4, Hf4, d4, I4, r4, S4, p4, q4⟩ => ?_))
    have S14 := S13.trans S4
    exact ho' pins s4 σ H4 Hf4 y y4 vb vc e d4 Q Xq Qv I4 r2 r4 S4.i (p2.mono (S3.f.trans S4.f)) p4 (xo.step S14) (kont k S14) q4
theorem vt_chain {op op' : CmpOp} {w2 w2' : Op2} (ho : OpV X T W (compareOp op) w2) (ho' : OpV X T W (compareOp op') w2') (ha : VE X T W z a ta) (hb : VE X T W z b tb) (hc : VE X T W z c tc) (hm : lastMarks [op, op'] [b, c] = false := by with_unfolding_all rfl) :
    VT X T W z (.Compare a [op, op'] [b, c] pos) (cBl (wChain w2 w2' ta tb tc)) := by
  refine ⟨fun pins s σ H Qb I ⟨H0, Hf, δ, Qz, Xq, st, xo, k, q⟩ => ?_⟩
  refine isTrue_chain (thn (ha.toD.one (Q2 := fun d => bOf tb δ (fun e => w2 d e (qBl fun b => if b = true then bOf tc δ (fun u => w2' e u (qBl Qz) Xq) Xq else Qz false) Xq) Xq) I st xo q) fun va s1 ⟨x, H1, Hf1, d, I1, r1, S1, p1, q1⟩ => ?_) hm
  refine test_link (thn (hb.toD.one (Q2 := fun e => w2 d e (qBl fun b => if b = true then bOf tc δ (fun u => w2' e u (qBl Qz) Xq) Xq else Qz false) Xq) I1 (st.step S1) (xo.step S1) q1) fun vb s2 ⟨y, H2, Hf2, e, I2, r2, S2, p2, q2⟩ => ?_)
  have S12 := S1.trans S2
  refine thn (ho pins s2 σ H2 Hf2 x y va vb d e _ Xq (fun v H' => ∃ b Hf3, v = .bl b ∧ Step Hf2 H2 Hf3 H' ∧ if b = true then bOf tc δ (fun u => w2' e u (qBl Qz) Xq) Xq else Qz false) I2 r1 r2 S2.i (p1.mono S2.f) p2 (xo.step S12) kt_blS q2) fun v' s3 ⟨w', H3, I3, r3, b, Hf3, e3, S3, q3⟩ => ?_
  subst e3
  cases r3
  refine wpAny_truthy_bool ?_
  have S13 := S12.trans S3
  cases b with
  | false => exact ite_ff ⟨H3, I3, k false Hf3 H3 S13 q3⟩
  | true =>
    refine ite_tt (test_last (thn (hc.toD.one (Q2 := fun u => w2' e u (qBl Qz) Xq) I3 (st.step S13) (xo.step S13) q3) fun vc s4 ⟨y4, H4, Hf4, d4, I4, r4, S4, p4, q4⟩ => ?_))
    have S14 := S13.trans S4
    refine thn (ho' pins s4 σ H4 Hf4 y y4 vb vc e d4 _ Xq (fun v H' => ∃ b, v = .bl b ∧ Qb b H') I4 r2 r4 S4.i (p2.mono (S3.f.trans S4.f)) p4 (xo.step S14) (kt_bl fun b Hf' H' S' q' => k b Hf' H' (S14.trans S') q') q4) fun v5 s5 ⟨w5, H5, I5, r5, b, e5, q5⟩ => ?_
    subst e5
    cases r5
    exact wpAny_truthy_bool ⟨H5, I5, q5⟩
/-! ### and, or, not -/
theorem vw_one (h : VT X T W z a p) : VW X T W z (.BoolOp .And [a] pos) p := pw_and1 h
theorem vw_one' (h : VT X T W z a p) : VW X T W z (.BoolOp .Or [a] pos) p := pw_or1 h
theorem vw_and (ha : VT X T W z a p) (hb : VW X T W z (.BoolOp .And (b :: rest) pos) q) : VW X T W z (.BoolOp .And (a :: b :: rest) pos) (cAnd p q) := PW.imp (pw_and ha hb) fun σ H Qb ⟨H0, Hf, δ, Q, Xq, st, xo, kt, qq⟩ =>
  ⟨H0, Hf, δ, _, Xq, st, xo, fun b Hf' H' S (hq : if b = true then q δ Q Xq else Q false) => by
    cases b with
    | true => exact ⟨H0, Hf', δ, Q, Xq, st.step S, xo.step S, fun b Hf2 H2 S2 q2 => kt b Hf2 H2 (S.trans S2) q2, hq⟩
    | false => exact kt false Hf' H' S hq, qq⟩
theorem vw_or (ha : VT X T W z a p) (hb : VW X T W z (.BoolOp .Or (b :: rest) pos) q) : VW X T W z (.BoolOp .Or (a :: b :: rest) pos) (cOr p q) := PW.imp (pw_or ha hb) fun σ H Qb ⟨H0, Hf, δ, Q, Xq, st, xo, kt, qq⟩ =>
  ⟨H0, Hf, δ, _, Xq, st, xo, fun b Hf' H' S (hq : if b = true then Q true else q δ Q Xq) => by
    cases b with
    | false => exact ⟨H0, Hf', δ, Q, Xq, st.step S, xo.step S, fun b Hf2 H2 S2 q2 => kt b Hf2 H2 (S.trans S2) q2, hq⟩
    | true => exact kt true Hf' H' S hq, qq⟩
theorem vt_not (ha : VT X T W z a p) : VT X T W z (.UnaryOp .Not a pos) (cNot p) := PT.imp (pt_not ha) fun σ H Qb ⟨H0, Hf, δ, Q, Xq, st, xo, kt, qq⟩ =>
  ⟨H0, Hf, δ, _, Xq, st, xo, fun b Hf' H' S hq => kt _ Hf' H' S hq, qq⟩
theorem vt_w (h : VW X T W z a p) : VT X T W z a p := h.pt
theorem ve_one {op} (h : VE X T W z a t) : VE X T W z (.BoolOp op [a] pos) t := pe_one h
/-- a reading's value that is a truth value -/
theorem res_blD {Hf' H' H : Hp} {w : V} {r : R} {C : Bool → Prop} (h : Res T X.K Hf' H' H w r) (q : match r.d with | .bl b => C b | _ => False) : ∃ b, w = .bl b ∧ C b := by
  cases r with
  | own ds => exact q.elim
  | fz d =>
    cases d with
    | bl b => exact ⟨b, res_bl h rfl, q⟩
    | _ => exact q.elim
theorem ve_and (ha : VE X T W z a ta) (hb : VE X T W z (.BoolOp .And (b :: rest) pos) tb) : VE X T W z (.BoolOp .And (a :: b :: rest) pos) (wAnd ta tb) := PE.imp (pe_and ha hb) fun σ H Qv ⟨H0, Hf, δ, Q, Xq, st, xo, kt, qq⟩ =>
  ⟨H0, Hf, δ, _, Xq, st, xo, fun w Hf' H' r S rs (hq : match r.d with | .bl b => if b = true then tb δ Q Xq else Q (.fz (.bl false)) | _ => False) => by
    obtain ⟨b, e, hq⟩ := res_blD (C := fun b => if b = true then tb δ Q Xq else Q (.fz (.bl false))) rs hq
    refine ⟨b, e, ?_⟩
    cases b with
    | true => exact ⟨H0, Hf', δ, Q, Xq, st.step S, xo.step S, kont kt S, hq⟩
    | false => exact kt _ Hf' H' (.fz (.bl false)) S (by unfold Res Rep; rfl) hq, qq⟩
theorem ve_or (ha : VE X T W z a ta) (hb : VE X T W z (.BoolOp .Or (b :: rest) pos) tb) : VE X T W z (.BoolOp .Or (a :: b :: rest) pos) (wOr ta tb) := PE.imp (pe_or ha hb) fun σ H Qv ⟨H0, Hf, δ, Q, Xq, st, xo, kt, qq⟩ =>
  ⟨H0, Hf, δ, _, Xq, st, xo, fun w Hf' H' r S rs (hq : match r.d with | .bl b => if b = true then Q (.fz (.bl true)) else tb δ Q Xq | _ => False) => by
    obtain ⟨b, e, hq⟩ := res_blD (C := fun b => if b = true then Q (.fz (.bl true)) else tb δ Q Xq) rs hq
    refine ⟨b, e, ?_⟩
    cases b with
    | false => exact ⟨H0, Hf', δ, Q, Xq, st.step S, xo.step S, kont kt S, hq⟩
    | true => exact kt _ Hf' H' (.fz (.bl true)) S (by unfold Res Rep; rfl) hq, qq⟩
theorem ve_not (ha : VE X T W z a ta) : VE X T W z (.UnaryOp .Not a pos) (wNot ta) := PE.imp (pe_not ha) fun σ H Qv ⟨H0, Hf, δ, Q, Xq, st, xo, kt, qq⟩ =>
  ⟨H0, Hf, δ, _, Xq, st, xo, fun w Hf' H' r S rs (hq : match r.d with | .bl b => Q (.fz (.bl (!b))) | _ => False) => by
    obtain ⟨b, e, hq⟩ := res_blD (C := fun b => Q (.fz (.bl (!b)))) rs hq
    exact ⟨b, e, kt _ Hf' H' (.fz (.bl (!b))) S (by unfold Res Rep; rfl) hq⟩, qq⟩
theorem ve_ite (hc : VT X T W z c p) (ha : VE X T W z a ta) (hb : VE X T W z b tb) : VE X T W z (.IfExp c a b pos) (wIte p ta tb) := PE.imp (pe_ifExp hc ha hb) fun σ H Qv ⟨H0, Hf, δ, Q, Xq, st, xo, kt, qq⟩ =>
  ⟨H0, Hf, δ, _, Xq, st, xo, fun b Hf' H' S (hq : if b = true then ta δ Q Xq else tb δ Q Xq) => by
    cases b with
    | true => exact ⟨H0, Hf', δ, Q, Xq, st.step S, xo.step S, kont kt S, hq⟩
    | false => exact ⟨H0, Hf', δ, Q, Xq, st.step S, xo.step S, kont kt S, hq⟩, qq⟩
/-! ### arguments -/
variable {es : List Expr} {ms : List Bool} {ar : AW}
theorem va_nil : VA X T W z [] [] aNil := PA.imp pa_nil fun σ H Qa ⟨H0, Hf, δ, Q, Xq, st, xo, kt, qq⟩ => kt [] Hf H [] (Step.refl st.i) ⟨rfl, rfl⟩ qq
theorem va_cons (ha : VE X T W z e ta) (hr : VA X T W z ms es ar) (hs : starEach (e :: es) X.env = (false, eval e X.env) :: starEach es X.env := by rfl) : VA X T W z (false :: ms) (e :: es) (aCons ta ar) := PA.imp (pa_cons ha.toD hr hs) fun σ H Qa ⟨H0, Hf, δ, Q, Xq, st, xo, kt, qq⟩ =>
  ⟨H0, Hf, δ, _, Xq, st, xo, fun w Hf' H' d S r (hq : ar δ (fun ds => Q (d :: ds)) Xq) =>
    ⟨H0, Hf', δ, _, Xq, st.step S, xo.step S, fun vs Hf2 H2 ds S2 r2 q2 => kt (w :: vs) Hf2 H2 (d :: ds) (S.trans S2) ⟨d, ds, w, vs, rfl, rfl, r.mono S2.f, r2⟩ q2, hq⟩, qq⟩
theorem va_consB (ha : VB X T W z e u) (hr : VA X T W z ms es ar) (hs : starEach (e :: es) X.env = (false, eval e X.env) :: starEach es X.env := by rfl) : VA X T W z (true :: ms) (e :: es) (aConsB u ar) := PA.imp (pa_cons ha hr hs) fun σ H Qa ⟨H0, Hf, δ, Q, Xq, st, xo, kt, qq⟩ =>
  ⟨H0, Hf, δ, _, Xq, st, xo, fun w Hf' H' d S r (hq : (seqOf d).isSome = true ∧ ar δ (fun ds => Q (d :: ds)) Xq) =>
    ⟨H0, Hf', δ, _, Xq, st.step S, xo.step S, fun vs Hf2 H2 ds S2 r2 q2 => kt (w :: vs) Hf2 H2 (d :: ds) (S.trans S2) ⟨d, ds, w, vs, rfl, rfl, (by
      rcases r with r | ⟨_, _, _, _, _, rfl, _⟩
      · exact r.step S2
      · exact absurd hq.1 Bool.false_ne_true), r2⟩ q2, hq.2⟩, qq⟩
/-- all frozen -/
def allF : List Bool → Bool
  | [] => true
  | m :: ms => !m && allF ms
theorem ArgsOk.rep {Hf H : Hp} : ∀ {ms : List Bool} {ds : List D} {vs : List V}, allF ms = true → ArgsOk T X.K Hf H ms ds vs → RepL T X.K Hf ds vs
  | [], ds, vs, _, h => by
    obtain ⟨rfl, rfl⟩ := h
    exact RepL.nil
  | true :: ms, ds, vs, e, h => absurd e Bool.false_ne_true
  | false :: ms, ds, vs, e, h => by
    obtain ⟨d, dr, v, vr, rfl, rfl, e3, e4⟩ := h
    exact RepL.cons e3 (ArgsOk.rep (ms := ms) e e4)
theorem ve_tup {x1} (h : VA X T W z ms es ar) (hm : allF ms = true := by rfl) (hl : ms.length ≤ 16777216 := by decide) : VE X T W z (.Tuple es x1 pos) (wTup ar) := PE.imp (pe_tup h) fun σ H Qv ⟨H0, Hf, δ, Q, Xq, st, xo, kt, qq⟩ =>
  ⟨H0, Hf, δ, _, Xq, st, xo, fun vs Hf' H' ds S r hq => ⟨by rw [r.len.2, sizeLine_eq]; exact hl, fun p hp =>
    kt _ (upd Hf' p (.tup vs)) _ (.fz (.tup ds)) (S.trans (Step.new S.i hp)) (by
      unfold Res Rep
      exact ⟨p, vs, rfl, upd_same, (r.rep hm).mono (Ex.new (S.i.fresh hp))⟩) hq⟩, qq⟩
theorem ve_lst (h : VA X T W z ms es ar) (hm : allF ms = true := by rfl) (hl : ms.length ≤ 16777216 := by decide) : VE X T W z (.List es pos) (wLst ar) := PE.imp (pe_lst h) fun σ H Qv ⟨H0, Hf, δ, Q, Xq, st, xo, kt, qq⟩ =>
  ⟨H0, Hf, δ, _, Xq, st, xo, fun vs Hf' H' ds S r hq => ⟨by rw [r.len.2, sizeLine_eq]; exact hl, fun p hp =>
    kt _ Hf' _ (.own ds) (S.trans (Step.newH S.i hp)) ⟨p, vs, rfl, S.i.fresh hp, S.h.fresh hp, upd_same, r.rep hm⟩ hq⟩, qq⟩
/-! ### calls -/
variable {x m : Str} {p0 apos : Pos} {dv : List D} {sp : FS} {f : Addr}
theorem ve_call (F : FnV X.prog X.w X.K X.mg X.base T k f ms dv sp) (hr : Room k X.A) (tk : Takes X W) (hg : Gl X x) (hm : X.mg x = some (.ref f)) (ha : VA X T W z ms (e :: es) ar) (hdb : (x == ("__debug__" : Str)) = false := by decide)
    (he : starEach (e :: es) X.env = (false, eval e X.env) :: starEach es X.env := by rfl) (hpl : (backTo pos (starEach es X.env)).any (·.1) = false := by rfl) : VE X T W z (.Call (.Name x p0) (e :: es) [] pos) (wCall sp dv ar) := by
  refine ⟨fun pins s σ H Qv I ⟨H0, Hf, δ, Q, Xq, st, xo, kt, qq⟩ => ?_⟩
  refine wpAny_Call_Name_kw (ld_glob I hg hm ?_ hdb)
  refine PySem.W.callWith_K (h₀ := X.base) I.ok.mod.kin F.kp (thn (ha.run pos pins s σ H (fun vs H' => ∃ Hf' ds, Step Hf H Hf' H' ∧ ArgsOk T X.K Hf' H' ms ds vs ∧ sp (ds ++ dv) Q Xq) I ⟨H0, Hf, δ, _, Xq, st, xo, fun vs Hf' H' ds S r q => ⟨Hf', ds, S, r, q⟩, qq⟩) fun us s1 ⟨vs, H1, I1, r, Hf1, ds, S, ra, q⟩ => ⟨I1.kIn, ?_⟩) he hpl
  exact callV F hr tk I1 r S.i ra (xo.step S) (kont kt S) q
theorem ve_call0 (F : FnV X.prog X.w X.K X.mg X.base T k f [] dv sp) (hr : Room k X.A) (tk : Takes X W) (hg : Gl X x) (hm : X.mg x = some (.ref f)) (hdb : (x == ("__debug__" : Str)) = false := by decide) : VE X T W z (.Call (.Name x p0) [] [] pos) (wCall sp dv aNil) := by
  refine ⟨fun pins s σ H Qv I ⟨H0, Hf, δ, Q, Xq, st, xo, kt, qq⟩ => ?_⟩
  refine wpAny_Call_Name_kw (ld_glob I hg hm ?_ hdb)
  exact PySem.W.callWith_K0 I.kIn F.kp (callV F hr tk (us := []) (vs := []) (ds := []) I .nil st.i ⟨rfl, rfl⟩ xo kt qq)
end
end VL
end
section
set_option Elab.async false
set_option linter.all false
set_option maxRecDepth 100000
set_option maxHeartbeats 4000000
/-! VLs8: attributes, constants of a class, properties, methods, new instances. -/
namespace VL
open PySem PySem.Spec PyProof.Rows L2
theorem lookup_of {fs : List (Str × V)} : ∀ {i : Nat} {f : Str} {v : V}, (fs.map (·.1)).Nodup → (fs.map (·.1))[i]? = some f → (fs.map (·.2))[i]? = some v → fs.lookup f = some v := by
  induction fs with
  | nil => intro i f v _ h; simp at h
  | cons p fs ih =>
    obtain ⟨g, w⟩ := p
    intro i f v nd h1 h2
    simp only [List.map_cons, List.nodup_cons] at nd
    cases i with
    | zero =>
      simp at h1 h2
      subst h1 h2
      simp
    | succ i =>
      simp at h1 h2
      have hm : f ∈ fs.map (·.1) := by
        obtain ⟨a, ha⟩ := h1
        exact List.mem_map.mpr ⟨(f, a), List.mem_of_getElem? ha, rfl⟩
      have hne : f ≠ g := fun e => nd.1 (by rw [← e]; exact hm)
      rw [List.lookup_cons]
      have : (f == g) = false := beq_eq_false_iff_ne.mpr hne
      rw [this]
      exact ih nd.2 (by simpa using h1) (by simpa using h2)
theorem lookup_no {fs : List (Str × V)} {f : Str} (h : f ∉ fs.map (·.1)) : fs.lookup f = none := by
  induction fs with
  | nil => rfl
  | cons p fs ih =>
    obtain ⟨g, w⟩ := p
    simp only [List.map_cons, List.mem_cons, not_or] at h
    rw [List.lookup_cons, beq_eq_false_iff_ne.mpr h.1]
    exact ih h.2
/-- a reading of the table -/
theorem lookup_mem {α : Type} {tb : List (Nat × α)} {c : Nat} {i : α} (h : tb.lookup c = some i) : (c, i) ∈ tb := by
  induction tb with
  | nil => cases h
  | cons p tb ih =>
    obtain ⟨d, j⟩ := p
    rw [List.lookup_cons] at h
    cases e : (c == d) with
    | true =>
      rw [e] at h
      cases h
      rw [beq_iff_eq.mp e]
      exact List.mem_cons_self
    | false =>
      rw [e] at h
      exact List.mem_cons_of_mem _ (ih h)
section
variable {T : Tab} {K : PySem.W.Frag} {Hf H : Hp}
/-- an instance, whole or being made -/
theorem BRep.obj {c : Nat} {xs : List D} {v : V} (i : Ex Hf H) (h : BRep T K Hf H (.obj c xs) v) : ∃ a dx fs n, v = .ref a ∧ c < T.n ∧ H a = some (.ins (T.cls c) dx fs) ∧ fs.map (·.1) = (T.flds c).take n ∧ RepL T K Hf xs (fs.map (·.2)) := by
  rcases h with (h | ⟨_, _, _, e, _⟩) | ⟨a, dx, fs, c', ds, e, e1, e2, e3, e4, e5⟩
  · obtain ⟨a, dx, fs, e1, e2, e3, e4, e5⟩ := h.objU i
    exact ⟨a, dx, fs, (T.flds c).length, e1, e2, e3, by rw [List.take_length]; exact e4, e5⟩
  · cases e
  · cases e
    exact ⟨a, dx, fs, _, e1, e2, e3, e4, e5⟩
end
section
variable {X : Cx} {T : Tab} {W : WX} {z : Hd} {k : Nat} {e o : Expr} {t : EW} {u : BW} {ar : AW} {ms : List Bool} {es : List Expr} {f x m : Str} {pos p0 apos : Pos} {dv : List D} {sp : FS} {c : Nat}
theorem ve_fld {tb : List (Nat × Nat)} (lib : Lib T X.K) (he : VB X T W z e u) (ht : tb.all (fun p => (T.flds p.1)[p.2]? == some f) = true := by rfl) (hb : attributeBase e f X.env (eval e X.env) = eval e X.env := by rfl) : VE X T W z (.Attribute e f pos) (wFld tb u) := by
  refine ⟨fun pins s σ H Qv I ⟨H0, Hf, δ, Q, Xq, st, xo, kt, q⟩ => ?_⟩
  refine attr_of hb (thn (he.run pins s σ H (fun w H' => ∃ Hf' d, Step Hf H Hf' H' ∧ BRep T X.K Hf' H' d w ∧ (match d with | .obj c xs => (match tb.lookup c with | some i => (match xs[i]? with | some v => Q (.fz v) | none => False) | none => False) | _ => False)) I
    ⟨H0, Hf, δ, _, Xq, st, xo, fun w Hf' H' d S r hq => ⟨Hf', d, S, r, hq⟩, q⟩) fun va s1 ⟨w, H1, I1, rw1, Hf1, d, S, r, hq⟩ => ?_)
  cases d with
  | obj c xs =>
    obtain ⟨a, dx, fs, n, rfl, hc, e1, e2, e3⟩ := r.obj S.i
    obtain rfl : va = Value.ref a := rw1
    simp only [] at hq
    cases l : tb.lookup c with
    | none => rw [l] at hq; exact hq.elim
    | some i =>
      rw [l] at hq
      simp only [] at hq
      cases g : xs[i]? with
      | none => rw [g] at hq; exact hq.elim
      | some d =>
        rw [g] at hq
        obtain ⟨v, g1, g2⟩ := e3.getD g
        have hf : (T.flds c)[i]? = some f := by
          have := List.all_eq_true.mp ht _ (lookup_mem l)
          exact beq_iff_eq.mp this
        have hi : i < (fs.map (·.1)).length := by
          have := (List.getElem?_eq_some_iff.mp g1).1
          simpa using this
        have hf2 : (fs.map (·.1))[i]? = some f := by
          rw [e2] at hi ⊢
          rw [List.getElem?_take]
          have : i < n := by
            have := List.length_take_le n (T.flds c)
            omega
          rw [if_pos this]
          exact hf
        have nd : (fs.map (·.1)).Nodup := by
          rw [e2]
          exact (List.take_sublist _ _).nodup (lib.nd c hc)
        exact getattr_ok I1 e1 (lib.cl c hc).cl (lib.na c hc f (List.mem_of_getElem? hf)) (lookup_of nd hf2 g1) fun u' s2 I2 ru => ⟨v, H1, I2, ru, kt v Hf1 H1 (.fz d) S g2 hq⟩
  | _ => exact hq.elim
/-- a constant of the class -/
structure ConF (T : Tab) (K : PySem.W.Frag) (f : Str) (p : Nat × D) : Prop where
  con : ∃ v u, Con K (T.cls p.1) f v u ∧ ∀ Hf, Rep T K Hf p.2 v
  nf : f ∉ T.flds p.1
theorem ve_con {tb : List (Nat × D)} (lib : Lib T X.K) (he : VB X T W z e u) (ht : ∀ p ∈ tb, ConF T X.K f p) (hb : attributeBase e f X.env (eval e X.env) = eval e X.env := by rfl) : VE X T W z (.Attribute e f pos) (wCon tb u) := by
  refine ⟨fun pins s σ H Qv I ⟨H0, Hf, δ, Q, Xq, st, xo, kt, q⟩ => ?_⟩
  refine attr_of hb (thn (he.run pins s σ H (fun w H' => ∃ Hf' d, Step Hf H Hf' H' ∧ BRep T X.K Hf' H' d w ∧ (match d with | .obj c xs => (match tb.lookup c with | some v => Q (.fz v) | none => False) | _ => False)) I
    ⟨H0, Hf, δ, _, Xq, st, xo, fun w Hf' H' d S r hq => ⟨Hf', d, S, r, hq⟩, q⟩) fun va s1 ⟨w, H1, I1, rw1, Hf1, d, S, r, hq⟩ => ?_)
  cases d with
  | obj c xs =>
    obtain ⟨a, dx, fs, n, rfl, hc, e1, e2, e3⟩ := r.obj S.i
    obtain rfl : va = Value.ref a := rw1
    simp only [] at hq
    cases l : tb.lookup c with
    | none => rw [l] at hq; exact hq.elim
    | some d =>
      rw [l] at hq
      obtain ⟨⟨v, u, cn, rp⟩, nf⟩ := ht _ (lookup_mem l)
      refine getcon_ok I1 e1 (lib.cl c hc).cl cn (lookup_no ?_) fun s2 I2 => ⟨v, H1, I2, cn.rel, kt v Hf1 H1 (.fz d) S (rp _) hq⟩
      rw [e2]
      exact fun h => nf (List.mem_of_mem_take h)
  | _ => exact hq.elim
/-! ### properties, methods -/
theorem ve_prop {p g : Addr} (lib : Lib T X.K) (he : VE X T W z e t) (hp : PropOf X.K (T.cls c) f p g) (F : FnV X.prog X.w X.K X.mg X.base T k g [false] [] sp) (hr : Room (k + 1) X.A) (hb : attributeBase e f X.env (eval e X.env) = eval e X.env := by rfl) :
    VE X T W z (.Attribute e f pos) (wProp c sp t) := by
  refine ⟨fun pins s σ H Qv I ⟨H0, Hf, δ, Q, Xq, st, xo, kt, q⟩ => ?_⟩
  refine attr_of hb (thn (he.toD.one (Q2 := fun d => match d with | .obj c' xs => c' = c ∧ sp [.obj c' xs] Q (fun _ => False) | _ => False) I st xo q) fun va s1 ⟨w, H1, Hf1, d, I1, r1, S, rp, hq⟩ => ?_)
  cases d with
  | obj c' xs =>
    obtain ⟨rfl, hq⟩ := hq
    obtain ⟨a, dx, fs, rfl, hc, e1, e2, e3⟩ := rp.objU S.i
    obtain rfl : va = Value.ref a := r1
    obtain ⟨fd, ps, des, dvs, G, b, rd, hd⟩ := F.ex
    have hdv : dvs = [] := repL_nil.mp (hd Hf1)
    subst hdv
    cases rd
    refine getprop_ok (Q := Qv) (E := fun _ _ _ => False) I1 e1 (lib.cl c' hc).cl hp G hr b .nil (fun _ _ _ _ _ _ _ cx => ?_) ?_
    · obtain ⟨_, _, _, _, _, _, _, _, _, _, _, _, f⟩ := cx
      exact f
    · exact ⟨Hf1, [.obj c' xs], Q, fun _ => False, S.i, ⟨_, _, _, _, rfl, rfl, rp, rfl, rfl⟩, kont kt S, fun _ _ _ _ _ _ _ f => f.elim, hq⟩
  | _ => exact hq.elim
/-- a method of the class: name not a field -/
structure MethF (T : Tab) (K : PySem.W.Frag) (c : Nat) (m : Str) (g : Addr) : Prop where
  me : Meth K (T.cls c) m g
  nf : m ∉ T.flds c
theorem ve_meth {g : Addr} {pl : Sem Bool} (lib : Lib T X.K) (ho : VE X T W z o t) (hm : MethF T X.K c m g) (F : FnV X.prog X.w X.K X.mg X.base T k g (false :: ms) dv sp) (hr : Room k X.A) (tk : Takes X W) (ha : VA X T W z ms (e :: es) ar)
    (hst : starEach (e :: es) X.env = (false, eval e X.env) :: starEach es X.env := by rfl) (hpl : (backTo pos (starEach es X.env)).any (·.1) = false := by rfl)
    (ht : eval (.Call (.Attribute o m apos) (e :: es) [] pos) X.env = (do
      let ov ← eval o X.env
      standAt apos.atName
      let (f, first) ← holding [ov] (getMethod ov m pl)
      callWith pos f first (backTo pos (starEach (e :: es) X.env)) (backToKw pos (keywordEach [] X.env))) := by rfl) :
    VE X T W z (.Call (.Attribute o m apos) (e :: es) [] pos) (wMeth c sp dv t ar) := by
  refine ⟨fun pins s σ H Qv I ⟨H0, Hf, δ, Q, Xq, st, xo, kt, q⟩ => ?_⟩
  refine PySem.W.methodCall_KW (pl := pl) (thn (ho.toD.one (Q2 := fun d => match d with | .obj c' xs => c' = c ∧ ar δ (fun ds => sp (.obj c' xs :: (ds ++ dv)) Q Xq) Xq | _ => False) I st xo q) fun va s1 ⟨w, H1, Hf1, d, I1, r1, S, rp, hq⟩ => ?_) ht
  cases d with
  | obj c' xs =>
    obtain ⟨rfl, hq⟩ := hq
    obtain ⟨a, dx, fs, rfl, hc, e1, e2, e3⟩ := rp.objU S.i
    obtain rfl : va = Value.ref a := r1
    refine getmeth_ok I1 e1 (lib.cl c' hc).cl hm.me (lookup_no (by rw [e2]; exact hm.nf)) ?_
    refine PySem.W.callWith_K (first := [.ref a]) (h₀ := X.base) I.ok.mod.kin hm.me.kp (thn (ha.run pos pins s1 σ H1 (fun vs H' => ∃ Hf' ds, Step Hf1 H1 Hf' H' ∧ ArgsOk T X.K Hf' H' ms ds vs ∧ sp (.obj c' xs :: (ds ++ dv)) Q Xq) I1
      ⟨H0, Hf1, δ, _, Xq, st.step S, xo.step S, fun vs Hf' H' ds S r q => ⟨Hf', ds, S, r, q⟩, hq⟩) fun us s2 ⟨vs, H2, I2, r, Hf2, ds, S2, ra, q⟩ => ⟨I2.kIn, ?_⟩) hst hpl
    exact callV F hr tk (us := .ref a :: us) (vs := .ref a :: vs) (ds := .obj c' xs :: ds) I2 (.cons rfl r) S2.i ⟨_, _, _, _, rfl, rfl, rp.mono S2.f, ra⟩ (xo.step (S.trans S2)) (kont kt (S.trans S2)) q
  | _ => exact hq.elim
theorem ve_meth0 {g : Addr} {pl : Sem Bool} (lib : Lib T X.K) (ho : VE X T W z o t) (hm : MethF T X.K c m g) (F : FnV X.prog X.w X.K X.mg X.base T k g [false] dv sp) (hr : Room k X.A) (tk : Takes X W)
    (ht : eval (.Call (.Attribute o m apos) [] [] pos) X.env = (do
      let ov ← eval o X.env
      standAt apos.atName
      let (f, first) ← holding [ov] (getMethod ov m pl)
      callWith pos f first (backTo pos (starEach [] X.env)) (backToKw pos (keywordEach [] X.env))) := by rfl) :
    VE X T W z (.Call (.Attribute o m apos) [] [] pos) (wMeth c sp dv t aNil) := by
  refine ⟨fun pins s σ H Qv I ⟨H0, Hf, δ, Q, Xq, st, xo, kt, q⟩ => ?_⟩
  refine PySem.W.methodCall_KW (pl := pl) (thn (ho.toD.one (Q2 := fun d => match d with | .obj c' xs => c' = c ∧ sp (.obj c' xs :: ([] ++ dv)) Q Xq | _ => False) I st xo q) fun va s1 ⟨w, H1, Hf1, d, I1, r1, S, rp, hq⟩ => ?_) ht
  cases d with
  | obj c' xs =>
    obtain ⟨rfl, hq⟩ := hq
    obtain ⟨a, dx, fs, rfl, hc, e1, e2, e3⟩ := rp.objU S.i
    obtain rfl : va = Value.ref a := r1
    refine getmeth_ok I1 e1 (lib.cl c' hc).cl hm.me (lookup_no (by rw [e2]; exact hm.nf)) ?_
    exact PySem.W.callWith_K0 (first := [.ref a]) I1.kIn hm.me.kp (callV F hr tk (us := [.ref a]) (vs := [.ref a]) (ds := [.obj c' xs]) I1 (.cons rfl .nil) S.i ⟨_, _, _, _, rfl, rfl, rp, rfl, rfl⟩ (xo.step S) (kont kt S) hq)
  | _ => exact hq.elim
/-! ### new instances -/
end
/-- the promise of a class's __init__: H1 the heap ahead of the instance -/
def SpI (T : Tab) (K : PySem.W.Frag) (c : Nat) (ms : List Bool) (sp : FS) : Sp := fun vs H Qv E => ∃ Hf H1 a dx ds vs' Q X, vs = .ref a :: vs' ∧ H1 a = none ∧ H1 dx = none ∧ dx ≠ a ∧ H = upd (upd H1 dx (.own a)) a (.ins (T.cls c) dx []) ∧ Ex Hf H1 ∧ ArgsOk T K Hf H1 ms ds vs' ∧
  (∀ Hf' H' r, Step Hf H1 Hf' H' → Res T K Hf' H' H1 (.ref a) r → Q r → Qv .non H') ∧ (∀ x cls d Hf' H', Step Hf H1 Hf' H' → RepX T K Hf' cls d x → X x → E cls d H') ∧ sp ds Q X
structure MkV (P : Program) (w : World) (K : PySem.W.Frag) (mg : Str → Option Value) (base : Heap) (T : Tab) (k : Nat) (c : Nat) (ms : List Bool) (dv : List D) (sp : FS) : Prop where
  ex : ∃ (f : Addr) (fd : FuncData) (ps : List Str) (ds : List Value) (dvs : List V), Mk K (T.cls c) f ∧ FnOk P w K mg base (L2.CX P w) k f fd ps (SpI T K c (ms ++ List.replicate dv.length false) sp) ∧ Binds K fd ps ds ∧ Vals dvs ds ∧ ∀ H, RepL T K H dv dvs
  lt : c < T.n
  kp : PySem.W.keepIn K (.ref (T.cls c)) = true
section
variable {X : Cx} {T : Tab} {W : WX} {z : Hd} {k : Nat} {e o : Expr} {t : EW} {u : BW} {ar : AW} {ms : List Bool} {es : List Expr} {f x m : Str} {pos p0 apos : Pos} {dv : List D} {sp : FS} {c : Nat}
theorem run_makeSD {k : Nat} {f C : Addr} {fd : FuncData} {ps : List Str} {sp : Sp} {dvs : List V} {ds : List Value} {E : XK} {pins : List (Addr × Obj)} {σ : L2.St} {H : Hp} {s : Shared} {Q : VK} {us : List Value} {vs : List V} (M : Mk X.K C f) (F : FnOk X.prog X.w X.K X.mg X.base (L2.CX X.prog X.w) k f fd ps sp) (hr : Room (k + 1) X.A)
    (hb : Binds X.K fd ps ds) (hd : Vals dvs ds) (hx : PassesAt (L2.CX X.prog X.w) X σ E) (I : Inv X pins σ H s) (r : Vals vs us)
    (h : ∀ x dx, H x = none → H dx = none → dx ≠ x → sp (.ref x :: (vs ++ dvs)) (upd (upd H dx (.own x)) x (.ins C dx [])) (fun v H2 => v = .non ∧ Q (.ref x) H2) E) :
    wpAny (model X.prog X.w) X.A (call (.ref C) us) (EP X pins σ Q) X.xe s := by
  have hq := h (s.heap.objs.size + 1) s.heap.objs.size (I.hok.fresh (Nat.le_succ _)) (I.hok.fresh (Nat.le_refl _)) (Nat.ne_of_lt (Nat.lt_succ_self _))
  have I2 := Inv.made (C := C) I
  have r2 : Vals (V.ref (s.heap.objs.size + 1) :: (vs ++ dvs)) (Value.ref (s.heap.objs.size + 1) :: (us ++ ds)) := .cons rfl (r.append hd)
  have hl : (Value.ref (s.heap.objs.size + 1) :: us ++ ds).length = ps.length := by
    have e := r2.length
    rw [F.len _ _ _ _ hq] at e
    exact e.symm
  refine wpAny_call (make_map (f := f) I.kIn M.makes M.init (beq_iff_eq.mp M.fn) (codeAny_mono (F.run _ X.stack _ _ ⟨Value.ref (s.heap.objs.size + 1) :: us, []⟩ (Value.ref (s.heap.objs.size + 1) :: (us ++ ds)) _ _ E (hr.make C us [])
    (I2.env0.make C us []) (hb _ (Value.ref (s.heap.objs.size + 1) :: us) I2.kIn hl) r2 hq) fun r s' hq' => ?_))
  cases r with
  | error e => exact hx pins _ _ e s' I2 hq'
  | ok fl =>
    cases fl with
    | ret u =>
      obtain ⟨v, H', I3, rv, ev, q3⟩ := I2.after hq'
      subst ev
      exact ⟨rv, ⟨V.ref (s.heap.objs.size + 1), H', I3, rfl, q3⟩⟩
    | next => exact False.elim hq'
    | brk => exact False.elim hq'
    | cont => exact False.elim hq'
theorem makeV (M : MkV X.prog X.w X.K X.mg X.base T k c ms dv sp) (hr : Room (k + 1) X.A) (tk : Takes X W) {pins : List (Addr × Obj)} {s : Shared} {σ : L2.St} {H Hf : Hp} {vs : List V} {us : List Value} {ds : List D} {Q : QR} {Xq : QX} {Qv : VK}
    (I : Inv X pins σ H s) (r : Vals vs us) (i : Ex Hf H) (ha : ArgsOk T X.K Hf H ms ds vs) (xo : XOk T X.K W σ Hf H Xq) (kt : ∀ v Hf' H' r, Step Hf H Hf' H' → Res T X.K Hf' H' H v r → Q r → Qv v H') (q : sp (ds ++ dv) Q Xq) :
    wpAny (model X.prog X.w) X.A (call (.ref (T.cls c)) us) (EP X pins σ Qv) X.xe s := by
  obtain ⟨f, fd, ps, des, dvs, mk, G, b, rd, hd⟩ := M.ex
  refine run_makeSD mk G hr b rd (passAt tk σ) I r fun x dx h1 h2 h3 => ?_
  exact ⟨Hf, H, x, dx, ds ++ dv, vs ++ dvs, Q, Xq, rfl, h1, h2, h3, rfl, i, ha.append (ArgsOk.ofRep (hd Hf)), fun Hf' H' r S rs q => ⟨rfl, kt _ Hf' H' r S rs q⟩, fun x cls d Hf' H' S rx hx => xo x cls d Hf' H' S rx hx, q⟩
theorem ve_make (M : MkV X.prog X.w X.K X.mg X.base T k c ms dv sp) (hr : Room (k + 1) X.A) (tk : Takes X W) (hg : Gl X x) (hm : X.mg x = some (.ref (T.cls c))) (ha : VA X T W z ms (e :: es) ar) (hdb : (x == ("__debug__" : Str)) = false := by decide)
    (he : starEach (e :: es) X.env = (false, eval e X.env) :: starEach es X.env := by rfl) (hpl : (backTo pos (starEach es X.env)).any (·.1) = false := by rfl) : VE X T W z (.Call (.Name x p0) (e :: es) [] pos) (wCall sp dv ar) := by
  refine ⟨fun pins s σ H Qv I ⟨H0, Hf, δ, Q, Xq, st, xo, kt, qq⟩ => ?_⟩
  refine wpAny_Call_Name_kw (ld_glob I hg hm ?_ hdb)
  refine PySem.W.callWith_K (h₀ := X.base) I.ok.mod.kin M.kp (thn (ha.run pos pins s σ H (fun vs H' => ∃ Hf' ds, Step Hf H Hf' H' ∧ ArgsOk T X.K Hf' H' ms ds vs ∧ sp (ds ++ dv) Q Xq) I ⟨H0, Hf, δ, _, Xq, st, xo, fun vs Hf' H' ds S r q => ⟨Hf', ds, S, r, q⟩, qq⟩) fun us s1 ⟨vs, H1, I1, r, Hf1, ds, S, ra, q⟩ => ⟨I1.kIn, ?_⟩) he hpl
  exact makeV M hr tk I1 r S.i ra (xo.step S) (kont kt S) q
theorem ve_make0 (M : MkV X.prog X.w X.K X.mg X.base T k c [] dv sp) (hr : Room (k + 1) X.A) (tk : Takes X W) (hg : Gl X x) (hm : X.mg x = some (.ref (T.cls c))) (hdb : (x == ("__debug__" : Str)) = false := by decide) : VE X T W z (.Call (.Name x p0) [] [] pos) (wCall sp dv aNil) := by
  refine ⟨fun pins s σ H Qv I ⟨H0, Hf, δ, Q, Xq, st, xo, kt, qq⟩ => ?_⟩
  refine wpAny_Call_Name_kw (ld_glob I hg hm ?_ hdb)
  exact PySem.W.callWith_K0 I.kIn M.kp (makeV M hr tk (us := []) (vs := []) (ds := []) I .nil st.i ⟨rfl, rfl⟩ xo kt qq)
end
end VL
end
section
set_option Elab.async false
set_option linter.all false
set_option maxRecDepth 100000
set_option maxHeartbeats 4000000
/-! VLbi: abs, bool, str of an own instance. -/
namespace VL
open PySem PySem.Spec PyProof.Rows L2 PySem.Calls Builtin
section
variable {prog : Program} {w : World} {A : Around} {E : Value → Shared → Prop} {s : Shared} {K : PySem.W.Frag} {x C f : Addr} {ox : Obj} {od : Option Obj}
theorem abs_own {Q : Value → Shared → Prop} (X : K.In s.heap) (I : PySem.W.InstAt s.heap x ox C od) (hs : PySem.W.findIn K (.ref C) "__abs__" = some (some (.ref f))) (hf : PySem.W.isFn K (.ref f) = true)
    (h : wpAny (model prog w) A.in1 (call (.ref f) [.ref x]) Q E s) : wpAny (model prog w) A (call (.builtin "abs") [.ref x]) Q E s := by
  refine Calls.call_function_entry PyProof.Rows.kind_abs PyProof.Rows.plain_abs PyProof.Rows.entry_abs (PyProof.Rows.args_abs _) ?_
  unfold Builtin.«abs»
  refine wpAny_bind (m := oneArg "abs" _) (wpAny_pure ?_)
  refine wpAny_bind (m := callSpecial? (.ref x) (Str.ofString "__abs__")) (PySem.W.special_fn X I hs (beq_iff_eq.mp hf) (wpAny_mono h (fun r s' hr => ?_) fun _ _ y => y))
  exact wpAny_pure ⟨_, rfl, hr⟩
theorem bool_own {Q : Value → Shared → Prop} (X : K.In s.heap) (I : PySem.W.InstAt s.heap x ox C od) (hs : PySem.W.findIn K (.ref C) "__bool__" = some (some (.ref f))) (hf : PySem.W.isFn K (.ref f) = true)
    (h : wpAny (model prog w) A.in1.in1 (call (.ref f) [.ref x]) (fun r s₁ => ∃ b, r = Value.bool b ∧ Q r s₁) E s) : wpAny (model prog w) A (call (.type "bool") [.ref x]) Q E s := by
  refine callType_codes (T := "bool") (Bi := Builtin.«object.__init__») (Q₁ := fun r s₁ => ∃ b, r = Value.bool b ∧ Q r s₁) PySem.F.called_bool (PySem.F.typeCall_bool_1 _) PySem.F.entry_object_init ?_ ?_
  · refine codeAny_of_tree ?_
    show wpAny _ A.in1.in1 (do checkBuiltinCall "bool.__new__" ⟨[.type "bool", .ref x], []⟩; again (.builtin "bool.__new__" ⟨[.type "bool", .ref x], []⟩)) _ _ s
    refine wpAny_bind (wpAny_of_eq (PySem.F.newCall_bool_1 _) (wpAny_pure ⟨plainId_quiet (by decide +kernel) _, codeAny_builtin PySem.F.entry_bool_new ?_⟩))
    rw [Around.under_plainId (by decide +kernel) _]
    unfold Builtin.«bool.__new__»
    refine wpAny_bind (wpAny_of_eq (a := true) rfl ?_)
    refine PySem.W.KFB.if_not rfl ?_
    refine wpAny_bind (wpAny_of_eq (a := true) PySem.F.conv_sub_bool ?_)
    refine PySem.W.KFB.if_not rfl ?_
    refine wpAny_bind (wpAny_of_eq (a := [.ref x]) rfl ?_)
    refine wpAny_bind (m := truthy (.ref x)) ?_
    unfold truthy
    refine wpAny_bind (m := callSpecial? (.ref x) (Str.ofString "__bool__")) (PySem.W.special_fn X I hs (beq_iff_eq.mp hf) (wpAny_mono h (fun r s' hr => ?_) fun _ _ y => y))
    obtain ⟨b, rfl, hq⟩ := hr
    exact wpAny_pure (wpAny_pure ⟨_, rfl, hq⟩)
  · rintro obj s₁ ⟨b, rfl, hq⟩
    exact ⟨PySem.typeIs_bool _ _, PySem.F.args_object_init_2 _ _, object_init_meets PySem.F.called_bool.init.lookup PySem.F.called_bool.made (by decide) prog w A.in1 _ s₁ ⟨PySem.typeIs_bool _ _, rfl, hq⟩⟩
theorem strOf_own {Q : Value → Shared → Prop} (hu : A.units < cLine) (X : K.In s.heap) (I : PySem.W.InstAt s.heap x ox C od) (hs : PySem.W.findIn K (.ref C) "__str__" = some (some (.ref f))) (hf : PySem.W.isFn K (.ref f) = true)
    (h : wpAny (model prog w) A (call (.ref f) [.ref x]) (fun r s₁ => ∃ y t, r = Value.str y t ∧ Q r s₁) E s) : wpAny (model prog w) A (Builtin.Str.strOf (.ref x)) Q E s := by
  unfold Builtin.Str.strOf
  refine PySem.W.KFB.if_not rfl ?_
  refine wpAny_bind (wpAny_cRoomFor hu ?_)
  refine wpAny_bind (m := callSpecial? (.ref x) (Str.ofString "__str__")) (PySem.W.special_fn X I hs (beq_iff_eq.mp hf) (wpAny_mono h (fun r s' hr => ?_) fun _ _ y => y))
  obtain ⟨y, t, rfl, hq⟩ := hr
  first
    | exact wpAny_pure hq
    | exact wpAny_bind (wpAny_isInstance (typeIs_str _ _ _) isSubtype_str_str (by first | exact wpAny_pure hq | (rw [if_pos rfl]; exact wpAny_pure hq)))
theorem str_own {Q : Value → Shared → Prop} (hu : A.in1.in1.units < cLine) (X : K.In s.heap) (I : PySem.W.InstAt s.heap x ox C od) (hs : PySem.W.findIn K (.ref C) "__str__" = some (some (.ref f))) (hf : PySem.W.isFn K (.ref f) = true)
    (h : wpAny (model prog w) A.in1.in1 (call (.ref f) [.ref x]) (fun r s₁ => ∃ y t, r = Value.str y t ∧ Q r s₁) E s) : wpAny (model prog w) A (call (.type "str") [.ref x]) Q E s := by
  refine callType_codes (T := "str") (Bi := Builtin.«object.__init__») (Q₁ := fun r s₁ => ∃ y t, r = Value.str y t ∧ Q r s₁) PySem.F.called_str (PySem.F.typeCall_str_1 _) PySem.F.entry_object_init ?_ ?_
  · refine codeAny_of_tree ?_
    show wpAny _ A.in1.in1 (do checkBuiltinCall "str.__new__" ⟨[.type "str", .ref x], []⟩; again (.builtin "str.__new__" ⟨[.type "str", .ref x], []⟩)) _ _ s
    refine wpAny_bind (wpAny_of_eq (PySem.F.newCall_str_1 _) (wpAny_pure ⟨plainId_quiet (by decide +kernel) _, codeAny_builtin PySem.F.entry_str_new ?_⟩))
    rw [Around.under_plainId (by decide +kernel) _]
    rw [str_new_tree]
    refine wpAny_bind (wpAny_pure ?_)
    refine wpAny_bind (wpAny_of_eq isSubtype_str_str ?_)
    refine wpAny_bind (strOf_own hu X I hs hf (wpAny_mono h (fun r s' hr => ?_) fun _ _ y => y))
    obtain ⟨y, t, rfl, hq⟩ := hr
    exact ⟨y, t, rfl, wpAny_pure ⟨_, _, rfl, hq⟩⟩
  · rintro obj s₁ ⟨y, t, rfl, hq⟩
    exact ⟨typeIs_str _ _ _, PySem.F.args_object_init_2 _ _, object_init_meets PySem.F.called_str.init.lookup PySem.F.called_str.made (by decide) prog w A.in1 _ s₁ ⟨typeIs_str _ _ _, rfl, hq⟩⟩
end
end VL
end
section
set_option Elab.async false
set_option linter.all false
set_option maxRecDepth 100000
set_option maxHeartbeats 4000000
/-! VLs9: builtins, subscripts, slices. -/
namespace VL
open PySem PySem.Spec PyProof.Rows L2
def LRepL (T : Tab) (K : PySem.W.Frag) (Hf H : Hp) : List D → List V → Prop
  | [], vs => vs = []
  | d :: ds, vs => ∃ v r, vs = v :: r ∧ LRep T K Hf H d v ∧ LRepL T K Hf H ds r
theorem LRepL.step {T : Tab} {K : PySem.W.Frag} {Hf H Hf' H' : Hp} (S : Step Hf H Hf' H') : ∀ {ds : List D} {vs : List V}, LRepL T K Hf H ds vs → LRepL T K Hf' H' ds vs
  | [], _, h => h
  | d :: ds, _, ⟨v, r, e, h1, h2⟩ => ⟨v, r, e, h1.step S, LRepL.step S h2⟩
def rdL (T : Tab) (K : PySem.W.Frag) (W : WX) (z : Hd) (t : BW) : TE := fun σ H Qv => ∃ H0 Hf δ Q X, StOk T K z H0 Hf H σ δ ∧ XOk T K W σ Hf H X ∧ (∀ v Hf' H' d, Step Hf H Hf' H' → LRep T K Hf' H' d v → Q d → Qv v H') ∧ t δ Q X
def VLr (X : Cx) (T : Tab) (W : WX) (z : Hd) (e : Expr) (t : BW) : Prop := PE X e (rdL T X.K W z t)
theorem VLr.toB {X : Cx} {T : Tab} {W : WX} {z : Hd} {e : Expr} {u : BW} (h : VLr X T W z e u) : VB X T W z e u := PE.imp h fun σ H Qv ⟨H0, Hf, δ, Q, Xq, st, xo, k, q⟩ =>
  ⟨H0, Hf, δ, Q, Xq, st, xo, fun v Hf' H' d S rp hq => k v Hf' H' d S (.inl rp) hq, q⟩
theorem VD.toL {X : Cx} {T : Tab} {W : WX} {z : Hd} {e : Expr} {u : BW} (h : VD X T W z e u) : VLr X T W z e u := PE.imp h fun σ H Qv ⟨H0, Hf, δ, Q, Xq, st, xo, k, q⟩ =>
  ⟨H0, Hf, δ, Q, Xq, st, xo, fun v Hf' H' d S rp hq => k v Hf' H' d S (.inl rp) hq, q⟩
theorem VE.toL {X : Cx} {T : Tab} {W : WX} {z : Hd} {e : Expr} {t : EW} (h : VE X T W z e t) : VLr X T W z e (bOf t) := h.toD.toL
theorem vl_var {X : Cx} {T : Tab} {W : WX} {z : Hd} {i : Nat} {x : Str} {pos : Pos} (hN : X.N[i]? = some x := by rfl) (hv : Vis X.env.scope x := by first | exact Or.inl rfl | exact Or.inr (Or.inl rfl) | exact Or.inr (Or.inr rfl)) (hd : (x == ("__debug__" : Str)) = false := by decide)
    (hcd : (x == ("__classdict__" : Str)) = false := by decide) : VLr X T W z (.Name x pos) (lVar i) := PE.imp (pe_var hN hv hd hcd) fun σ H Qv ⟨H0, Hf, δ, Q, Xq, st, xo, k, q⟩ => by
  unfold lVar at q
  cases e1 : δ[i]? with
  | none => rw [e1] at q; exact q.elim
  | some o =>
    cases o with
    | none => rw [e1] at q; exact q.elim
    | some s =>
      rw [e1] at q
      have h := st.at_ i
      rw [e1] at h
      cases e2 : σ[i]? with
      | none => rw [e2] at h; exact h.elim
      | some o =>
        cases o with
        | none => rw [e2] at h; exact h.elim
        | some v =>
          rw [e2] at h
          refine ⟨v, e2, ?_⟩
          cases s with
          | fz d => exact k v Hf H d (Step.refl st.i) (.inl h) q
          | own ds =>
            obtain ⟨a, vs, e3, e4, e5, e6, e7⟩ := h
            exact k v Hf H (.lst ds) (Step.refl st.i) (.inr ⟨a, vs, ds, rfl, e3, e6, e7⟩) q
          | lent ds =>
            obtain ⟨a, vs, e3, e4, e5, e6⟩ := h
            exact k v Hf H (.lst ds) (Step.refl st.i) (.inr ⟨a, vs, ds, rfl, e3, e5, e6⟩) q
          | ob c ds => exact q.elim
          | exc c ds => exact q.elim
/-- arguments that are only read -/
def rdAB (T : Tab) (K : PySem.W.Frag) (W : WX) (z : Hd) (t : AW) : TA := fun σ H Qa => ∃ H0 Hf δ Q X, StOk T K z H0 Hf H σ δ ∧ XOk T K W σ Hf H X ∧ (∀ vs Hf' H' ds, Step Hf H Hf' H' → LRepL T K Hf' H' ds vs → Q ds → Qa vs H') ∧ t δ Q X
def VAB (X : Cx) (T : Tab) (W : WX) (z : Hd) (es : List Expr) (t : AW) : Prop := PA X es (rdAB T X.K W z t)
def CallV (X : Cx) (T : Tab) (f : Value) (bf : BF) : Prop := ∀ (pins : List (Addr × Obj)) (s : Shared) (σ : L2.St) (H Hf : Hp) (xs : List V) (us : List Value) (ds : List D) (Q : QR) (Qv : VK), Inv X pins σ H s → Vals xs us → Ex Hf H → LRepL T X.K Hf H ds xs →
  (∀ v Hf' H' r, Step Hf H Hf' H' → Res T X.K Hf' H' H v r → Q r → Qv v H') → bf ds Q → wpAny (model X.prog X.w) X.A (call f us) (EP X pins σ Qv) X.xe s
def rB (T : Tab) (K : PySem.W.Frag) (bf : BF) : List V → Hp → VK → Prop := fun xs H Qv => ∃ Hf ds Q, Ex Hf H ∧ LRepL T K Hf H ds xs ∧ (∀ v Hf' H' r, Step Hf H Hf' H' → Res T K Hf' H' H v r → Q r → Qv v H') ∧ bf ds Q
section
variable {X : Cx} {T : Tab} {W : WX} {z : Hd} {k : Nat} {e o : Expr} {t : EW} {u : BW} {ar : AW} {es : List Expr} {x : Str} {pos p0 : Pos} {bf : BF} {dn : Dun}
theorem vab_nil : VAB X T W z [] aNil := PA.imp pa_nil fun σ H Qa ⟨H0, Hf, δ, Q, Xq, st, xo, kt, qq⟩ => kt [] Hf H [] (Step.refl st.i) rfl qq
theorem vab_cons (ha : VLr X T W z e u) (hr : VAB X T W z es ar) (hs : starEach (e :: es) X.env = (false, eval e X.env) :: starEach es X.env := by rfl) : VAB X T W z (e :: es) (aConsR u ar) := PA.imp (pa_cons ha hr hs) fun σ H Qa ⟨H0, Hf, δ, Q, Xq, st, xo, kt, qq⟩ =>
  ⟨H0, Hf, δ, _, Xq, st, xo, fun w Hf' H' d S r (hq : ar δ (fun ds => Q (d :: ds)) Xq) =>
    ⟨H0, Hf', δ, _, Xq, st.step S, xo.step S, fun vs Hf2 H2 ds S2 r2 q2 => kt (w :: vs) Hf2 H2 (d :: ds) (S.trans S2) ⟨w, vs, rfl, r.step S2, r2⟩ q2, hq⟩, qq⟩
theorem CallV.r {f : Value} (h : CallV X T f bf) : CallR X f (rB T X.K bf) := fun pins s σ H xs us Qv I r ⟨Hf, ds, Q, i, b, kt, q⟩ => h pins s σ H Hf xs us ds Q Qv I r i b kt q
theorem blt_imp {σ : L2.St} {H : Hp} {Qv : VK} (h : rdR T X.K W z (wBlt bf ar) σ H Qv) : tCB (rB T X.K bf) (rdAB T X.K W z ar) σ H Qv := by
  obtain ⟨H0, Hf, δ, Q, Xq, st, xo, kt, q⟩ := h
  exact ⟨H0, Hf, δ, _, Xq, st, xo, fun vs Hf' H' ds S r hq => ⟨Hf', ds, Q, S.i, r, kont kt S, hq⟩, q⟩
theorem ve_blt {id : String} (hc : CallV X T (.builtin id) bf) (hg : Gl X x) (hm : X.mg x = none) (hv : bootBuiltins x = some (.builtin id)) (ha : VAB X T W z (e :: es) ar) (hn : x ≠ "__name__" := by decide) (hdb : (x == ("__debug__" : Str)) = false := by decide)
    (he : starEach (e :: es) X.env = (false, eval e X.env) :: starEach es X.env := by rfl) (hpl : (backTo pos (starEach es X.env)).any (·.1) = false := by rfl) : VE X T W z (.Call (.Name x p0) (e :: es) [] pos) (wBlt bf ar) :=
  PE.imp (pe_callB hc.r hg hm hv ha hn hdb he hpl) fun σ H Qv h => blt_imp h
theorem ve_bltT {ty : String} (hc : CallV X T (.type ty) bf) (hg : Gl X x) (hm : X.mg x = none) (hv : bootBuiltins x = some (.type ty)) (ha : VAB X T W z (e :: es) ar) (hn : x ≠ "__name__" := by decide) (hdb : (x == ("__debug__" : Str)) = false := by decide)
    (he : starEach (e :: es) X.env = (false, eval e X.env) :: starEach es X.env := by rfl) (hpl : (backTo pos (starEach es X.env)).any (·.1) = false := by rfl) : VE X T W z (.Call (.Name x p0) (e :: es) [] pos) (wBlt bf ar) :=
  PE.imp (pe_callTy hc.r hg hm hv ha hn hdb he hpl) fun σ H Qv h => blt_imp h
theorem ve_bltG {id : String} (hc : CallV X T (.builtin id) bf) (hg : Gl X x) (hm : X.mg x = some (.builtin id)) (ha : VAB X T W z (e :: es) ar) (hdb : (x == ("__debug__" : Str)) = false := by decide)
    (he : starEach (e :: es) X.env = (false, eval e X.env) :: starEach es X.env := by rfl) (hpl : (backTo pos (starEach es X.env)).any (·.1) = false := by rfl) : VE X T W z (.Call (.Name x p0) (e :: es) [] pos) (wBlt bf ar) :=
  PE.imp (pe_callBfun hc.r hg hm ha hdb he hpl) fun σ H Qv h => blt_imp h
/-! ### the functions -/
theorem br1 {Hf H : Hp} {d : D} {xs : List V} (h : LRepL T X.K Hf H [d] xs) : ∃ v, xs = [v] ∧ LRep T X.K Hf H d v := by
  obtain ⟨v, r, rfl, h1, rfl⟩ := h
  exact ⟨v, rfl, h1⟩
theorem br2 {Hf H : Hp} {d d' : D} {xs : List V} (h : LRepL T X.K Hf H [d, d'] xs) : ∃ v v', xs = [v, v'] ∧ LRep T X.K Hf H d v ∧ LRep T X.K Hf H d' v' := by
  obtain ⟨v, r, rfl, h1, v', r', rfl, h2, rfl⟩ := h
  exact ⟨v, v', rfl, h1, h2⟩
/-- an instance's own special method of one place, called anywhere within -/
theorem callVA {f : Addr} {ms : List Bool} {sp : FS} {A' : Around} (F : FnV X.prog X.w X.K X.mg X.base T k f ms [] sp) (hr : Room k A') {pins : List (Addr × Obj)} {s : Shared} {σ : L2.St} {H Hf : Hp} {vs : List V} {us : List Value} {ds : List D} {Q : QR} {Qv : VK} {E : Value → Shared → Prop}
    (e0 : Env0 X.prog X.w X.K X.mg X.base A' X.stack s H) (I : Inv X pins σ H s) (r : Vals vs us) (i : Ex Hf H) (ha : ArgsOk T X.K Hf H ms ds vs) (kt : ∀ v Hf' H' r, Step Hf H Hf' H' → Res T X.K Hf' H' H v r → Q r → Qv v H') (q : sp ds Q (fun _ => False)) :
    wpAny (model X.prog X.w) A' (call (.ref f) us) (EP X pins σ Qv) E s := by
  obtain ⟨fd, ps, des, dvs, G, b, rd, hd⟩ := F.ex
  have hdv : dvs = [] := repL_nil.mp (hd Hf)
  subst hdv
  cases rd
  rw [List.length_nil, List.replicate_zero, List.append_nil] at G
  have h : SpV T X.K ms sp vs H Qv (fun _ _ _ => False) := ⟨Hf, ds, Q, fun _ => False, i, ha, kt, fun _ _ _ _ _ _ _ f => f.elim, q⟩
  have hl : us.length = ps.length := by rw [← r.length]; exact G.len _ _ _ _ h
  have b2 := b s us I.kIn (by rw [List.append_nil]; exact hl)
  rw [List.append_nil] at b2
  refine wpAny_call (codeAny_mono (G.run A' X.stack s H ⟨us, []⟩ us vs Qv (fun _ _ _ => False) hr e0 b2 r h) fun r s' hq => ?_)
  cases r with
  | error e =>
    obtain ⟨_, _, _, _, _, _, _, _, _, _, _, _, f⟩ := hq
    exact f.elim
  | ok fl =>
    cases fl with
    | ret u => exact I.after hq
    | next => exact False.elim hq
    | brk => exact False.elim hq
    | cont => exact False.elim hq
/-- its facts -/
theorem obj1_at (o : OpC X T W k dn) {m : Dn} (hm : m.ms = [false]) {pins : List (Addr × Obj)} {s : Shared} {σ : L2.St} {H Hf : Hp} {c : Nat} {xs : List D} {v : V} {u : Value} {Q : QR} (I : Inv X pins σ H s) (i : Ex Hf H) (rx : RelV v u) (hx : Rep T X.K Hf (.obj c xs) v) (q : obj1 dn m c xs Q) :
    ∃ f a od dx sp, v = .ref a ∧ u = .ref a ∧ PySem.W.InstAt s.heap a (PySem.W.instObj (T.cls c) dx) (T.cls c) (some od) ∧ PySem.W.findIn X.K (.ref (T.cls c)) m.nm = some (some (.ref f)) ∧ PySem.W.isFn X.K (.ref f) = true ∧ FnV X.prog X.w X.K X.mg X.base T k f [false] [] sp ∧ sp [.obj c xs] Q (fun _ => False) := by
  unfold obj1 at q
  cases e : dn c m with
  | none => rw [e] at q; exact q.elim
  | some sp =>
    rw [e] at q
    obtain ⟨a, dx, fs, rfl, hc, hH, _⟩ := hx.objU i
    obtain rfl : u = Value.ref a := rx
    obtain ⟨f, h1, h2, F⟩ := (o.du c m sp e hc).ex
    rw [hm] at F
    obtain ⟨od, J, _⟩ := inst_at I hH
    exact ⟨f, a, od, dx, sp, rfl, rfl, J, h1, h2, F, q⟩
theorem one_arg {Hf H : Hp} {d : D} {v : V} (h : Rep T X.K Hf d v) : ArgsOk T X.K Hf H [false] [d] [v] := ⟨_, _, _, _, rfl, rfl, h, rfl, rfl⟩
theorem LRep.rep {Hf H : Hp} {d : D} {v : V} (hd : ∀ ds, d ≠ .lst ds) (h : LRep T X.K Hf H d v) : Rep T X.K Hf d v := by
  rcases h with h | ⟨a, vs, ds, e, _⟩
  · exact h
  · exact (hd ds e).elim
theorem LRep.b {Hf H : Hp} {d : D} {v : V} (h : LRep T X.K Hf H d v) : BRep T X.K Hf H d v := .inl h
/-- the end of a rule of the hand layer -/
theorem fin_i {Hf H : Hp} {Q : QR} {Qv : VK} {i : Int} (i0 : Ex Hf H) (kt : ∀ v Hf' H' r, Step Hf H Hf' H' → Res T X.K Hf' H' H v r → Q r → Qv v H') (q : Q (.fz (.int i))) : Qv (.int i) H := kt _ Hf H (.fz (.int i)) (Step.refl i0) (by unfold Res Rep; rfl) q
theorem fin_b {Hf H : Hp} {Q : QR} {Qv : VK} {i : Bool} (i0 : Ex Hf H) (kt : ∀ v Hf' H' r, Step Hf H Hf' H' → Res T X.K Hf' H' H v r → Q r → Qv v H') (q : Q (.fz (.bl i))) : Qv (.bl i) H := kt _ Hf H (.fz (.bl i)) (Step.refl i0) (by unfold Res Rep; rfl) q
theorem fin_s {Hf H : Hp} {Q : QR} {Qv : VK} {i : Str} (i0 : Ex Hf H) (kt : ∀ v Hf' H' r, Step Hf H Hf' H' → Res T X.K Hf' H' H v r → Q r → Qv v H') (q : Q (.fz (.str i))) : Qv (.str i) H := kt _ Hf H (.fz (.str i)) (Step.refl i0) (by unfold Res Rep; rfl) q
theorem fin_l {Hf H : Hp} {Q : QR} {Qv : VK} {ds : List D} {vs : List V} {p : Addr} (i0 : Ex Hf H) (hp : H p = none) (r : RepL T X.K Hf ds vs) (kt : ∀ v Hf' H' r, Step Hf H Hf' H' → Res T X.K Hf' H' H v r → Q r → Qv v H') (q : Q (.own ds)) : Qv (.ref p) (upd H p (.lst vs)) :=
  kt _ Hf _ _ (Step.newH i0 hp) (resOwn i0 hp r) q
theorem fin_t {Hf H : Hp} {Q : QR} {Qv : VK} {ds : List D} {vs : List V} {p : Addr} (i0 : Ex Hf H) (hp : H p = none) (r : RepL T X.K Hf ds vs) (kt : ∀ v Hf' H' r, Step Hf H Hf' H' → Res T X.K Hf' H' H v r → Q r → Qv v H') (q : Q (.fz (.tup ds))) : Qv (.ref p) (upd H p (.tup vs)) :=
  kt _ _ _ _ (Step.new i0 hp) (resTup i0 hp r) q
theorem cv_len (o : OpC X T W k dn) : CallV X T (.builtin "len") (bLen dn) := by
  intro pins s σ H Hf xs us ds Q Qv I r i b kt q
  unfold bLen at q
  split at q
  · rename_i d
    obtain ⟨v, rfl, hb⟩ := br1 b
    split at q
    · obtain ⟨a, vs, rfl, e1, e2⟩ := hb.b.lst i
      exact call_len pins s σ H _ us Qv I r ⟨_, _, rfl, .inl ⟨vs, SqL.of e1, e2.length⟩, fin_i i kt q⟩
    · obtain ⟨a, vs, rfl, e1, e2⟩ := hb.b.tup i
      exact call_len pins s σ H _ us Qv I r ⟨_, _, rfl, .inr ⟨vs, SqT.of e1, e2.length⟩, fin_i i kt q⟩
    · have h := hb.rep (fun _ e => by cases e)
      unfold Rep at h
      obtain ⟨a, rfl, h⟩ := h
      exact call_len pins s σ H _ us Qv I r ⟨_, _, rfl, .inl ⟨_, ex_l i h, by rw [List.length_map]⟩, fin_i i kt q⟩
    · have h := hb.rep (fun _ e => by cases e)
      unfold Rep at h
      subst h
      exact call_len pins s σ H _ us Qv I r ⟨_, _, rfl, ⟨by rw [sizeLine_eq]; exact q.1, rfl⟩, fin_i i kt q.2⟩
    · obtain ⟨u1, rfl, r1⟩ := vals1 r
      obtain ⟨f, a, od, dx, sp, rfl, rfl, J, h1, h2, F, q⟩ := obj1_at o rfl I i r1 (hb.rep (fun _ e => by cases e)) q
      obtain ⟨m, fr⟩ := I.fr
      refine PySem.W.len_K fr I.ok.mod.kin J h1 h2 (wpAny_mono (callVA F o.r1.in1 I.env0.in1 I (vs := [.ref a]) (.cons rfl .nil) i (one_arg (hb.rep (fun _ e => by cases e))) (Qv := fun v H' => ∃ n, v = .int n ∧ (0 ≤ n ∧ n < 2 ^ 63) ∧ Qv (.int n) H') (fun v Hf' H' r S rs q => ?_) q) (fun v s' ⟨w, H', I', r', n, e, hn, q'⟩ => ?_) fun _ _ x => x)
      · cases r with
        | own ds => exact q.elim
        | fz d =>
          cases d with
          | int n =>
            have e : v = .int n := by unfold Res Rep at rs; exact rs
            subst e
            exact ⟨n, rfl, q.1, kt _ Hf' H' _ S rs q.2⟩
          | _ => exact q.elim
      · subst e
        obtain ⟨t, rfl⟩ := r'
        exact ⟨hn, .int n, H', I'.tok _, ⟨_, rfl⟩, q'⟩
    · exact q.elim
  · exact q.elim
theorem cv_abs (o : OpC X T W k dn) : CallV X T (.builtin "abs") (bAbs dn) := by
  intro pins s σ H Hf xs us ds Q Qv I r i b kt q
  unfold bAbs at q
  split at q
  · rename_i d
    obtain ⟨v, rfl, hb⟩ := br1 b
    split at q
    · have h := hb.rep (fun _ e => by cases e)
      unfold Rep at h
      subst h
      exact call_abs pins s σ H _ us Qv I r ⟨_, rfl, fin_i i kt q⟩
    · obtain ⟨u1, rfl, r1⟩ := vals1 r
      obtain ⟨f, a, od, dx, sp, rfl, rfl, J, h1, h2, F, q⟩ := obj1_at o rfl I i r1 (hb.rep (fun _ e => by cases e)) q
      exact abs_own I.kIn J h1 h2 (callVA F o.r1.in1 I.env0.in1 I (vs := [.ref a]) (.cons rfl .nil) i (one_arg (hb.rep (fun _ e => by cases e))) kt q)
    · exact q.elim
  · exact q.elim
theorem cv_int : CallV X T (.type "int") bInt := by
  intro pins s σ H Hf xs us ds Q Qv I r i b kt q
  unfold bInt at q
  split at q
  · rename_i d
    obtain ⟨v, rfl, hb⟩ := br1 b
    split at q
    · have h := hb.rep (fun _ e => by cases e)
      unfold Rep at h
      subst h
      exact call_int1 pins s σ H _ us Qv I r (.inl ⟨_, rfl, fin_i i kt q⟩)
    · have h := hb.rep (fun _ e => by cases e)
      unfold Rep at h
      subst h
      exact call_int1 pins s σ H _ us Qv I r (.inr ⟨_, rfl, fin_i i kt q⟩)
    · exact q.elim
  · exact q.elim
theorem kt_Bl {Hf H : Hp} {Q : QR} {Qv : VK} (kt : ∀ v Hf' H' r, Step Hf H Hf' H' → Res T X.K Hf' H' H v r → Q r → Qv v H') : ∀ v Hf' H' r, Step Hf H Hf' H' → Res T X.K Hf' H' H v r → QR.bl Q r → ∃ b, v = .bl b ∧ Qv (.bl b) H' := fun v Hf' H' r S rs q => by
  cases r with
  | own ds => exact q.elim
  | fz d =>
    cases d with
    | bl b =>
      have e := res_bl rs rfl
      subst e
      exact ⟨b, rfl, kt _ Hf' H' _ S rs q⟩
    | _ => exact q.elim
theorem kt_St {Hf H : Hp} {Q : QR} {Qv : VK} (kt : ∀ v Hf' H' r, Step Hf H Hf' H' → Res T X.K Hf' H' H v r → Q r → Qv v H') : ∀ v Hf' H' r, Step Hf H Hf' H' → Res T X.K Hf' H' H v r → QR.st Q r → ∃ b, v = .str b ∧ Qv (.str b) H' := fun v Hf' H' r S rs q => by
  cases r with
  | own ds => exact q.elim
  | fz d =>
    cases d with
    | str b =>
      have e : v = .str b := by unfold Res Rep at rs; exact rs
      subst e
      exact ⟨b, rfl, kt _ Hf' H' _ S rs q⟩
    | _ => exact q.elim
theorem cv_bool (o : OpC X T W k dn) : CallV X T (.type "bool") (bBool dn) := by
  intro pins s σ H Hf xs us ds Q Qv I r i b kt q
  unfold bBool at q
  split at q
  · rename_i d
    obtain ⟨v, rfl, hb⟩ := br1 b
    split at q
    · have h := hb.rep (fun _ e => by cases e)
      unfold Rep at h
      subst h
      exact call_bool1 pins s σ H _ us Qv I r (.inl ⟨_, rfl, fin_b i kt q⟩)
    · have h := hb.rep (fun _ e => by cases e)
      unfold Rep at h
      subst h
      exact call_bool1 pins s σ H _ us Qv I r (.inr ⟨_, rfl, fin_b i kt q⟩)
    · obtain ⟨u1, rfl, r1⟩ := vals1 r
      obtain ⟨f, a, od, dx, sp, rfl, rfl, J, h1, h2, F, q⟩ := obj1_at o rfl I i r1 (hb.rep (fun _ e => by cases e)) q
      refine bool_own I.kIn J h1 h2 (wpAny_mono (callVA F o.rm.in1.in1 I.env0.in1.in1 I (vs := [.ref a]) (.cons rfl .nil) i (one_arg (hb.rep (fun _ e => by cases e))) (kt_Bl kt) q) (fun v s' ⟨w, H', I', r', n, e, q'⟩ => ?_) fun _ _ x => x)
      subst e
      obtain rfl : v = Value.bool n := r'
      exact ⟨n, rfl, .bl n, H', I', rfl, q'⟩
    · exact q.elim
  · exact q.elim
theorem cv_str (o : OpC X T W k dn) : CallV X T (.type "str") (bStr dn) := by
  intro pins s σ H Hf xs us ds Q Qv I r i b kt q
  unfold bStr at q
  split at q
  · rename_i d
    obtain ⟨v, rfl, hb⟩ := br1 b
    split at q
    · have h := hb.rep (fun _ e => by cases e)
      unfold Rep at h
      subst h
      exact call_str_int pins s σ H _ us Qv I r ⟨_, rfl, q.1, fin_s i kt q.2⟩
    · have h := hb.rep (fun _ e => by cases e)
      unfold Rep at h
      subst h
      obtain ⟨u1, rfl, t, rfl⟩ := vals1 r
      exact PySem.P.str_of_str ⟨.str _, H, I, ⟨_, rfl⟩, fin_s i kt q⟩
    · obtain ⟨u1, rfl, r1⟩ := vals1 r
      obtain ⟨f, a, od, dx, sp, rfl, rfl, J, h1, h2, F, q⟩ := obj1_at o rfl I i r1 (hb.rep (fun _ e => by cases e)) q
      refine str_own (o.rm.in1.in1.units0) I.kIn J h1 h2 (wpAny_mono (callVA F o.rm.in1.in1 I.env0.in1.in1 I (vs := [.ref a]) (.cons rfl .nil) i (one_arg (hb.rep (fun _ e => by cases e))) (kt_St kt) q) (fun v s' ⟨w, H', I', r', n, e, q'⟩ => ?_) fun _ _ x => x)
      subst e
      obtain ⟨t, rfl⟩ := r'
      exact ⟨n, t, rfl, .str n, H', I', ⟨t, rfl⟩, q'⟩
    · exact q.elim
  · exact q.elim
theorem cv_max2 (hc : X.calm = true) : CallV X T (.builtin "max") bMax2 := by
  intro pins s σ H Hf xs us ds Q Qv I r i b kt q
  unfold bMax2 at q
  split at q
  · obtain ⟨v, v', rfl, h1, h2⟩ := br2 b
    split at q
    · have h1 := h1.rep (fun _ e => by cases e)
      have h2 := h2.rep (fun _ e => by cases e)
      unfold Rep at h1 h2
      subst h1 h2
      exact call_max2 hc pins s σ H _ us Qv I r ⟨_, _, rfl, fin_i i kt q⟩
    · exact q.elim
  · exact q.elim
theorem cv_min2 (hc : X.calm = true) : CallV X T (.builtin "min") bMin2 := by
  intro pins s σ H Hf xs us ds Q Qv I r i b kt q
  unfold bMin2 at q
  split at q
  · obtain ⟨v, v', rfl, h1, h2⟩ := br2 b
    split at q
    · have h1 := h1.rep (fun _ e => by cases e)
      have h2 := h2.rep (fun _ e => by cases e)
      unfold Rep at h1 h2
      subst h1 h2
      exact call_min2 hc pins s σ H _ us Qv I r ⟨_, _, rfl, fin_i i kt q⟩
    · exact q.elim
  · exact q.elim
theorem cv_gcd : CallV X T (.builtin "math.gcd") bGcd := by
  intro pins s σ H Hf xs us ds Q Qv I r i b kt q
  unfold bGcd at q
  split at q
  · obtain ⟨v, v', rfl, h1, h2⟩ := br2 b
    split at q
    · have h1 := h1.rep (fun _ e => by cases e)
      have h2 := h2.rep (fun _ e => by cases e)
      unfold Rep at h1 h2
      subst h1 h2
      exact cr_gcd pins s σ H _ us Qv I r ⟨_, _, rfl, fin_i i kt q⟩
    · exact q.elim
  · exact q.elim
theorem seq_at {Hf H : Hp} {d : D} {ds : List D} {v : V} (e : seqOf d = some ds) (i : Ex Hf H) (h : LRep T X.K Hf H d v) : ∃ a vs, v = .ref a ∧ (SqL X.K H a vs ∨ SqT X.K H a vs) ∧ RepL T X.K Hf ds vs := by
  cases d <;> cases e
  · obtain ⟨a, vs, e1, e2, e3⟩ := h.b.lst i
    exact ⟨a, vs, e1, .inl (SqL.of e2), e3⟩
  · obtain ⟨a, vs, e1, e2, e3⟩ := h.b.tup i
    exact ⟨a, vs, e1, .inr (SqT.of e2), e3⟩
theorem cv_list : CallV X T (.type "list") bList := by
  intro pins s σ H Hf xs us ds Q Qv I r i b kt q
  unfold bList at q
  split at q
  · rename_i d
    obtain ⟨v, rfl, hb⟩ := br1 b
    cases e : seqOf d with
    | none => rw [e] at q; exact q.elim
    | some ds =>
      rw [e] at q
      obtain ⟨a, vs, rfl, e1, e2⟩ := seq_at e i hb
      exact call_list_of pins s σ H _ us Qv I r ⟨a, vs, rfl, e1, fun l hl => fin_l i hl e2 kt q⟩
  · exact q.elim
theorem cv_tuple : CallV X T (.type "tuple") bTuple := by
  intro pins s σ H Hf xs us ds Q Qv I r i b kt q
  unfold bTuple at q
  split at q
  · rename_i d
    obtain ⟨v, rfl, hb⟩ := br1 b
    cases e : seqOf d with
    | none => rw [e] at q; exact q.elim
    | some ds =>
      rw [e] at q
      cases d <;> cases e
      · obtain ⟨a, vs, rfl, e1, e2⟩ := hb.b.lst i
        exact call_tuple_of pins s σ H _ us Qv I r ⟨a, vs, rfl, .inl ⟨SqL.of e1, fun l hl => fin_t i hl e2 kt q⟩⟩
      · obtain ⟨a, vs, rfl, e1, e2⟩ := hb.b.tup i
        exact call_tuple_of pins s σ H _ us Qv I r ⟨a, vs, rfl, .inr ⟨SqT.of e1, kt _ Hf H (.fz _) (Step.refl i) (hb.rep (fun _ e => by cases e)) q⟩⟩
  · exact q.elim
theorem ints_at {Hf H : Hp} {ds : List D} {is : List Int} {v : V} (e : intsOf ds = some is) (i : Ex Hf H) (h : LRep T X.K Hf H (.lst ds) v) : ∃ a, v = .ref a ∧ SqL X.K H a (is.map V.int) := by
  obtain ⟨a, vs, e1, e2, e3⟩ := h.b.lst i
  have : ds = is.map D.int := by
    clear e1 e2 e3 h
    induction ds generalizing is with
    | nil => cases e; rfl
    | cons d ds ih =>
      cases d <;> first | (cases e; done) | skip
      unfold intsOf at e
      cases e2 : intsOf ds with
      | none => rw [e2] at e; cases e
      | some js =>
        rw [e2] at e
        cases e
        rw [List.map_cons, ih e2]
  subst this
  rw [RepL.ints.mp e3] at e2
  exact ⟨a, e1, SqL.of e2⟩
theorem bls_at {Hf H : Hp} {ds : List D} {is : List Bool} {v : V} (e : blsOf ds = some is) (i : Ex Hf H) (h : LRep T X.K Hf H (.lst ds) v) : ∃ a, v = .ref a ∧ SqL X.K H a (is.map V.bl) := by
  obtain ⟨a, vs, e1, e2, e3⟩ := h.b.lst i
  have : vs = is.map V.bl := by
    clear e1 e2 h
    induction ds generalizing is vs with
    | nil => cases e; exact repL_nil.mp e3
    | cons d ds ih =>
      cases d <;> first | (cases e; done) | skip
      unfold blsOf at e
      obtain ⟨w, r, rfl, h1, h2⟩ := repL_cons.mp e3
      cases e2 : blsOf ds with
      | none => rw [e2] at e; cases e
      | some js =>
        rw [e2] at e
        cases e
        unfold Rep at h1
        rw [List.map_cons, ih e2 _ h2, h1]
  subst this
  exact ⟨a, e1, SqL.of e2⟩
theorem cv_sum (hc : X.calm = true) : CallV X T (.builtin "sum") bSum := by
  intro pins s σ H Hf xs us ds Q Qv I r i b kt q
  unfold bSum at q
  split at q
  · rename_i d
    obtain ⟨v, rfl, hb⟩ := br1 b
    split at q
    · rename_i xs
      cases e : intsOf xs with
      | none => rw [e] at q; exact q.elim
      | some is =>
        rw [e] at q
        obtain ⟨a, rfl, h⟩ := ints_at e i hb
        exact cr_sum hc pins s σ H _ us Qv I r ⟨a, is, rfl, h, fin_i i kt q⟩
    · exact q.elim
  · exact q.elim
theorem cv_max (hc : X.calm = true) : CallV X T (.builtin "max") bMax := by
  intro pins s σ H Hf xs us ds Q Qv I r i b kt q
  unfold bMax at q
  split at q
  · rename_i d
    obtain ⟨v, rfl, hb⟩ := br1 b
    split at q
    · rename_i xs
      cases e : intsOf xs with
      | none => rw [e] at q; exact q.elim
      | some is =>
        rw [e] at q
        obtain ⟨a, rfl, h⟩ := ints_at e i hb
        exact cr_max hc pins s σ H _ us Qv I r ⟨a, is, rfl, h, q.1, fun m h1 h2 => fin_i i kt (q.2 m h1 h2)⟩
    · exact q.elim
  · exact q.elim
theorem cv_min (hc : X.calm = true) : CallV X T (.builtin "min") bMin := by
  intro pins s σ H Hf xs us ds Q Qv I r i b kt q
  unfold bMin at q
  split at q
  · rename_i d
    obtain ⟨v, rfl, hb⟩ := br1 b
    split at q
    · rename_i xs
      cases e : intsOf xs with
      | none => rw [e] at q; exact q.elim
      | some is =>
        rw [e] at q
        obtain ⟨a, rfl, h⟩ := ints_at e i hb
        exact cr_min hc pins s σ H _ us Qv I r ⟨a, is, rfl, h, q.1, fun m h1 h2 => fin_i i kt (q.2 m h1 h2)⟩
    · exact q.elim
  · exact q.elim
theorem cv_sorted : CallV X T (.builtin "sorted") bSorted := by
  intro pins s σ H Hf xs us ds Q Qv I r i b kt q
  unfold bSorted at q
  split at q
  · rename_i d
    obtain ⟨v, rfl, hb⟩ := br1 b
    split at q
    · rename_i xs
      cases e : intsOf xs with
      | none => rw [e] at q; exact q.elim
      | some is =>
        rw [e] at q
        obtain ⟨a, rfl, h⟩ := ints_at e i hb
        exact cr_sortedI pins s σ H _ us Qv I r ⟨a, is, rfl, h, fun os p h1 h2 hp => fin_l i hp (RepL.ints.mpr rfl) kt (q os h1 h2)⟩
    · exact q.elim
  · exact q.elim
theorem cv_any (hc : X.calm = true) : CallV X T (.builtin "any") bAny := by
  intro pins s σ H Hf xs us ds Q Qv I r i b kt q
  unfold bAny at q
  split at q
  · rename_i d
    obtain ⟨v, rfl, hb⟩ := br1 b
    split at q
    · rename_i xs
      cases e : blsOf xs with
      | none => rw [e] at q; exact q.elim
      | some is =>
        rw [e] at q
        obtain ⟨a, rfl, h⟩ := bls_at e i hb
        exact cr_any hc pins s σ H _ us Qv I r ⟨a, is, rfl, h, fin_b i kt q⟩
    · exact q.elim
  · exact q.elim
theorem cv_all (hc : X.calm = true) : CallV X T (.builtin "all") bAll := by
  intro pins s σ H Hf xs us ds Q Qv I r i b kt q
  unfold bAll at q
  split at q
  · rename_i d
    obtain ⟨v, rfl, hb⟩ := br1 b
    split at q
    · rename_i xs
      cases e : blsOf xs with
      | none => rw [e] at q; exact q.elim
      | some is =>
        rw [e] at q
        obtain ⟨a, rfl, h⟩ := bls_at e i hb
        exact cr_all hc pins s σ H _ us Qv I r ⟨a, is, rfl, h, fin_b i kt q⟩
    · exact q.elim
  · exact q.elim
end
end VL
end
section
set_option Elab.async false
set_option linter.all false
set_option maxRecDepth 100000
set_option maxHeartbeats 4000000
/-! VLs10: isinstance, subscripts, slices, f-strings. -/
namespace VL
open PySem PySem.Spec PyProof.Rows L2
section
variable {X : Cx} {T : Tab} {W : WX} {z : Hd} {k : Nat} {a b e o : Expr} {t ta tb : EW} {u v : BW} {x : Str} {pos p0 p1 p2 : Pos} {dn : Dun} {H Hf : Hp}
/-! ### isinstance -/
def D.tyN : D → String
  | .non => "NoneType"
  | .bl _ => "bool"
  | .int _ => "int"
  | .str _ => "str"
  | .lst _ => "list"
  | .scr _ => "list"
  | _ => "tuple"
theorem ty_at (lib : Lib T X.K) {d : D} {w : V} (hd : d.nocls = true) (i : Ex Hf H) (h : LRep T X.K Hf H d w) : (∃ c ds, d = .obj c ds ∧ c < T.n ∧ TyX X.K H w (.ref (T.cls c))) ∨ ((∀ c ds, d ≠ .obj c ds) ∧ TyX X.K H w (.type d.tyN)) := by
  cases d with
  | non => rw [h.b.non]; exact .inr ⟨fun _ _ e => (by cases e), .base .non⟩
  | bl c => rw [h.b.bl]; exact .inr ⟨fun _ _ e => (by cases e), .base (.bl _)⟩
  | int c => rw [h.b.int]; exact .inr ⟨fun _ _ e => (by cases e), .base (.int _)⟩
  | str c => rw [h.b.str]; exact .inr ⟨fun _ _ e => (by cases e), .base (.str _)⟩
  | lst ds =>
    obtain ⟨a, vs, rfl, e1, e2⟩ := h.b.lst i
    exact .inr ⟨fun _ _ e => (by cases e), .base (.lst e1)⟩
  | tup ds =>
    obtain ⟨a, vs, rfl, e1, e2⟩ := h.b.tup i
    exact .inr ⟨fun _ _ e => (by cases e), .base (.tup e1)⟩
  | obj c ds =>
    have r := h.rep (fun _ e => by cases e)
    obtain ⟨a, dx, fs, rfl, hc, e1, _⟩ := r.objU i
    have cf := lib.cl c hc
    exact .inl ⟨c, ds, rfl, hc, .base (.ins e1 cf.cl cf.ha cf.hn cf.htk cf.hm)⟩
  | cls c => cases hd
  | scr ns =>
    have r := h.rep (fun _ e => by cases e)
    unfold Rep at r
    obtain ⟨a, rfl, r⟩ := r
    rcases ex_l i r with (r | ⟨o, r⟩) | ⟨o, its, n, r1, r2, _⟩
    · exact .inr ⟨fun _ _ e => (by cases e), .base (.lst r)⟩
    · exact .inr ⟨fun _ _ e => (by cases e), .base (.frz r)⟩
    · exact .inr ⟨fun _ _ e => (by cases e), .kList r1 r2⟩
theorem ty_mem (ty : Ty) : ty.nm ∈ tyNames := by cases ty <;> decide
theorem tyN_mem (d : D) : d.tyN ∈ tyNames := by
  have h1 : "NoneType" ∈ tyNames := by decide
  have h2 : "bool" ∈ tyNames := by decide
  have h3 : "int" ∈ tyNames := by decide
  have h4 : "str" ∈ tyNames := by decide
  have h5 : "list" ∈ tyNames := by decide
  have h6 : "tuple" ∈ tyNames := by decide
  cases d <;> assumption
theorem kit_tt {ty : Ty} {d : D} (ho : ∀ c ds, d ≠ .obj c ds) (hd : d.nocls = true) : PySem.W.kitOne X.K (.type d.tyN) (.type ty.nm) = some (isT ty d) := by
  refine kit_ty ?_
  cases d with
  | obj c ds => exact absurd rfl (ho c ds)
  | cls c => cases hd
  | _ => cases ty <;> kernel_rfl
theorem ve_isT {ty : Ty} (lib : Lib T X.K) (hg : Gl X "isinstance") (hm : X.mg "isinstance" = none) (hg2 : Gl X x) (hm2 : X.mg x = none) (hv : bootBuiltins x = some (.type ty.nm)) (ha : VLr X T W z a u) (hn : x ≠ "__name__" := by decide) (hdb : (x == ("__debug__" : Str)) = false := by decide)
    (hs : starEach [a, .Name x p1] X.env = (false, eval a X.env) :: starEach [.Name x p1] X.env := by rfl) (hpl : (backTo pos (starEach [.Name x p1] X.env)).any (·.1) = false := by rfl) : VE X T W z (.Call (.Name "isinstance" p0) [a, .Name x p1] [] pos) (wIsT ty u) :=
  PE.imp (pe_callB call_isi hg hm PyProof.Rows.boot_isinstance (pa_cons ha (pa_cons (pe_bltn (v := .ty ty.nm) hg2 hm2 hv rfl hn hdb) pa_nil) hs) (by decide) (by decide) hs hpl) fun σ H Qv ⟨H0, Hf, δ, Q, Xq, st, xo, kt, q⟩ =>
    ⟨H0, Hf, δ, _, Xq, st, xo, fun w Hf' H' d S r hq => by
      refine (show rIsi X.K [w, .ty ty.nm] H' Qv from ?_)
      rcases ty_at lib hq.1 S.i r with ⟨c, ds, rfl, hc, ht⟩ | ⟨ho, ht⟩
      · refine ⟨w, .ty ty.nm, _, _, false, rfl, .ty _, ht, (lib.cl c hc).isT _ (ty_mem ty), ?_⟩
        have : isT ty (.obj c ds) = false := by cases ty <;> rfl
        rw [this] at hq
        exact kt _ Hf' H' (.fz (.bl false)) S (by unfold Res Rep; rfl) hq.2
      · exact ⟨w, .ty ty.nm, _, _, isT ty d, rfl, .ty _, ht, kit_tt ho hq.1, kt _ Hf' H' (.fz (.bl _)) S (by unfold Res Rep; rfl) hq.2⟩, q⟩
theorem ve_isC {c0 : Nat} (lib : Lib T X.K) (hc0 : c0 < T.n) (hg : Gl X "isinstance") (hm : X.mg "isinstance" = none) (hg2 : Gl X x) (hm2 : X.mg x = some (.ref (T.cls c0))) (ha : VLr X T W z a u) (hdb : (x == ("__debug__" : Str)) = false := by decide)
    (hs : starEach [a, .Name x p1] X.env = (false, eval a X.env) :: starEach [.Name x p1] X.env := by rfl) (hpl : (backTo pos (starEach [.Name x p1] X.env)).any (·.1) = false := by rfl) : VE X T W z (.Call (.Name "isinstance" p0) [a, .Name x p1] [] pos) (wIsC c0 u) :=
  PE.imp (pe_callB call_isi hg hm PyProof.Rows.boot_isinstance (pa_cons ha (pa_cons (pe_glob (v := .ref (T.cls c0)) hg2 hm2 rfl hdb) pa_nil) hs) (by decide) (by decide) hs hpl) fun σ H Qv ⟨H0, Hf, δ, Q, Xq, st, xo, kt, q⟩ =>
    ⟨H0, Hf, δ, _, Xq, st, xo, fun w Hf' H' d S r hq => by
      refine (show rIsi X.K [w, .ref (T.cls c0)] H' Qv from ?_)
      rcases ty_at lib hq.1 S.i r with ⟨c, ds, rfl, hc, ht⟩ | ⟨ho, ht⟩
      · exact ⟨w, .ref (T.cls c0), _, _, _, rfl, .own _, ht, lib.iss c c0 hc hc0, kt _ Hf' H' (.fz (.bl (c == c0))) S (by unfold Res Rep; rfl) hq.2⟩
      · refine ⟨w, .ref (T.cls c0), _, _, false, rfl, .own _, ht, (lib.cl c0 hc0).isO _ (tyN_mem d), ?_⟩
        have : isC c0 d = false := by
          cases d with
          | obj c ds => exact absurd rfl (ho c ds)
          | _ => rfl
        rw [this] at hq
        exact kt _ Hf' H' (.fz (.bl false)) S (by unfold Res Rep; rfl) hq.2, q⟩
/-! ### subscripts -/
theorem ix_at {ds : List D} {vs : List V} {i : Int} {d : D} (e : ixD ds i = some d) (r : RepL T X.K Hf ds vs) : ∃ v, atI vs i = some v ∧ Rep T X.K Hf d v := by
  unfold ixD at e
  unfold atI
  rw [r.length] at e
  change (match ixN vs.length i with | some j => ds[j]? | none => none) = some d at e
  cases h : ixN vs.length i with
  | none => rw [h] at e; cases e
  | some j =>
    rw [h] at e
    exact r.getD e
theorem ve_ix (ha : VLr X T W z a u) (hb : VE X T W z b tb) (hs : PlainIx b := by exact fun _ _ => rfl) : VE X T W z (.Subscript a b pos) (wBinB opIx u (bOf tb)) :=
  PE.imp (pe_ix ix_seq ha hb.toD hs) fun σ H Qv ⟨H0, Hf, δ, Q, Xq, st, xo, kt, q⟩ =>
    ⟨H0, Hf, δ, _, Xq, st, xo, fun w Hf1 H1 d S r (hq : bOf tb δ (fun e => opIx d e Q Xq) Xq) =>
      ⟨H0, Hf1, δ, fun e => opIx d e Q Xq, Xq, st.step S, xo.step S, fun w2 Hf2 H2 d2 S2 r2 hq => by
        have S12 := S.trans S2
        have kt2 : ∀ {d' : D} {v : V}, Rep T X.K Hf2 d' v → Q (.fz d') → Qv v H2 := fun {d' v} rr qq => kt _ Hf2 H2 (.fz d') S12 rr qq
        replace r := r.step S2
        change opIx d d2 Q Xq at hq
        unfold opIx at hq
        split at hq
        · rename_i xs i _
          unfold Rep at r2
          subst r2
          obtain ⟨p, vs, rfl, e1, e2⟩ := r.b.lst S2.i
          cases e : ixD xs i with
          | none => rw [e] at hq; exact hq.elim
          | some d' =>
            rw [e] at hq
            obtain ⟨v, e3, e4⟩ := ix_at e e2
            exact .inl ⟨p, vs, i, v, rfl, rfl, SqL.of e1, e3, kt2 e4 hq⟩
        · rename_i xs i _
          unfold Rep at r2
          subst r2
          obtain ⟨p, vs, rfl, e1, e2⟩ := r.b.tup S2.i
          cases e : ixD xs i with
          | none => rw [e] at hq; exact hq.elim
          | some d' =>
            rw [e] at hq
            obtain ⟨v, e3, e4⟩ := ix_at e e2
            exact .inr (.inl ⟨p, vs, i, v, rfl, rfl, SqT.of e1, e3, kt2 e4 hq⟩)
        · rename_i ns i _
          unfold Rep at r2
          subst r2
          have r9 := r.rep (fun _ e => by cases e)
          unfold Rep at r9
          obtain ⟨p, rfl, r9⟩ := r9
          cases e : ixD (ns.map D.int) i with
          | none => rw [e] at hq; exact hq.elim
          | some d' =>
            rw [e] at hq
            obtain ⟨v, e3, e4⟩ := ix_at (T := T) (X := X) (Hf := Hf2) e (RepL.ints.mpr rfl)
            exact .inl ⟨p, _, i, v, rfl, rfl, ex_l S2.i r9, e3, kt2 e4 hq⟩
        · rename_i zz i _
          unfold Rep at r2
          subst r2
          have r := r.rep (fun _ e => by cases e)
          unfold Rep at r
          subst r
          cases e : ixS zz i with
          | none => rw [e] at hq; exact hq.2.elim
          | some d' =>
            rw [e] at hq
            refine .inr (.inr ⟨zz, i, d', rfl, rfl, by rw [sizeLine_eq]; exact hq.1, ?_, kt2 (by unfold Rep; rfl) hq.2⟩)
            unfold ixS at e
            unfold atI
            change (match ixN zz.cps.toList.length i with | some j => zz.cps.toList[j]? | none => none) = some d' at e
            cases h : ixN zz.cps.toList.length i with
            | none => rw [h] at e; cases e
            | some j => rw [h] at e; exact e
        · exact hq.elim, hq⟩, q⟩
/-! ### slices -/
def rdO (T : Tab) (K : PySem.W.Frag) (W : WX) (z : Hd) (t : OW) : TO := fun σ H Qo => ∃ H0 Hf δ Q X, StOk T K z H0 Hf H σ δ ∧ XOk T K W σ Hf H X ∧ (∀ o Hf' H', Step Hf H Hf' H' → Q o → Qo o H') ∧ t δ Q X
def VO (X : Cx) (T : Tab) (W : WX) (z : Hd) (e : Option Expr) (t : OW) : Prop := PO X e (rdO T X.K W z t)
theorem PO.imp {e : Option Expr} {t t' : TO} (h : PO X e t) (i : ∀ σ H Q, t' σ H Q → t σ H Q) : PO X e t' := ⟨fun pins s σ H Q I q => h.run pins s σ H Q I (i _ _ _ q)⟩
theorem vo_none : VO X T W z none oNone := PO.imp po_none fun σ H Qo ⟨H0, Hf, δ, Q, Xq, st, xo, kt, q⟩ => kt none Hf H (Step.refl st.i) q
theorem vo_some (h : VE X T W z e t) : VO X T W z (some e) (oSome t) := PO.imp (po_some h.toD) fun σ H Qo ⟨H0, Hf, δ, Q, Xq, st, xo, kt, q⟩ =>
  ⟨H0, Hf, δ, fun d => (match d with | .int i => Q (some i) | _ => False), Xq, st, xo, fun w Hf' H' d S r hq => by
    cases d with
    | int i =>
      unfold Rep at r
      exact ⟨i, r, kt _ Hf' H' S hq⟩
    | _ => exact hq.elim, q⟩
theorem cutV_rep {ds : List D} {vs : List V} (lo hi : Option Int) (r : RepL T X.K Hf ds vs) : RepL T X.K Hf (cutD ds lo hi) (cutV vs lo hi) := by
  unfold cutD cutV
  rw [r.length]
  exact (r.drop _).take _
theorem ve_sl {lo hi : Option Expr} {tl th : OW} (he : VLr X T W z e u) (hl : VO X T W z lo tl) (hh : VO X T W z hi th) : VE X T W z (.Subscript e (.Slice lo hi none p2) pos) (wSl u tl th) :=
  PE.imp (pe_slice (SlR.or sl_list (SlR.or sl_tupA sl_str)) he hl hh) fun σ H Qv ⟨H0, Hf, δ, Q, Xq, st, xo, kt, q⟩ =>
    ⟨H0, Hf, δ, _, Xq, st, xo, fun w Hf1 H1 d S r hq => ⟨H0, Hf1, δ, _, Xq, st.step S, xo.step S, fun lo' Hf2 H2 S2 hq => ⟨H0, Hf2, δ, _, Xq, st.step (S.trans S2), xo.step (S.trans S2), fun hi' Hf3 H3 S3 hq => by
      have S13 := (S.trans S2).trans S3
      replace r := r.step (S2.trans S3)
      split at hq
      · obtain ⟨p, vs, rfl, e1, e2⟩ := r.b.lst S3.i
        exact .inl ⟨p, vs, rfl, SqL.of e1, fun l hl => fin_l S3.i hl (cutV_rep lo' hi' e2) (kont kt S13) hq⟩
      · have r' := r.rep (fun _ e => by cases e)
        obtain ⟨p, vs, rfl, e1, e2⟩ := r.b.tup S3.i
        refine .inr (.inl ⟨p, vs, rfl, SqT.of e1, fun hw => ?_, fun hw l hl => fin_t S3.i hl (cutV_rep lo' hi' e2) (kont kt S13) hq⟩)
        refine kt _ Hf3 H3 (.fz _) S13 ?_ hq
        have : ∀ {xs : List D}, xs.length = vs.length → cutD xs lo' hi' = xs := fun {xs} hx => by
          unfold cutD
          have h1 : sIx xs.length 0 lo' = 0 := by rw [hx]; exact hw.1
          have h2 : sIx xs.length xs.length hi' = xs.length := by rw [hx]; exact hw.2
          rw [h1, h2]
          simp
        rw [this e2.length]
        exact r'
      · have r' := r.rep (fun _ e => by cases e)
        unfold Rep at r'
        subst r'
        exact .inr (.inr ⟨_, rfl, by rw [sizeLine_eq]; exact hq.1, kt _ Hf3 H3 (.fz (.str _)) S13 (by unfold Res Rep; rfl) hq.2⟩)
      · exact hq.elim, hq⟩, hq⟩, q⟩
theorem ve_revL {kk : Nat} {p3 : Pos} (he : VLr X T W z e u) : VE X T W z (.Subscript e (.Slice none none (some (.UnaryOp .USub (.Constant (.int 1) kk p0) p1)) p2) pos) (wRevL u) :=
  PE.imp (pe_revL he) fun σ H Qv ⟨H0, Hf, δ, Q, Xq, st, xo, kt, q⟩ =>
    ⟨H0, Hf, δ, _, Xq, st, xo, fun w Hf1 H1 d S r hq => by
      split at hq
      · obtain ⟨p, vs, rfl, e1, e2⟩ := r.b.lst S.i
        refine ⟨p, vs, rfl, SqL.of e1, fun l hl => fin_l S.i hl ?_ (kont kt S) hq⟩
        clear hq e1 r
        rename_i xs
        induction xs generalizing vs with
        | nil => rw [repL_nil.mp e2]; exact RepL.nil
        | cons d ds ih =>
          obtain ⟨v, r, rfl, h1, h2⟩ := repL_cons.mp e2
          rw [List.reverse_cons, List.reverse_cons]
          exact (ih _ h2).append (RepL.cons h1 RepL.nil)
      · exact hq.elim, q⟩
end
end VL
end
section
set_option Elab.async false
set_option linter.all false
set_option maxRecDepth 100000
set_option maxHeartbeats 4000000
/-! VLs11: f-strings; statements, targets, loops. -/
namespace VL
open PySem PySem.Spec PyProof.Rows L2
section
variable {X : Cx} {T : Tab} {W : WX} {z : Hd} {k : Nat} {a b e o : Expr} {t ta tb : EW} {u v : BW} {x : Str} {pos p0 p1 p2 : Pos} {dn : Dun} {H Hf : Hp}
/-! ### f-strings -/
theorem ve_fmt (h : VE X T W z e t) : VE X T W z (.FormattedValue e (-1) none pos) (wFmt t) := PE.imp (pe_fmt h.toD) fun σ H Qv ⟨H0, Hf, δ, Q, Xq, st, xo, kt, q⟩ =>
  ⟨H0, Hf, δ, fun d => (match d with | .str y => y.length ≤ 16777216 ∧ Q (.fz (.str y)) | .int i => i.natAbs.log2 < 1920 ∧ Q (.fz (.str (toString i))) | _ => False), Xq, st, xo, fun w Hf' H' d S r hq => by
    cases d with
    | str y =>
      unfold Rep at r
      exact .inl ⟨y, r, by rw [sizeLine_eq]; exact hq.1, kt _ Hf' H' (.fz (.str y)) S (by unfold Res Rep; rfl) hq.2⟩
    | int i =>
      unfold Rep at r
      exact .inr ⟨i, r, hq.1, kt _ Hf' H' (.fz (.str _)) S (by unfold Res Rep; rfl) hq.2⟩
    | _ => exact hq.elim, q⟩
inductive VJ (X : Cx) (T : Tab) (W : WX) (z : Hd) : List Expr → List EW → Prop where
  | nil : VJ X T W z [] []
  | cons {e : Expr} {t : EW} {es : List Expr} {ts : List EW} (h : VE X T W z e t) (r : VJ X T W z es ts) : VJ X T W z (e :: es) (t :: ts)
theorem VJ.pj {es : List Expr} {ts : List EW} (h : VJ X T W z es ts) : PJ X es (ts.map fun t => rdD T X.K W z (bOf t)) := by
  induction h with
  | nil => exact .nil
  | cons h r ih => exact .cons h.toD ih
theorem tjs_of {σ : L2.St} {H0 : Hp} {δ : Fr} {Q : Str → Prop} {Xq : QX} {Qs : Str → Hp → Prop} : ∀ {ts : List EW} {acc : Str} {H Hf : Hp}, StOk T X.K z H0 Hf H σ δ → XOk T X.K W σ Hf H Xq → (∀ out Hf' H', Step Hf H Hf' H' → Q out → Qs out H') → wJs ts acc δ Q Xq → tJs (ts.map fun t => rdD T X.K W z (bOf t)) acc σ H Qs
  | [], acc, H, Hf, st, xo, kt, q => kt acc Hf H (Step.refl st.i) q
  | t :: ts, acc, H, Hf, st, xo, kt, q => ⟨H0, Hf, δ, fun d => (match d with | .str y => (acc ++ y).length ≤ 16777216 ∧ wJs ts (acc ++ y) δ Q Xq | _ => False), Xq, st, xo, fun w Hf' H' d S r hq => by
    cases d with
    | str y =>
      unfold Rep at r
      exact ⟨y, r, by rw [sizeLine_eq]; exact hq.1, tjs_of (st.step S) (xo.step S) (fun out Hf2 H2 S2 q2 => kt out Hf2 H2 (S.trans S2) q2) hq.2⟩
    | _ => exact hq.elim, q⟩
theorem ve_join {e1 e2 : Expr} {es : List Expr} {ts : List EW} (h : VJ X T W z (e1 :: e2 :: es) ts) : VE X T W z (.JoinedStr (e1 :: e2 :: es) pos) (wJoin ts) := PE.imp (pe_joined h.pj) fun σ H Qv ⟨H0, Hf, δ, Q, Xq, st, xo, kt, q⟩ =>
  tjs_of st xo (fun out Hf' H' S q => kt _ Hf' H' (.fz (.str out)) S (by unfold Res Rep; rfl) q) q
end

/-! ### statements -/
section
variable (T : Tab) (K : PySem.W.Frag) (W : WX) (z : Hd)
structure KS (H0 Hf0 : Hp) (k : Ko) (D : Ends) : Prop where
  nx : ∀ σ H Hf δ, Step Hf0 H0 Hf H → StOk T K z H0 Hf H σ δ → k.nx δ → D.nx σ H
  rt : ∀ v H Hf r, Step Hf0 H0 Hf H → Res T K Hf H H0 v r → k.rt r → D.rt v H
  bk : ∀ σ H Hf δ, Step Hf0 H0 Hf H → StOk T K z H0 Hf H σ δ → k.bk δ → D.bk σ H
  ct : ∀ σ H Hf δ, Step Hf0 H0 Hf H → StOk T K z H0 Hf H σ δ → k.ct δ → D.ct σ H
  xq : ∀ x cls d σ H Hf δ, Step Hf0 H0 Hf H → StOk T K z H0 Hf H σ δ → RepX T K Hf cls d x → k.xq x δ → W cls d σ H
def rdS (t : SW) : TS := fun D σ H => ∃ H0 Hf0 Hf δ k, Step Hf0 H0 Hf H ∧ StOk T K z H0 Hf H σ δ ∧ KS T K W z H0 Hf0 k D ∧ t k δ
end
def VS (X : Cx) (T : Tab) (W : WX) (z : Hd) (s : Stmt) (t : SW) : Prop := PS X s (rdS T X.K W z t)
def VSs (X : Cx) (T : Tab) (W : WX) (z : Hd) (s : List Stmt) (t : SW) : Prop := PSs X s (rdS T X.K W z t)
theorem PS.imp {X : Cx} {s : Stmt} {t t' : TS} (h : PS X s t) (i : ∀ D σ H, t' D σ H → t D σ H) : PS X s t' := ⟨fun pins s σ H D I q => h.run pins s σ H D I (i _ _ _ q)⟩
theorem PSs.imp {X : Cx} {s : List Stmt} {t t' : TS} (h : PSs X s t) (i : ∀ D σ H, t' D σ H → t D σ H) : PSs X s t' := ⟨fun pins s σ H D I q => h.run pins s σ H D I (i _ _ _ q)⟩
section
variable {T : Tab} {K : PySem.W.Frag} {W : WX} {z : Hd} {H0 Hf0 Hf H : Hp} {k : Ko} {En : Ends} {σ : L2.St} {δ : Fr}
theorem KS.xo (ks : KS T K W z H0 Hf0 k En) (s0 : Step Hf0 H0 Hf H) (st : StOk T K z H0 Hf H σ δ) : XOk T K W σ Hf H (fun x => k.xq x δ) := fun x cls d Hf' H' S r q => ks.xq x cls d σ H' Hf' δ (s0.trans S) (st.step S) r q
theorem Step.rebase {Hf1 H1 : Hp} (s1 : Step Hf0 H0 Hf1 H1) (s2 : Step Hf0 H0 Hf H) (e : Ex Hf1 Hf) : Step Hf1 H0 Hf H := ⟨e, s2.h, s2.i, fun a ha => by
  rcases s2.n a ha with h | h
  · left
    intro q
    cases e1 : Hf0 a with
    | none => exact h e1
    | some o =>
      rw [s1.f a o e1] at q
      cases q
  · exact .inr h⟩
theorem Step.unbase {Hf1 H1 : Hp} (s1 : Step Hf0 H0 Hf1 H1) (s2 : Step Hf1 H0 Hf H) : Step Hf0 H0 Hf H := ⟨s1.f.trans s2.f, s2.h, s2.i, fun a ha => by
  rcases s2.n a ha with h | h
  · exact s1.n a h
  · exact .inr h⟩
theorem KS.rebase {Hf1 H1 : Hp} (ks : KS T K W z H0 Hf0 k En) (s1 : Step Hf0 H0 Hf1 H1) : KS T K W z H0 Hf1 k En :=
  ⟨fun σ H Hf δ S => ks.nx σ H Hf δ (s1.unbase S), fun v H Hf r S => ks.rt v H Hf r (s1.unbase S), fun σ H Hf δ S => ks.bk σ H Hf δ (s1.unbase S), fun σ H Hf δ S => ks.ct σ H Hf δ (s1.unbase S), fun x cls d σ H Hf δ S => ks.xq x cls d σ H Hf δ (s1.unbase S)⟩
theorem KS.setNx (ks : KS T K W z H0 Hf0 k En) {M : Fr → Prop} {N : L2.St → Hp → Prop} (h : ∀ σ H Hf δ, Step Hf0 H0 Hf H → StOk T K z H0 Hf H σ δ → M δ → N σ H) : KS T K W z H0 Hf0 { k with nx := M } { En with nx := N } := ⟨h, ks.rt, ks.bk, ks.ct, ks.xq⟩
/-- a loop's body -/
theorem KS.loop (ks : KS T K W z H0 Hf0 k En) {M : Fr → Prop} {N : L2.St → Hp → Prop} (h : ∀ σ H Hf δ, Step Hf0 H0 Hf H → StOk T K z H0 Hf H σ δ → M δ → N σ H) : KS T K W z H0 Hf0 { k with nx := M, ct := M, bk := k.nx } { En with nx := N, ct := N, bk := En.nx } := ⟨h, ks.rt, ks.nx, h, ks.xq⟩
theorem join_set {α : Type} {l : List (Option α)} {i j : Nat} {v : Option α} : ((l.set i v)[j]?).join = if i = j ∧ j < l.length then v else (l[j]?).join := by
  rw [List.getElem?_set]
  by_cases h : i = j
  · subst h
    by_cases h2 : i < l.length
    · simp [h2]
    · simp [h2]
  · simp [h]
theorem StOk.set (st : StOk T K z H0 Hf H σ δ) {i : Nat} {v : V} {s : Sl} (h : SlOk T K z H0 Hf H (some v) (some s)) (hn : s.mine = true → ∀ j s', j ≠ i → δ[j]? = some (some s') → s'.mine = true → σ[j]? ≠ some (some v)) : StOk T K z H0 Hf H (σ.set i (some v)) (δ.set i (some s)) := by
  refine ⟨st.i, st.h0, by rw [List.length_set, List.length_set]; exact st.len, fun j => ?_, fun j j' s1 s2 a e1 e2 m1 m2 e3 e4 => ?_⟩
  · rw [join_set, join_set, st.len]
    by_cases q : i = j ∧ j < σ.length
    · rw [if_pos q, if_pos q]
      exact h
    · rw [if_neg q, if_neg q]
      exact st.at_ j
  · by_cases q : j = i
    · by_cases q' : j' = i
      · rw [q, q']
      · exfalso
        subst q
        rw [List.getElem?_set_ne (Ne.symm q')] at e2 e4
        rw [List.getElem?_set] at e1 e3
        simp only [if_true] at e1 e3
        split at e1
        · split at e3
          · have e1' := Option.some.inj (Option.some.inj e1)
            have e3' := Option.some.inj (Option.some.inj e3)
            subst e1'
            exact hn m1 j' s2 q' e2 m2 (by rw [e3']; exact e4)
          · cases e3
        · cases e1
    · rw [List.getElem?_set_ne (Ne.symm q)] at e1 e3
      by_cases q' : j' = i
      · exfalso
        subst q'
        rw [List.getElem?_set] at e2 e4
        simp only [if_true] at e2 e4
        split at e2
        · split at e4
          · have e2' := Option.some.inj (Option.some.inj e2)
            have e4' := Option.some.inj (Option.some.inj e4)
            subst e2'
            exact hn m2 j s1 q e1 m1 (by rw [e4']; exact e3)
          · cases e4
        · cases e2
      · rw [List.getElem?_set_ne (Ne.symm q')] at e2 e4
        exact st.ne j j' s1 s2 a e1 e2 m1 m2 e3 e4
theorem StOk.setF (st : StOk T K z H0 Hf H σ δ) {i : Nat} {v : V} {d : D} (h : Rep T K Hf d v) : StOk T K z H0 Hf H (σ.set i (some v)) (δ.set i (some (.fz d))) := st.set h fun e => by cases e
theorem slot_at (st : StOk T K z H0 Hf H σ δ) {i : Nat} {s : Sl} (e : δ[i]? = some (some s)) : ∃ v, σ[i]? = some (some v) ∧ SlOk T K z H0 Hf H (some v) (some s) := by
  have h := st.at_ i
  rw [e] at h
  cases e2 : σ[i]? with
  | none => rw [e2] at h; exact h.elim
  | some o =>
    cases o with
    | none => rw [e2] at h; exact h.elim
    | some v => rw [e2] at h; exact ⟨v, rfl, h⟩
/-- one's own list frozen -/
theorem frz_ok (s0 : Step Hf0 H0 Hf H) (st : StOk T K z H0 Hf H σ δ) (i : Nat) : ∃ Hf', Step Hf0 H0 Hf' H ∧ StOk T K z H0 Hf' H σ (δ.frz i) := by
  unfold Fr.frz
  split
  · rename_i xs e
    obtain ⟨v, ev, h⟩ := slot_at st e
    obtain ⟨a, vs, rfl, h1, h2, h3, h4⟩ := h
    have x1 : Ex Hf (upd Hf a (.lst vs)) := Ex.new h1
    have x2 : Ex (upd Hf a (.lst vs)) H := fun b u q => by
      by_cases hb : b = a
      · subst hb
        rw [upd_same] at q
        rw [← q]
        exact h3
      · rw [upd_ne hb] at q
        exact st.i b u q
    refine ⟨upd Hf a (.lst vs), ⟨s0.f.trans x1, s0.h, x2, fun b hb => ?_⟩, x2, st.h0, by rw [List.length_set]; exact st.len, fun j => ?_, fun j j' s1 s2 b e1 e2 m1 m2 e3 e4 => ?_⟩
    · by_cases q : b = a
      · subst q
        exact .inr h2
      · rw [upd_ne q] at hb
        exact s0.n b hb
    · rw [join_set]
      by_cases q : i = j ∧ j < δ.length
      · rw [if_pos q]
        rw [← q.1, ev]
        show Rep T K _ _ _
        unfold Rep
        exact ⟨a, vs, rfl, upd_same, h4.mono x1⟩
      · rw [if_neg q]
        have h := st.at_ j
        cases ej : δ[j]? with
        | none => exact True.intro
        | some o =>
          cases o with
          | none => exact True.intro
          | some s =>
            rw [ej] at h
            obtain ⟨w, ew, h⟩ := slot_at st ej
            rw [ew]
            have hj : i ≠ j := fun z => q ⟨z, (List.getElem?_eq_some_iff.mp ej).1⟩
            cases s with
            | fz d => exact h.mono x1
            | own ds =>
              obtain ⟨b, ws, rfl, g1, g2, g3, g4⟩ := h
              refine ⟨b, ws, rfl, ?_, g2, g3, g4.mono x1⟩
              rw [upd_ne fun z => ?_]
              · exact g1
              · subst z
                exact hj (st.ne i j _ _ b e ej rfl rfl ev ew)
            | lent ds =>
              obtain ⟨b, ws, e1, g1, g2, g3⟩ := h
              exact ⟨b, ws, e1, g1, g2, g3.mono x1⟩
            | ob c ds =>
              obtain ⟨b, dx, fs, rfl, g1, g0, g2, g3, g4⟩ := h
              refine ⟨b, dx, fs, rfl, ?_, g0, g2, g3, g4.mono x1⟩
              rw [upd_ne fun z => ?_]
              · exact g1
              · subst z
                rw [h3] at g2
                cases g2
            | exc c ds =>
              obtain ⟨b, cls, d, e1, g1, g2⟩ := h
              exact ⟨b, cls, d, e1, g1, g2.mono x1⟩
    · have get : ∀ {l : Nat} {s3 : Sl}, (δ.set i (some (Sl.fz (.lst xs))))[l]? = some (some s3) → s3.mine = true → δ[l]? = some (some s3) := fun {l s3} h hm => by
        by_cases q : i = l
        · subst q
          rw [List.getElem?_set] at h
          simp only [if_true] at h
          split at h
          · cases h
            cases hm
          · cases h
        · rwa [List.getElem?_set_ne q] at h
      exact st.ne j j' s1 s2 b (get e1 m1) (get e2 m2) m1 m2 e3 e4
  · exact ⟨Hf, s0, st⟩
end
section
variable {X : Cx} {T : Tab} {W : WX} {z : Hd} {c a b e : Expr} {t ta tb : EW} {p : TW} {sa sb sc : SW} {x y : Str} {pos pos' p0 p1 p2 : Pos} {s : Stmt} {ss rest : List Stmt} {i j : Nat}
theorem vss_nil : VSs X T W z [] sNext := PSs.imp pss_nil fun D σ H ⟨H0, Hf0, Hf, δ, k, s0, st, ks, q⟩ => ks.nx σ H Hf δ s0 st q
theorem seq_imp {D : Ends} {σ : L2.St} {H : Hp} (h : rdS T X.K W z (sSeq sa sb) D σ H) : tSeq (rdS T X.K W z sa) (rdS T X.K W z sb) D σ H := by
  obtain ⟨H0, Hf0, Hf, δ, k, s0, st, ks, q⟩ := h
  exact ⟨H0, Hf0, Hf, δ, { k with nx := fun δ' => sb k δ' }, s0, st, ks.setNx fun σ' H' Hf' δ' S st' q' => ⟨H0, Hf0, Hf', δ', k, S, st', ks, q'⟩, q⟩
theorem vss_cons (h1 : VS X T W z s sa) (h2 : VSs X T W z rest sb) : VSs X T W z (s :: rest) (sSeq sa sb) := PSs.imp (pss_cons h1 h2) fun D σ H h => seq_imp h
theorem vss_one (h1 : VS X T W z s sa) : VSs X T W z [s] sa := pss_one h1
theorem vss_cut (h1 : VS X T W z s sa) (h2 : VSs X T W z rest sb) : VSs X T W z (s :: rest) (sCut sa sb) := PSs.imp (pss_cons h1 h2) fun D σ H ⟨H0, Hf0, Hf, δ, k, s0, st, ks, M, q1, q2⟩ =>
  ⟨H0, Hf0, Hf, δ, { k with nx := M }, s0, st, ks.setNx fun σ' H' Hf' δ' S st' q' => ⟨H0, Hf0, Hf', δ', k, S, st', ks, q2 δ' q'⟩, q1⟩
theorem vss_frz (h : VSs X T W z ss sa) : VSs X T W z ss (sFreeze i sa) := PSs.imp h fun D σ H ⟨H0, Hf0, Hf, δ, k, s0, st, ks, q⟩ => by
  obtain ⟨Hf', s1, st1⟩ := frz_ok s0 st i
  exact ⟨H0, Hf0, Hf', δ.frz i, k, s1, st1, ks, q⟩
theorem vss_never : VSs X T W z ss sNever := PSs.imp pss_never fun D σ H ⟨H0, Hf0, Hf, δ, k, s0, st, ks, q⟩ => q
theorem vs_never : VS X T W z s sNever := PS.imp ps_never fun D σ H ⟨H0, Hf0, Hf, δ, k, s0, st, ks, q⟩ => q
theorem vs_pass : VS X T W z (.Pass pos) sNext := PS.imp ps_pass fun D σ H ⟨H0, Hf0, Hf, δ, k, s0, st, ks, q⟩ => ks.nx σ H Hf δ s0 st q
theorem vs_break : VS X T W z (.Break pos) sBrk := PS.imp ps_break fun D σ H ⟨H0, Hf0, Hf, δ, k, s0, st, ks, q⟩ => ks.bk σ H Hf δ s0 st q
theorem vs_cont : VS X T W z (.Continue pos) sCont := PS.imp ps_continue fun D σ H ⟨H0, Hf0, Hf, δ, k, s0, st, ks, q⟩ => ks.ct σ H Hf δ s0 st q
theorem vs_doc {w : Str} {n : Nat} : VS X T W z (.Expr (.Constant (.str w) n pos) pos') sNext := PS.imp ps_doc fun D σ H ⟨H0, Hf0, Hf, δ, k, s0, st, ks, q⟩ => ks.nx σ H Hf δ s0 st q
theorem vs_set (hN : X.N.Nodup) (he : VE X T W z e t) (hi : X.N[i]? = some x := by rfl) (hx : Loc X.env.scope x := by first | exact Or.inl rfl | exact Or.inr rfl) (hs : swapsWith e (some (.Name x pos')) pos.line X.env = pure false := by rfl)
    (hf : X.fn x = true ∨ X.env.scope.names.lookup x = some .local := by first | exact .inl rfl | exact .inr rfl) : VS X T W z (.Assign [.Name x pos'] e pos) (sSet i t) := PS.imp (ps_set hN hi hx he.toD hs hf) fun D σ H ⟨H0, Hf0, Hf, δ, k, s0, st, ks, q⟩ =>
  ⟨H0, Hf, δ, fun d => k.nx (δ.set i (some (.fz d))), _, st, ks.xo s0 st, fun v Hf' H' d S r hq => ks.nx _ H' Hf' _ (s0.trans S) ((st.step S).setF r) hq, q⟩
theorem vs_own (hN : X.N.Nodup) (he : VE X T W z e t) (hi : X.N[i]? = some x := by rfl) (hx : Loc X.env.scope x := by first | exact Or.inl rfl | exact Or.inr rfl) (hs : swapsWith e (some (.Name x pos')) pos.line X.env = pure false := by rfl)
    (hf : X.fn x = true ∨ X.env.scope.names.lookup x = some .local := by first | exact .inl rfl | exact .inr rfl) : VS X T W z (.Assign [.Name x pos'] e pos) (sOwn i t) := PS.imp (ps_set hN hi hx he hs hf) fun D σ H ⟨H0, Hf0, Hf, δ, k, s0, st, ks, q⟩ =>
  ⟨H0, Hf, δ, fun r => k.nx (δ.set i (some r.s)), _, st, ks.xo s0 st, fun v Hf' H' r S rs hq => (by
    refine ks.nx _ H' Hf' _ (s0.trans S) ?_ hq
    cases r with
    | fz d => exact (st.step S).setF rs
    | own ds =>
      obtain ⟨a, vs, rfl, h1, h2, h3, h4⟩ := rs
      refine (st.step S).set ⟨a, vs, rfl, h1, s0.h.fresh h2, h3, h4⟩ fun _ j s' hj ej hm e2 => ?_
      obtain ⟨w, ew, hw⟩ := slot_at st ej
      rw [ew] at e2
      cases e2
      cases s' with
      | own es =>
        obtain ⟨b, ws, e, g1, g2, g3, g4⟩ := hw
        cases e
        rw [h2] at g3
        cases g3
      | ob c es =>
        obtain ⟨b, dx, fs, e, g1, g0, g3, g4, g5⟩ := hw
        cases e
        rw [h2] at g3
        cases g3
      | _ => cases hm), q⟩
theorem vs_expr (he : VE X T W z e t) (hs : swapsWith e none pos.line X.env = pure false := by rfl) : VS X T W z (.Expr e pos) (sDrop t) := PS.imp (ps_expr he hs) fun D σ H ⟨H0, Hf0, Hf, δ, k, s0, st, ks, q⟩ =>
  ⟨H0, Hf, δ, fun _ => k.nx δ, _, st, ks.xo s0 st, fun v Hf' H' r S rs hq => ks.nx _ H' Hf' _ (s0.trans S) (st.step S) hq, q⟩
theorem res_base {Hf H Hb H1 Hf1 : Hp} {K : PySem.W.Frag} {v : V} {r : R} (e : Ex Hb H1) (h : Res T K Hf H H1 v r) : Res T K Hf H Hb v r := by
  cases r with
  | fz d => exact h
  | own ds =>
    obtain ⟨a, vs, e1, h1, h2, h3, h4⟩ := h
    exact ⟨a, vs, e1, h1, e.fresh h2, h3, h4⟩
theorem vs_ret (he : VE X T W z e t) : VS X T W z (.Return (some e) pos) (sRet t) := PS.imp (ps_ret he) fun D σ H ⟨H0, Hf0, Hf, δ, k, s0, st, ks, q⟩ =>
  ⟨H0, Hf, δ, k.rt, _, st, ks.xo s0 st, fun v Hf' H' r S rs hq => ks.rt v H' Hf' r (s0.trans S) (res_base (Hf1 := Hf) s0.h rs) hq, q⟩
theorem vs_retN : VS X T W z (.Return none pos) sRetN := PS.imp ps_retN fun D σ H ⟨H0, Hf0, Hf, δ, k, s0, st, ks, q⟩ => ks.rt .non H Hf (.fz .non) s0 (by unfold Res Rep; rfl) q
theorem vs_retO (hN : X.N[i]? = some x := by rfl) (hv : Vis X.env.scope x := by first | exact Or.inl rfl | exact Or.inr (Or.inl rfl) | exact Or.inr (Or.inr rfl)) (hd : (x == ("__debug__" : Str)) = false := by decide)
    (hcd : (x == ("__classdict__" : Str)) = false := by decide) : VS X T W z (.Return (some (.Name x pos)) pos') (sRetO i) := PS.imp (ps_ret (pe_var hN hv hd hcd)) fun D σ H ⟨H0, Hf0, Hf, δ, k, s0, st, ks, q⟩ => by
  unfold sRetO at q
  split at q
  · rename_i xs e
    obtain ⟨v, ev, h⟩ := slot_at st e
    exact ⟨v, ev, ks.rt v H Hf (.own xs) s0 h q⟩
  · rename_i d e
    obtain ⟨v, ev, h⟩ := slot_at st e
    exact ⟨v, ev, ks.rt v H Hf (.fz d) s0 h q⟩
  · exact q.elim
theorem vs_if {aa bb : List Stmt} (hc : VT X T W z c p) (ha : VSs X T W z aa sa) (hb : VSs X T W z bb sb) : VS X T W z (.If c aa bb pos) (sIf p sa sb) := PS.imp (ps_if hc ha hb) fun D σ H ⟨H0, Hf0, Hf, δ, k, s0, st, ks, q⟩ =>
  ⟨H0, Hf, δ, _, _, st, ks.xo s0 st, fun bq Hf' H' S (hq : if bq = true then sa k δ else sb k δ) => by
    cases bq with
    | true => exact ⟨H0, Hf0, Hf', δ, k, s0.trans S, st.step S, ks, hq⟩
    | false => exact ⟨H0, Hf0, Hf', δ, k, s0.trans S, st.step S, ks, hq⟩, q⟩
theorem vs_par {px py pt : Pos} {kt k2 pt2} (hc : X.calm = true) (hN : X.N.Nodup) (ha : VE X T W z a ta) (hb : VE X T W z b tb) (hi : X.N[i]? = some x := by rfl) (hj : X.N[j]? = some y := by rfl) (hij : i ≠ j := by decide)
    (hx : X.env.scope.names.lookup x = some .local := by rfl) (hy : X.env.scope.names.lookup y = some .local := by rfl)
    (hw : swappedStores [.Tuple [.Name x px, .Name y py] kt pt] (.Tuple [a, b] k2 pt2) X.env = pure (some [x, y]) := by rfl)
    (hs : swapsWithSole [.Tuple [.Name x px, .Name y py] kt pt] (.Tuple [a, b] k2 pt2) pos.line X.env = pure false := by rfl)
    (hst : starEach [a, b] X.env = (false, eval a X.env) :: starEach [b] X.env := by rfl) (hst2 : starEach [b] X.env = (false, eval b X.env) :: starEach [] X.env := by rfl) :
    VS X T W z (.Assign [.Tuple [.Name x px, .Name y py] kt pt] (.Tuple [a, b] k2 pt2) pos) (sPar i j ta tb) :=
  PS.imp (ps_par hc hN hi hj hij hx hy (va_cons ha (va_cons hb va_nil hst2) hst) hw hs) fun D σ H ⟨H0, Hf0, Hf, δ, k, s0, st, ks, q⟩ =>
    ⟨H0, Hf, δ, fun ds => ∃ d e, ds = [d, e] ∧ k.nx ((δ.set i (some (.fz d))).set j (some (.fz e))), _, st, ks.xo s0 st, fun vs Hf' H' ds S r ⟨d, e, ed, hq⟩ => by
      subst ed
      obtain ⟨d1, dr, v1, vr, e1, rfl, h1, d2, dr2, v2, vr2, e2, rfl, h2, e3, rfl⟩ := r
      cases e1
      cases e2
      exact ⟨v1, v2, rfl, ks.nx _ H' Hf' _ (s0.trans S) (((st.step S).setF h1).setF h2) hq⟩, by
      unfold sPar at q
      show ta δ (fun r => tb δ (fun s => ∃ d e, [r.d, s.d] = [d, e] ∧ _) _) _
      have : (fun (r : R) => tb δ (fun s => ∃ d e, [r.d, s.d] = [d, e] ∧ k.nx ((δ.set i (some (.fz d))).set j (some (.fz e)))) (fun x => k.xq x δ)) = (fun r => tb δ (fun s => k.nx ((δ.set i (some (.fz r.d))).set j (some (.fz s.d)))) (fun x => k.xq x δ)) := by
        funext r
        congr 1
        funext s
        apply propext
        constructor
        · rintro ⟨d, e, h, q⟩
          cases h
          exact q
        · intro q
          exact ⟨_, _, rfl, q⟩
      rw [this]
      exact q⟩
end
end VL
end
section
set_option Elab.async false
set_option linter.all false
set_option maxRecDepth 100000
set_option maxHeartbeats 4000000
/-! VLs12: op=, targets, loops, lists that change, fields of self. -/
namespace VL
open PySem PySem.Spec PyProof.Rows L2
/-! ### op= of instances -/
section
variable {X : Cx} {T : Tab} {W : WX} {z : Hd} {k : Nat} {dn : Dun}
theorem opv_inp (o : OpC X T W k dn) {m : Dn} {op : Operator} (hm : m.ms = [false, false]) (hnm : PySem.dunder op.info.2 = m.nm) (hop : op.info.2 ∈ opNames) {fo ro : Option Value} (h1 : ∀ K, PySem.W.findIn K (.type "int") (PySem.dunder op.info.2) = some fo)
    (h2 : ∀ K, PySem.W.findIn K (.type "int") (dunderR op.info.2) = some ro) : OpV X T W (inplaceOp op) (opObj dn m) := by
  intro pins s σ H Hf x y u v dx dy Q Xq Qv I rx ry i hx hy xo kt q
  have go : ∀ {c : Nat} {xs : List D}, Rep T X.K Hf (.obj c xs) x → objL dn m c xs dy Q Xq → ((∃ j, dy = .int j) ∨ ∃ ys, dy = .obj c ys) → wpAny (model X.prog X.w) X.A (inplaceOp op u v) (EP X pins σ Qv) X.xe s := fun {c xs} hx q hd => by
    obtain ⟨a, dx', fs, e1, hc, hH, _⟩ := hx.objU i
    subst e1
    obtain rfl : u = Value.ref a := rx
    obtain ⟨od, J, _⟩ := inst_at I hH
    obtain ⟨cd, hcd, hn⟩ := (o.lib.cl c hc).ni _ hop
    exact PySem.W.vl_inp J.type (PySem.W.vl_fillsI I.kIn hcd hn) (bin_objL (v := .ref a) o hm hnm hop (h1 _) (h2 _) I i rfl hx ry hy xo kt q hd)
  unfold opObj at q
  split at q
  · exact go hx q (.inl ⟨_, rfl⟩)
  · rename_i c xs c' ys
    obtain ⟨e, q⟩ := q
    subst e
    exact go hx q (.inr ⟨_, rfl⟩)
  · exact q.elim
theorem opv_iadd (o : OpC X T W k dn) : OpV X T W (inplaceOp .Add) (opObj dn .add) := opv_inp o rfl dun_add (by decide) (fun _ => rfl) (fun _ => rfl)
theorem opv_isub (o : OpC X T W k dn) : OpV X T W (inplaceOp .Sub) (opObj dn .sub) := opv_inp o rfl dun_sub (by decide) (fun _ => rfl) (fun _ => rfl)
theorem opv_imul (o : OpC X T W k dn) : OpV X T W (inplaceOp .Mult) (opObj dn .mul) := opv_inp o rfl dun_mul (by decide) (fun _ => rfl) (fun _ => rfl)
theorem opv_imod (o : OpC X T W k dn) : OpV X T W (inplaceOp .Mod) (opObj dn .mod) := opv_inp o rfl dun_mod (by decide) (fun _ => rfl) (fun _ => rfl)
theorem opv_ifdiv (o : OpC X T W k dn) : OpV X T W (inplaceOp .FloorDiv) (opObj dn .fdiv) := opv_inp o rfl dun_fdiv (by decide) (fun _ => rfl) (fun _ => rfl)
theorem opv_ibor (o : OpC X T W k dn) : OpV X T W (inplaceOp .BitOr) (opObj dn .bor) := opv_inp o rfl dun_bor (by decide) (fun _ => rfl) (fun _ => rfl)
theorem opv_iband (o : OpC X T W k dn) : OpV X T W (inplaceOp .BitAnd) (opObj dn .band) := opv_inp o rfl dun_band (by decide) (fun _ => rfl) (fun _ => rfl)
theorem opv_ilsh (o : OpC X T W k dn) : OpV X T W (inplaceOp .LShift) (opObj dn .lsh) := opv_inp o rfl dun_lsh (by decide) (fun _ => rfl) (fun _ => rfl)
theorem opv_irsh (o : OpC X T W k dn) : OpV X T W (inplaceOp .RShift) (opObj dn .rsh) := opv_inp o rfl dun_rsh (by decide) (fun _ => rfl) (fun _ => rfl)
end
section
variable {X : Cx} {T : Tab} {W : WX} {z : Hd} {c a b e o : Expr} {t ta tb : EW} {p : TW} {sa sb sc : SW} {x y : Str} {pos pos' p0 p1 p2 : Pos} {s : Stmt} {ss rest : List Stmt} {i j : Nat} {w2 : Op2}
theorem vs_aug {op : Operator} (hN : X.N.Nodup) (ho : OpV X T W (inplaceOp op) w2) (he : VE X T W z e t) (hi : X.N[i]? = some x := by rfl) (hx : Loc X.env.scope x := by first | exact Or.inl rfl | exact Or.inr rfl)
    (hf : X.fn x = true ∨ X.env.scope.names.lookup x = some .local := by first | exact .inl rfl | exact .inr rfl) : VS X T W z (.AugAssign (.Name x pos') op e pos) (sAug i w2 t) := by
  refine ⟨fun pins s σ H En I ⟨H0, Hf0, Hf, δ, k, s0, st, ks, q⟩ => ?_⟩
  unfold sAug at q
  split at q
  · rename_i d ed
    obtain ⟨v, ev, hv⟩ := slot_at st ed
    obtain ⟨m, hn, hl⟩ := I.loc
    have vis : Vis X.env.scope x := by rcases hx with k | k; exact .inl k; exact .inr (.inl k)
    obtain ⟨u, r, l⟩ := hl i x v hi ev vis
    refine wpAny_AugAssign_Name ?_
    have go : wpAny (model X.prog X.w) X.A (eval e X.env) (fun w s₂ => wpAny (model X.prog X.w) X.A (inplaceOp op u w) (fun r s₃ => wpAny (model X.prog X.w) X.A (storeName X.env x r) (fun _ => SP X pins En .next) X.xe s₃) X.xe s₂) X.xe s := by
      refine thn (he.toD.one (Q2 := fun d' => w2 d d' (fun z => k.nx (δ.set i (some (.fz z.d)))) (fun x => k.xq x δ)) I st (ks.xo s0 st) q) fun w s1 ⟨y, H1, Hf1, d1, I1, r1, S1, rp1, q1⟩ => ?_
      have hv1 : Rep T X.K Hf1 d v := Rep.mono S1.f hv
      refine thn (ho pins s1 σ H1 Hf1 v y u w d d1 _ _ (fun v' H' => ∃ Hf' d', Step Hf1 H1 Hf' H' ∧ Rep T X.K Hf' d' v' ∧ k.nx (δ.set i (some (.fz d')))) I1 r r1 S1.i hv1 rp1 ((ks.xo s0 st).step S1) (fun v' Hf' H' r' S rs hq => ?_) q1) fun zv s2 ⟨v', H2, I2, r2, Hf2, d', S2, rp2, q2⟩ => ?_
      · obtain ⟨Hf2, S2, rp⟩ := rs.freeze S
        exact ⟨Hf2, r'.d, S2, rp, hq⟩
      · have S12 := S1.trans S2
        exact store_ok I2 hN hi hx r2 (fun s3 I3 => ⟨_, H2, I3, ks.nx _ H2 Hf2 _ (s0.trans S12) ((st.step S12).setF rp2) q2⟩) hf
    rcases l with ⟨hk, hm⟩ | ⟨hk, c, hc, hcell⟩
    · exact wpAny_loadName_local I.ok.kind hk hn hm go
    · rcases hk with hk | hk
      · exact wpAny_loadName_cell I.ok.kind hk hc hcell go
      · rcases hx with k | k
        · have : X.env.scope.names.lookup x = some .free := hk
          rw [k] at this; cases this
        · have : X.env.scope.names.lookup x = some .free := hk
          rw [k] at this; cases this
  · exact q.elim
end
/-! ### targets -/
def rdG (T : Tab) (K : PySem.W.Frag) (z : Hd) (g : Tg) : TG := fun v σ H Q => ∃ H0 Hf δ d, ∃ Qd : Fr → Prop, StOk T K z H0 Hf H σ δ ∧ Rep T K Hf d v ∧ (∀ σ' δ', StOk T K z H0 Hf H σ' δ' → Qd δ' → Q σ' H) ∧ g.go d δ Qd
def rdGs (T : Tab) (K : PySem.W.Frag) (z : Hd) (gs : List Tg) : TGs := fun vs σ H Q => ∃ H0 Hf δ ds, ∃ Qd : Fr → Prop, StOk T K z H0 Hf H σ δ ∧ RepL T K Hf ds vs ∧ (∀ σ' δ', StOk T K z H0 Hf H σ' δ' → Qd δ' → Q σ' H) ∧ (match Tg.puts gs ds δ with | some δ' => Qd δ' | none => False)
def VG (X : Cx) (T : Tab) (z : Hd) (e : Expr) (g : Tg) : Prop := PG X e (rdG T X.K z g)
def VGs (X : Cx) (T : Tab) (z : Hd) (es : List Expr) (gs : List Tg) : Prop := PGs X es (rdGs T X.K z gs)
theorem PG.imp {X : Cx} {e : Expr} {t t' : TG} (h : PG X e t) (i : ∀ v σ H Q, t' v σ H Q → t v σ H Q) : PG X e t' := ⟨fun pins s σ H v u Q I r q => h.run pins s σ H v u Q I r (i _ _ _ _ q)⟩
theorem PGs.imp {X : Cx} {e : List Expr} {t t' : TGs} (h : PGs X e t) (i : ∀ v σ H Q, t' v σ H Q → t v σ H Q) : PGs X e t' := ⟨fun pins s σ H v u Q I r q => h.run pins s σ H v u Q I r (i _ _ _ _ q)⟩
section
variable {X : Cx} {T : Tab} {W : WX} {z : Hd} {e iter : Expr} {es : List Expr} {g : Tg} {gs : List Tg} {x : Str} {pos : Pos} {i : Nat}
theorem vg_nm (hN : X.N.Nodup) (hi : X.N[i]? = some x := by rfl) (hx : Loc X.env.scope x := by first | exact Or.inl rfl | exact Or.inr rfl) (hf : X.fn x = true ∨ X.env.scope.names.lookup x = some .local := by first | exact .inl rfl | exact .inr rfl) : VG X T z (.Name x pos) (.nm i) :=
  PG.imp (pg_name hN hi hx hf) fun v σ H Q ⟨H0, Hf, δ, d, Qd, st, r, kt, q⟩ => kt _ _ (st.setF r) (by unfold Tg.go Tg.put at q; exact q)
theorem vgs_nil : VGs X T z [] [] := PGs.imp pgs_nil fun vs σ H Q ⟨H0, Hf, δ, ds, Qd, st, r, kt, q⟩ => by
  cases ds with
  | nil =>
    rw [repL_nil.mp r]
    unfold Tg.puts at q
    exact ⟨rfl, kt _ _ st q⟩
  | cons d ds =>
    unfold Tg.puts at q
    exact q.elim
theorem vgs_cons (h1 : VG X T z e g) (h2 : VGs X T z es gs) (hs : (assignEach (e :: es) X.env).map (·.2) = assign e X.env :: (assignEach es X.env).map (·.2) := by rfl) : VGs X T z (e :: es) (g :: gs) :=
  PGs.imp (pgs_cons h1 h2 hs) fun vs σ H Q ⟨H0, Hf, δ, ds, Qd, st, r, kt, q⟩ => by
    cases ds with
    | nil =>
      unfold Tg.puts at q
      exact q.elim
    | cons d ds =>
      obtain ⟨v, w, rfl, r1, r2⟩ := repL_cons.mp r
      unfold Tg.puts at q
      cases e1 : g.put d δ with
      | none => rw [e1] at q; exact q.elim
      | some δ1 =>
        rw [e1] at q
        refine ⟨v, w, rfl, H0, Hf, δ, d, fun δ' => δ' = δ1, st, r1, fun σ' δ' st' ed => ?_, by unfold Tg.go; rw [e1]⟩
        subst ed
        exact ⟨H0, Hf, δ', ds, Qd, st', r2, kt, q⟩
theorem vg_tup {k : Nat} (hc : X.calm = true) (h : VGs X T z es gs) (hn : (assignEach es X.env).length = gs.length := by rfl) (hst : (assignEach es X.env).findIdx? (·.1) = none := by rfl) : VG X T z (.Tuple es k pos) (.tp gs) :=
  PG.imp (pg_tup hc h hn hst) fun v σ H Q ⟨H0, Hf, δ, d, Qd, st, r, kt, q⟩ => by
    cases d with
    | tup ds =>
      unfold Tg.go Tg.put at q
      unfold Rep at r
      obtain ⟨a, vs, e1, e2, e3⟩ := r
      refine ⟨a, vs, e1, SqT.of (st.i _ _ e2), ?_, H0, Hf, δ, ds, Qd, st, e3, kt, q⟩
      rw [← e3.length]
      have : ∀ {gs : List Tg} {ds : List D} {δ δ' : Fr}, Tg.puts gs ds δ = some δ' → ds.length = gs.length := fun {gs} => by
        induction gs with
        | nil =>
          intro ds δ δ' h
          cases ds with
          | nil => rfl
          | cons d ds => unfold Tg.puts at h; cases h
        | cons g gs ih =>
          intro ds δ δ' h
          cases ds with
          | nil => unfold Tg.puts at h; cases h
          | cons d ds =>
            unfold Tg.puts at h
            cases e1 : g.put d δ with
            | none => rw [e1] at h; cases h
            | some δ1 =>
              rw [e1] at h
              rw [List.length_cons, List.length_cons, ih h]
      cases e5 : Tg.puts gs ds δ with
      | none => rw [e5] at q; exact q.elim
      | some δ' => exact this e5
    | _ => unfold Tg.go Tg.put at q; exact q.elim
end
/-! ### what is walked -/
def ItOk (T : Tab) (K : PySem.W.Frag) (H0 Hf H : Hp) (J : It) (items : List D) : Prop := ∀ Hf1 H1, Ex Hf Hf1 → Ex Hf1 H1 → (∀ a o, H0 a ≠ none → H a = some o → H1 a = some o) → (∀ i d, items[i]? = some d → J.go i H1 ∧ ∀ x H2, J.yld i H1 x H2 → ∃ Hf2, Step Hf1 H1 Hf2 H2 ∧ Rep T K Hf2 d x) ∧ J.stop items.length H1
def rdI (T : Tab) (K : PySem.W.Frag) (W : WX) (z : Hd) (t : IW) : TI := fun σ H R => ∃ H0 Hf δ Q X, StOk T K z H0 Hf H σ δ ∧ XOk T K W σ Hf H X ∧ (∀ J Hf' H' items, Step Hf H Hf' H' → ItOk T K H0 Hf' H' J items → Q items → R J H') ∧ t δ Q X
def VI (X : Cx) (T : Tab) (W : WX) (z : Hd) (tg iter : Expr) (t : IW) : Prop := PI X tg iter (rdI T X.K W z t)
theorem PI.imp {X : Cx} {tg e : Expr} {t t' : TI} (h : PI X tg e t) (i : ∀ σ H R, t' σ H R → t σ H R) : PI X tg e t' := ⟨fun pins s σ H R I q => h.run pins s σ H R I (i _ _ _ q)⟩
section
variable {X : Cx} {T : Tab} {W : WX} {z : Hd} {e iter tg a b : Expr} {t ta tb : EW} {es : List Expr} {g : Tg} {gs : List Tg} {x : Str} {pos p0 : Pos} {i : Nat} {ti : IW} {sb : SW} {p : TW} {c : Expr}
theorem itl_ok {H0 Hf H : Hp} {p : Addr} {ds : List D} {vs : List V} (e1 : Hf p = some (.lst vs)) (e2 : RepL T X.K Hf ds vs) : ItOk T X.K H0 Hf H (Itl X.K p) ds := fun Hf1 H1 x1 x2 _ => by
  have q := SqL.of (K := X.K) (x2 _ _ (x1 _ _ e1))
  refine ⟨fun i d ed => ?_, ⟨vs, q, by rw [e2.length]; exact Nat.le_refl _⟩⟩
  obtain ⟨v, ev, rv⟩ := e2.getD ed
  refine ⟨⟨vs, v, q, ev⟩, fun x H2 ⟨h1, h2⟩ => ?_⟩
  subst h1
  have := h2 vs q
  rw [ev] at this
  cases this
  exact ⟨Hf1, Step.refl x2, rv.mono x1⟩
theorem itt_ok {H0 Hf H : Hp} {p : Addr} {ds : List D} {vs : List V} (e1 : Hf p = some (.tup vs)) (e2 : RepL T X.K Hf ds vs) : ItOk T X.K H0 Hf H (Itt X.K p) ds := fun Hf1 H1 x1 x2 _ => by
  have q := SqT.of (K := X.K) (x2 _ _ (x1 _ _ e1))
  refine ⟨fun i d ed => ?_, ⟨vs, q, by rw [e2.length]; exact Nat.le_refl _⟩⟩
  obtain ⟨v, ev, rv⟩ := e2.getD ed
  refine ⟨⟨vs, v, q, ev⟩, fun x H2 ⟨h1, h2⟩ => ?_⟩
  subst h1
  have := h2 vs q
  rw [ev] at this
  cases this
  exact ⟨Hf1, Step.refl x2, rv.mono x1⟩
theorem ints_len (lo : Int) (n : Nat) : (intsFrom lo n).length = n := by simp [intsFrom]
theorem ints_get {lo : Int} {n i : Nat} {d : D} (h : (intsFrom lo n)[i]? = some d) : i < n ∧ d = .int (lo + (i : Int)) := by
  unfold intsFrom at h
  rw [List.getElem?_map] at h
  have hi : i < n := by
    by_cases q : i < n
    · exact q
    · rw [List.getElem?_eq_none_iff.mpr (by rw [List.length_range]; omega)] at h
      cases h
  rw [List.getElem?_range hi] at h
  exact ⟨hi, (Option.some.inj h).symm⟩
theorem itr_ok {H0 Hf H : Hp} {lo : Int} {n : Nat} : ItOk T X.K H0 Hf H (Itr lo n) (intsFrom lo n) := fun Hf1 H1 x1 x2 _ => by
  refine ⟨fun i d ed => ?_, show n ≤ _ by rw [ints_len]; exact Nat.le_refl _⟩
  obtain ⟨hi, rfl⟩ := ints_get ed
  refine ⟨hi, fun x H2 ⟨h1, h2⟩ => ?_⟩
  subst h1 h2
  exact ⟨Hf1, Step.refl x2, by unfold Rep; rfl⟩
theorem vi_seq (he : VE X T W z e t) : VI X T W z tg e (iSeq t) := by
  refine ⟨fun pins s σ H R I ⟨H0, Hf, δ, Q, Xq, st, xo, kt, q⟩ => ?_⟩
  refine thn (he.toD.one (Q2 := fun d => match seqOf d with | some ds => Q ds | none => False) I st xo q) fun v s1 ⟨w, H1, Hf1, d, I1, r1, S, rp, hq⟩ => ?_
  cases d with
  | lst ds =>
    unfold Rep at rp
    obtain ⟨p, vs, rfl, e1, e2⟩ := rp
    cases r1
    obtain ⟨its, rv, pl, hz⟩ := I1.list (SqL.of (S.i _ _ e1))
    refine wpAny_pyIter_list pl.isList ?_
    refine ⟨s1.heap.objs.size, [s1.heap.objs.size], _, _, H1, rfl, I1.kept (t' := s1.toks) fun b o e => Heap.get?_push_of_some _ e, turn_list p _, ⟨_, Heap.get?_push_size _ rfl, rfl, rfl⟩, fun b hb => ?_, kt _ Hf1 H1 ds S (itl_ok e1 e2) hq⟩
    have e : b = s1.heap.objs.size := by simpa using hb
    subst e
    exact I1.fpOk (Nat.le_refl _) (I1.hok.fresh (Nat.le_refl _))
  | tup ds =>
    unfold Rep at rp
    obtain ⟨p, vs, rfl, e1, e2⟩ := rp
    cases r1
    obtain ⟨its, rv, pl, hz⟩ := I1.tuple (SqT.of (S.i _ _ e1))
    refine wpAny_pyIter_tuple (show s1.heap.IsTuple p its.toArray from pl) ?_
    refine ⟨s1.heap.objs.size, [s1.heap.objs.size], _, _, H1, rfl, I1.kept (t' := s1.toks) fun b o e => Heap.get?_push_of_some _ e, turn_tuple p _, ⟨_, Heap.get?_push_size _ rfl, rfl, rfl⟩, fun b hb => ?_, kt _ Hf1 H1 ds S (itt_ok e1 e2) hq⟩
    have e : b = s1.heap.objs.size := by simpa using hb
    subst e
    exact I1.fpOk (Nat.le_refl _) (I1.hok.fresh (Nat.le_refl _))
  | _ => exact hq.elim
/-- a list that is only lent -/
theorem itL_ok {H0 Hf H : Hp} {p : Addr} {ds : List D} {vs : List V} (h0 : H0 p ≠ none) (e1 : H p = some (.lst vs)) (e2 : RepL T X.K Hf ds vs) : ItOk T X.K H0 Hf H (Itl X.K p) ds := fun Hf1 H1 x1 x2 kp => by
  have q := SqL.of (K := X.K) (kp _ _ h0 e1)
  refine ⟨fun i d ed => ?_, ⟨vs, q, by rw [e2.length]; exact Nat.le_refl _⟩⟩
  obtain ⟨v, ev, rv⟩ := e2.getD ed
  refine ⟨⟨vs, v, q, ev⟩, fun x H2 ⟨h1, h2⟩ => ?_⟩
  subst h1
  have := h2 vs q
  rw [ev] at this
  cases this
  exact ⟨Hf1, Step.refl x2, rv.mono x1⟩
/-- a name that is walked: frozen or lent -/
theorem vi_name (hN : X.N[i]? = some x := by rfl) (hv : Vis X.env.scope x := by first | exact Or.inl rfl | exact Or.inr (Or.inl rfl) | exact Or.inr (Or.inr rfl)) (hd : (x == ("__debug__" : Str)) = false := by decide) (hcd : (x == ("__classdict__" : Str)) = false := by decide) : VI X T W z tg (.Name x pos) (iName i) := by
  refine ⟨fun pins s σ H R I ⟨H0, Hf, δ, Q, Xq, st, xo, kt, q⟩ => ?_⟩
  unfold iName at q
  have go : ∀ {v : V}, σ[i]? = some (some v) → (∃ p vs ds, v = .ref p ∧ ((∃ (e : SqL X.K H p vs), ItOk T X.K H0 Hf H (Itl X.K p) ds) ∨ (∃ (e : SqT X.K H p vs), ItOk T X.K H0 Hf H (Itt X.K p) ds)) ∧ Q ds) → wpAny (model X.prog X.w) X.A (eval (.Name x pos) X.env) (fun xv s1 => wpAny (model X.prog X.w) X.A (pyIter xv) (PIE X pins σ tg R) X.xe s1) X.xe s := by
    intro v ev ⟨p, vs, ds, e, hh, hq⟩
    subst e
    refine thn ((pe_var (pos := pos) hN hv hd hcd).run pins s σ H (fun u H1 => u = .ref p ∧ H1 = H) I ⟨_, ev, rfl, rfl⟩) fun u s1 ⟨w, H1, I1, r1, ew, eH⟩ => ?_
    subst ew eH
    cases r1
    have fo : ∀ b ∈ [s1.heap.objs.size], FpOk X pins H1 b := fun b hb => by
      have e : b = s1.heap.objs.size := by simpa using hb
      subst e
      exact I1.fpOk (Nat.le_refl _) (I1.hok.fresh (Nat.le_refl _))
    rcases hh with ⟨sq, ok⟩ | ⟨sq, ok⟩
    · obtain ⟨its, rv, pl, hz⟩ := I1.list sq
      refine wpAny_pyIter_list pl.isList ?_
      exact ⟨s1.heap.objs.size, [s1.heap.objs.size], _, _, H1, rfl, I1.kept (t' := s1.toks) fun b o e => Heap.get?_push_of_some _ e, turn_list p _, ⟨_, Heap.get?_push_size _ rfl, rfl, rfl⟩, fo, kt _ Hf H1 ds (Step.refl st.i) ok hq⟩
    · obtain ⟨its, rv, pl, hz⟩ := I1.tuple sq
      refine wpAny_pyIter_tuple (show s1.heap.IsTuple p its.toArray from pl) ?_
      exact ⟨s1.heap.objs.size, [s1.heap.objs.size], _, _, H1, rfl, I1.kept (t' := s1.toks) fun b o e => Heap.get?_push_of_some _ e, turn_tuple p _, ⟨_, Heap.get?_push_size _ rfl, rfl, rfl⟩, fo, kt _ Hf H1 ds (Step.refl st.i) ok hq⟩
  split at q
  · rename_i d e
    obtain ⟨v, ev, h⟩ := slot_at st e
    cases d with
    | lst ds =>
      have h : Rep T X.K Hf (.lst ds) v := h
      unfold Rep at h
      obtain ⟨p, vs, rfl, e1, e2⟩ := h
      exact go ev ⟨p, vs, ds, rfl, .inl ⟨SqL.of (st.i _ _ e1), itl_ok e1 e2⟩, q⟩
    | tup ds =>
      have h : Rep T X.K Hf (.tup ds) v := h
      unfold Rep at h
      obtain ⟨p, vs, rfl, e1, e2⟩ := h
      exact go ev ⟨p, vs, ds, rfl, .inr ⟨SqT.of (st.i _ _ e1), itt_ok e1 e2⟩, q⟩
    | _ => exact q.elim
  · rename_i ds e
    obtain ⟨v, ev, p, vs, rfl, g1, g2, g3⟩ := slot_at st e
    exact go ev ⟨p, vs, ds, rfl, .inl ⟨SqL.of g2, itL_ok g1 g2 g3⟩, q⟩
  · exact q.elim
theorem vi_rng1 (hg : Gl X "range") (hm : X.mg "range" = none) (ha : VE X T W z a ta) (hs : starEach [a] X.env = [(false, eval a X.env)] := by rfl) : VI X T W z tg (.Call (.Name "range" p0) [a] [] pos) (iRng1 ta) :=
  PI.imp (pi_range1 hg hm (va_cons ha va_nil hs) hs) fun σ H R ⟨H0, Hf, δ, Q, Xq, st, xo, kt, q⟩ =>
    ⟨H0, Hf, δ, fun ds => (match ds with | [d] => (match d with | .int n => small62 n ∧ Q (intsFrom 0 n.toNat) | _ => False) | _ => False), Xq, st, xo, fun vs Hf' H' ds S r hq => by
      simp only [] at hq
      split at hq
      · split at hq
        · have r := r.rep rfl
          obtain ⟨v, w, rfl, r1, r2⟩ := repL_cons.mp r
          unfold Rep at r1
          subst r1
          rw [repL_nil.mp r2]
          exact ⟨_, rfl, hq.1.1, hq.1.2, kt _ Hf' H' _ S itr_ok hq.2⟩
        · exact hq.elim
      · exact hq.elim, q⟩
theorem vi_rng2 (hg : Gl X "range") (hm : X.mg "range" = none) (ha : VE X T W z a ta) (hb : VE X T W z b tb) (hs : starEach [a, b] X.env = [(false, eval a X.env), (false, eval b X.env)] := by rfl) (hs2 : starEach [b] X.env = [(false, eval b X.env)] := by rfl) :
    VI X T W z tg (.Call (.Name "range" p0) [a, b] [] pos) (iRng2 ta tb) :=
  PI.imp (pi_range2 hg hm (va_cons ha (va_cons hb va_nil hs2) (by rw [hs, hs2])) hs hs2) fun σ H R ⟨H0, Hf, δ, Q, Xq, st, xo, kt, q⟩ =>
    ⟨H0, Hf, δ, fun ds => (match ds with | [d, e] => (match d, e with | .int lo, .int hi => (small62 lo ∧ small62 hi) ∧ Q (intsFrom lo (hi - lo).toNat) | _, _ => False) | _ => False), Xq, st, xo, fun vs Hf' H' ds S r hq => by
      simp only [] at hq
      split at hq
      · split at hq
        · have r := r.rep rfl
          obtain ⟨v, w, rfl, r1, r2⟩ := repL_cons.mp r
          obtain ⟨v2, w2, rfl, r3, r4⟩ := repL_cons.mp r2
          unfold Rep at r1 r3
          subst r1 r3
          rw [repL_nil.mp r4]
          exact ⟨_, _, rfl, ⟨hq.1.1.1, hq.1.1.2, hq.1.2.1, hq.1.2.2⟩, kt _ Hf' H' _ S itr_ok hq.2⟩
        · exact hq.elim
      · exact hq.elim, q⟩
/-! ### loops -/
variable {ss : List Stmt}
theorem vs_for (hp : PassesOwn (model X.prog X.w) X.A X.env X.xe) (hc : X.calm = true) (hi : VI X T W z tg iter ti) (hg : VG X T z tg g) (hb : VSs X T W z ss sb) (hs : ∀ x, foldedSetIterable iter X.env x = pure x := by intro _; rfl) :
    VS X T W z (.For tg iter ss [] pos) (sFor g ti sb) := PS.imp (ps_for hp hc hi hg hb hs) fun En σ H ⟨H0, Hf0, Hf, δ, k, s0, st, ks, q⟩ =>
  ⟨H0, Hf, δ, _, _, st, ks.xo s0 st, fun J Hf1 H1 items S1 ok (hq : loopI g sb items k δ) => by
    obtain ⟨Wv, w0, step, done⟩ := hq
    have ks1 := ks.rebase (s0.trans S1)
    have s1 : Step Hf1 H0 Hf1 H1 := (s0.trans S1).rebase (s0.trans S1) (Ex.refl _)
    let Pv : Nat → L2.St → Hp → Prop := fun i σ' H' => ∃ Hf' δ', Step Hf1 H0 Hf' H' ∧ StOk T X.K z H0 Hf' H' σ' δ' ∧ Wv i δ'
    refine ⟨fun i m σ' H' => m = items.length - i ∧ i ≤ items.length ∧ Pv i σ' H', ⟨items.length, by simp, Nat.zero_le _, Hf1, δ, s1, st.step S1, w0⟩, ?_⟩
    rintro i m σ' H' ⟨rfl, hi, Hf', δ', S', st', w'⟩
    obtain ⟨gos, stop⟩ := ok Hf' H' S'.f S'.i fun a o ha h1 => by
      cases e0 : H0 a with
      | none => exact absurd e0 ha
      | some o0 =>
        have := s1.h a o0 e0
        rw [h1] at this
        rw [this]
        exact S'.h a o0 e0
    by_cases hlt : i < items.length
    · have ed : items[i]? = some items[i] := by simp [hlt]
      obtain ⟨go, yld⟩ := gos i _ ed
      refine .inr ⟨go, Pv (i + 1), fun σ2 H2 p2 => ⟨items.length - (i + 1), by omega, rfl, hlt, p2⟩, fun v H2 hy => ?_⟩
      obtain ⟨Hf2, S2, rp⟩ := yld v H2 hy
      have hst := step i _ δ' ed w'
      refine ⟨H0, Hf2, δ', _, fun δ2 => sb { k with nx := Wv (i + 1), ct := Wv (i + 1), bk := k.nx } δ2, st'.step S2, rp, fun σ3 δ3 st3 q3 => ?_, hst⟩
      exact ⟨H0, Hf1, Hf2, δ3, _, S'.trans S2, st3, ks1.loop fun σ4 H4 Hf4 δ4 S4 st4 m4 => ⟨Hf4, δ4, S4, st4, m4⟩, q3⟩
    · have e : i = items.length := by omega
      subst e
      exact .inl ⟨stop, ks1.nx σ' H' Hf' δ' S' st' (done δ' w')⟩, q⟩
theorem vs_while (hp : PassesOwn (model X.prog X.w) X.A X.env X.xe) (hc : VT X T W z c p) (hb : VSs X T W z ss sb) : VS X T W z (.While c ss [] pos) (sWhile p sb) := PS.imp (ps_while hp hc hb) fun En σ H ⟨H0, Hf0, Hf, δ, k, s0, st, ks, q⟩ => by
  obtain ⟨Wv, ⟨m0, w0⟩, step⟩ := q
  refine ⟨fun m σ' H' => ∃ Hf' δ', Step Hf0 H0 Hf' H' ∧ StOk T X.K z H0 Hf' H' σ' δ' ∧ Wv m δ', ⟨m0, Hf, δ, s0, st, w0⟩, ?_⟩
  rintro m σ' H' ⟨Hf', δ', S', st', w'⟩
  refine ⟨H0, Hf', δ', _, _, st', ks.xo S' st', fun b Hf2 H2 S2 hq => ?_, step m δ' w'⟩
  cases b with
  | true =>
    rw [if_pos rfl] at hq ⊢
    refine ⟨fun σ3 H3 => ∃ m', m' < m ∧ ∃ Hf3 δ3, Step Hf0 H0 Hf3 H3 ∧ StOk T X.K z H0 Hf3 H3 σ3 δ3 ∧ Wv m' δ3, fun _ _ h => h, ?_⟩
    exact ⟨H0, Hf0, Hf2, δ', _, S'.trans S2, st'.step S2, ks.loop fun σ4 H4 Hf4 δ4 S4 st4 ⟨m', hm, w4⟩ => ⟨m', hm, Hf4, δ4, S4, st4, w4⟩, hq⟩
  | false =>
    rw [if_neg Bool.false_ne_true] at hq ⊢
    exact ks.nx σ' H2 Hf2 δ' (S'.trans S2) (st'.step S2) hq
/-- targets = a value -/
theorem vs_unp (he : VE X T W z e t) (hg : VG X T z tg g) (hs : swapsWithSole [tg] e pos.line X.env = pure false := by rfl) (hw : swappedStores [tg] e X.env = pure none := by rfl)
    (h1 : (assignEach [tg] X.env).map (·.2) = [assign tg X.env] := by rfl) : VS X T W z (.Assign [tg] e pos) (sUnp g t) := PS.imp (ps_asg he.toD hg hs hw h1) fun En σ H ⟨H0, Hf0, Hf, δ, k, s0, st, ks, q⟩ =>
  ⟨H0, Hf, δ, fun d => g.go d δ k.nx, _, st, ks.xo s0 st, fun v Hf' H' d S r hq => ⟨H0, Hf', δ, d, k.nx, st.step S, r, fun σ' δ' st' q' => ks.nx σ' H' Hf' δ' (s0.trans S) st' q', hq⟩, q⟩
end
end VL
end
section
set_option Elab.async false
set_option linter.all false
set_option maxRecDepth 100000
set_option maxHeartbeats 4000000
/-! VLs13: lists that change, fields of self. -/
namespace VL
open PySem PySem.Spec PyProof.Rows L2
section
variable {T : Tab} {K : PySem.W.Frag} {W : WX} {z : Hd} {H0 Hf0 Hf H : Hp} {k : Ko} {En : Ends} {σ : L2.St} {δ : Fr}
theorem Step.mutL (s0 : Step Hf0 H0 Hf H) {a : Addr} {o : HO} (h1 : Hf a = none) (h2 : H0 a = none) : Step Hf0 H0 Hf (upd H a o) := ⟨s0.f, Ex.mut s0.h h2, Ex.mut s0.i h1, s0.n⟩
theorem StOk.mutL (st : StOk T K z H0 Hf H σ δ) {i : Nat} {a : Addr} {ds ys : List D} {ws ws' : List V} (ed : δ[i]? = some (some (.own ds))) (es : σ[i]? = some (some (.ref a))) (h1 : Hf a = none) (h2 : H0 a = none) (h3 : H a = some (.lst ws)) (r : RepL T K Hf ys ws') :
    StOk T K z H0 Hf (upd H a (.lst ws')) σ (δ.set i (some (.own ys))) := by
  refine ⟨Ex.mut st.i h1, Ex.mut st.h0 h2, by rw [List.length_set]; exact st.len, fun j => ?_, fun j j' d1 d2 b e1 e2 m1 m2 e3 e4 => ?_⟩
  · rw [join_set]
    by_cases q : i = j ∧ j < δ.length
    · rw [if_pos q, ← q.1, es]
      exact ⟨a, ws', rfl, h1, h2, upd_same, r⟩
    · rw [if_neg q]
      have h := st.at_ j
      cases ej : δ[j]? with
      | none => exact True.intro
      | some o =>
        cases o with
        | none => exact True.intro
        | some s =>
          obtain ⟨w, ew, h⟩ := slot_at st ej
          rw [ew]
          have hj : i ≠ j := fun z => q ⟨z, (List.getElem?_eq_some_iff.mp ej).1⟩
          cases s with
          | fz d => exact h
          | own es' =>
            obtain ⟨b, ws2, rfl, g1, g2, g3, g4⟩ := h
            refine ⟨b, ws2, rfl, g1, g2, ?_, g4⟩
            rw [upd_ne fun z => ?_]
            · exact g3
            · subst z
              exact hj (st.ne i j _ _ b ed ej rfl rfl es ew)
          | lent es' =>
            obtain ⟨b, ws2, e1, g1, g2, g3⟩ := h
            refine ⟨b, ws2, e1, g1, ?_, g3⟩
            rw [upd_ne fun z => ?_]
            · exact g2
            · subst z
              exact g1 h2
          | ob c es' =>
            obtain ⟨b, dx, fs, rfl, g1, g0, g2, g3, g4⟩ := h
            refine ⟨b, dx, fs, rfl, g1, g0, ?_, g3, g4⟩
            rw [upd_ne fun z => ?_]
            · exact g2
            · subst z
              rw [h3] at g2
              cases g2
          | exc c es' => exact h
  · have get : ∀ {l : Nat} {s3 : Sl}, (δ.set i (some (Sl.own ys)))[l]? = some (some s3) → s3.mine = true → ∃ s4, δ[l]? = some (some s4) ∧ s4.mine = true := fun {l s3} h hm => by
      by_cases q : i = l
      · subst q
        exact ⟨_, ed, rfl⟩
      · rw [List.getElem?_set_ne q] at h
        exact ⟨s3, h, hm⟩
    obtain ⟨x1, f1, g1⟩ := get e1 m1
    obtain ⟨x2, f2, g2⟩ := get e2 m2
    exact st.ne j j' x1 x2 b f1 f2 g1 g2 e3 e4
/-- the instance that is being made gets a field -/
theorem StOk.mutO (st : StOk T K z H0 Hf H σ δ) {i : Nat} {a dx : Addr} {c : Nat} {ds ys : List D} {fs fs' : List (Str × V)} (ed : δ[i]? = some (some (.ob c ds))) (es : σ[i]? = some (some (.ref a))) (h1 : Hf a = none) (hme : z.me = some a) (h0 : H0 a = none) (hc : c < T.n) (h3 : H a = some (.ins (T.cls c) dx fs))
    (hn : fs'.map (·.1) = (T.flds c).take ys.length) (r : RepL T K Hf ys (fs'.map (·.2))) :
    StOk T K z H0 Hf (upd H a (.ins (T.cls c) dx fs')) σ (δ.set i (some (.ob c ys))) := by
  refine ⟨Ex.mut st.i h1, Ex.mut st.h0 h0, by rw [List.length_set]; exact st.len, fun j => ?_, fun j j' d1 d2 b e1 e2 m1 m2 e3 e4 => ?_⟩
  · rw [join_set]
    by_cases q : i = j ∧ j < δ.length
    · rw [if_pos q, ← q.1, es]
      exact ⟨a, dx, fs', rfl, h1, ⟨⟨hme, h0⟩, hc⟩, upd_same, hn, r⟩
    · rw [if_neg q]
      have h := st.at_ j
      cases ej : δ[j]? with
      | none => exact True.intro
      | some o =>
        cases o with
        | none => exact True.intro
        | some s =>
          obtain ⟨w, ew, h⟩ := slot_at st ej
          rw [ew]
          have hj : i ≠ j := fun z => q ⟨z, (List.getElem?_eq_some_iff.mp ej).1⟩
          cases s with
          | fz d => exact h
          | own es' =>
            obtain ⟨b, ws2, rfl, g1, g2, g3, g4⟩ := h
            refine ⟨b, ws2, rfl, g1, g2, ?_, g4⟩
            rw [upd_ne fun z => ?_]
            · exact g3
            · subst z
              rw [h3] at g3
              cases g3
          | lent es' =>
            obtain ⟨b, ws2, e1, g1, g2, g3⟩ := h
            refine ⟨b, ws2, e1, g1, ?_, g3⟩
            rw [upd_ne fun z => ?_]
            · exact g2
            · subst z
              rw [h3] at g2
              cases g2
          | ob c' es' =>
            obtain ⟨b, dx', fs2, rfl, g1, g0, g2, g3, g4⟩ := h
            refine ⟨b, dx', fs2, rfl, g1, g0, ?_, g3, g4⟩
            rw [upd_ne fun z => ?_]
            · exact g2
            · subst z
              exact hj (st.ne i j _ _ b ed ej rfl rfl es ew)
          | exc c es' => exact h
  · have get : ∀ {l : Nat} {s3 : Sl}, (δ.set i (some (Sl.ob c ys)))[l]? = some (some s3) → s3.mine = true → ∃ s4, δ[l]? = some (some s4) ∧ s4.mine = true := fun {l s3} h hm => by
      by_cases q : i = l
      · subst q
        exact ⟨_, ed, rfl⟩
      · rw [List.getElem?_set_ne q] at h
        exact ⟨s3, h, hm⟩
    obtain ⟨x1, f1, g1⟩ := get e1 m1
    obtain ⟨x2, f2, g2⟩ := get e2 m2
    exact st.ne j j' x1 x2 b f1 f2 g1 g2 e3 e4
end
/-- a list's method that changes it -/
def MutOk (X : Cx) (T : Tab) (id : String) (f : MF) : Prop := MtR X id (fun x vs H Qv => ∃ Hf a ws ds es, ∃ Q : List D → Prop, Ex Hf H ∧ x = .ref a ∧ Hf a = none ∧ H a = some (.lst ws) ∧ RepL T X.K Hf ds ws ∧ RepL T X.K Hf es vs ∧
  (∀ ys ws', RepL T X.K Hf ys ws' → Q ys → Qv .non (upd H a (.lst ws'))) ∧ f ds es Q)
section
variable {X : Cx} {T : Tab} {W : WX} {z : Hd} {c a b e o : Expr} {t ta tb : EW} {x : Str} {pos apos p0 p1 p2 cpos : Pos} {es : List Expr} {i j : Nat} {f : MF} {name : Str} {id : String} {ms : List Bool} {ar : AW}
theorem mu_append : MutOk X T "list.append" mAppend := by
  intro pins s σ H x vs v us Q I rx rv ⟨Hf, a, ws, ds, es, Q', i, ex, h1, h2, r1, r2, kt, q⟩
  unfold mAppend at q
  split at q
  · obtain ⟨y, r, rfl, r3, r4⟩ := repL_cons.mp r2
    rw [repL_nil.mp r4] at rv
    exact mt_append pins s σ H x _ v us Q I rx rv ⟨a, ws, y, ex, rfl, h2, by rw [← r1.length, sizeLine_eq]; exact q.1, kt _ _ (r1.append (RepL.cons r3 RepL.nil)) q.2⟩
  · exact q.elim
theorem mu_insert : MutOk X T "list.insert" mInsert := by
  intro pins s σ H x vs v us Q I rx rv ⟨Hf, a, ws, ds, es, Q', i, ex, h1, h2, r1, r2, kt, q⟩
  unfold mInsert at q
  split at q
  · split at q
    · obtain ⟨y, r, rfl, r3, r4⟩ := repL_cons.mp r2
      obtain ⟨y2, r5, rfl, r6, r7⟩ := repL_cons.mp r4
      rw [repL_nil.mp r7] at rv
      unfold Rep at r3
      subst r3
      exact mt_insert pins s σ H x _ v us Q I rx rv ⟨a, ws, _, y2, ex, rfl, h2, by rw [← r1.length, sizeLine_eq]; exact q.1.1, q.1.2.1, q.1.2.2, kt _ _ (((r1.take _).append (RepL.cons r6 RepL.nil)).append (r1.drop _)) q.2⟩
    · exact q.elim
  · exact q.elim
theorem mu_extend : MutOk X T "list.extend" mExtend := by
  intro pins s σ H x vs v us Q I rx rv ⟨Hf, a, ws, ds, es, Q', i, ex, h1, h2, r1, r2, kt, q⟩
  unfold mExtend at q
  split at q
  · split at q
    · obtain ⟨y, r, rfl, r3, r4⟩ := repL_cons.mp r2
      rw [repL_nil.mp r4] at rv
      unfold Rep at r3
      obtain ⟨b, zs, rfl, g1, g2⟩ := r3
      exact mt_extend pins s σ H x _ v us Q I rx rv ⟨a, b, ws, zs, ex, rfl, h2, i _ _ g1, by rw [← r1.length, ← g2.length, sizeLine_eq]; exact q.1, kt _ _ (r1.append g2) q.2⟩
    · exact q.elim
  · exact q.elim
theorem repL_rev {Hf : Hp} : ∀ {ds : List D} {vs : List V}, RepL T X.K Hf ds vs → RepL T X.K Hf ds.reverse vs.reverse
  | [], vs, h => by rw [repL_nil.mp h]; exact RepL.nil
  | d :: ds, vs, h => by
    obtain ⟨v, r, rfl, h1, h2⟩ := repL_cons.mp h
    rw [List.reverse_cons, List.reverse_cons]
    exact (repL_rev h2).append (RepL.cons h1 RepL.nil)
theorem mu_reverse : MutOk X T "list.reverse" mReverse := by
  intro pins s σ H x vs v us Q I rx rv ⟨Hf, a, ws, ds, es, Q', i, ex, h1, h2, r1, r2, kt, q⟩
  unfold mReverse at q
  split at q
  · rw [repL_nil.mp r2] at rv
    exact mt_reverse pins s σ H x _ v us Q I rx rv ⟨a, ws, ex, rfl, h2, kt _ _ (repL_rev r1) q⟩
  · exact q.elim
def rMut (T : Tab) (K : PySem.W.Frag) (f : MF) : V → List V → Hp → VK → Prop := fun x vs H Qv => ∃ Hf a ws ds es, ∃ Q : List D → Prop, Ex Hf H ∧ x = .ref a ∧ Hf a = none ∧ H a = some (.lst ws) ∧ RepL T K Hf ds ws ∧ RepL T K Hf es vs ∧ (∀ ys ws', RepL T K Hf ys ws' → Q ys → Qv .non (upd H a (.lst ws'))) ∧ f ds es Q
/-- what is there when the arguments have been looked at -/
theorem mut_at {H0 Hf0 Hf H Hf' H' : Hp} {k : Ko} {En : Ends} {σ : L2.St} {δ : Fr} {a : Addr} {xs : List D} {ws : List V} {ds : List D} (s0 : Step Hf0 H0 Hf H) (st : StOk T X.K z H0 Hf H σ δ) (ks : KS T X.K W z H0 Hf0 k En) (ed : δ[i]? = some (some (.own xs))) (ev : σ[i]? = some (some (.ref a)))
    (S : Step Hf H Hf' H') (r : RepL T X.K Hf' ds ws) (q : f xs ds (fun ys => k.nx (δ.set i (some (.own ys))))) : rMut T X.K f (.ref a) ws H' (fun _ H'' => En.nx σ H'') := by
  obtain ⟨v, ev', h⟩ := slot_at (st.step S) ed
  rw [ev] at ev'
  cases ev'
  obtain ⟨b, us, e, h1, h2, h3, h4⟩ := h
  cases e
  exact ⟨Hf', a, us, xs, ds, _, S.i, rfl, h1, h3, h4, r, fun ys ws' r' q' => ks.nx σ _ Hf' _ ((s0.trans S).mutL h1 h2) ((st.step S).mutL ed ev h1 h2 h3 r') q', q⟩
theorem vs_meth (mu : MutOk X T id f) (slot : Slot "list" name id) (hty : typeOf (.builtin id) = pure (.type "method_descriptor")) (ha : VA X T W z ms (e :: es) ar) (hN : X.N[i]? = some x := by rfl) (hv : Vis X.env.scope x := by first | exact Or.inl rfl | exact Or.inr (Or.inl rfl) | exact Or.inr (Or.inr rfl))
    (hm : allF ms = true := by rfl) (hd : (x == ("__debug__" : Str)) = false := by decide) (hcd : (x == ("__classdict__" : Str)) = false := by decide)
    (hbase : attributeBase (.Name x p0) name X.env (eval (.Name x p0) X.env) = eval (.Name x p0) X.env := by rfl)
    (hfew : ((backTo cpos (starEach (e :: es) X.env)).all (fun x => !x.1) && (backToKw cpos (keywordEach [] X.env)).all (fun x => x.1.isSome)
      && decide ((e :: es).length + ([] : List Keyword).length + (if ([] : List Keyword).isEmpty then 0 else 1) < 30)) = true := by rfl)
    (hline : (apos.endLine == cpos.line) = true := by rfl) (hs : starEach (e :: es) X.env = (false, eval e X.env) :: starEach es X.env := by rfl) (hplain : (backTo cpos (starEach es X.env)).any (·.1) = false := by rfl)
    (hsw : swapsWith (.Call (.Attribute (.Name x p0) name apos) (e :: es) [] cpos) none pos.line X.env = pure false := by rfl) : VS X T W z (.Expr (.Call (.Attribute (.Name x p0) name apos) (e :: es) [] cpos) pos) (sMeth i f ar) :=
  PS.imp (ps_expr (pe_bm PySem.F.plainAttrs_list slot hty (r := rMut T X.K f) mu (pe_var hN hv hd hcd) ha hbase hfew hline hs hplain) hsw) fun En σ H ⟨H0, Hf0, Hf, δ, k, s0, st, ks, q⟩ => by
    unfold sMeth at q
    split at q
    · rename_i xs ed
      obtain ⟨v, ev, h⟩ := slot_at st ed
      obtain ⟨a, us, rfl, h1, h2, h3, h4⟩ := h
      refine ⟨.ref a, ev, .inl ⟨rfl, us, SqL.of h3⟩, H0, Hf, δ, _, _, st, ks.xo s0 st, fun vs Hf' H' ds S r hq => ?_, q⟩
      exact mut_at s0 st ks ed ev S (r.rep hm) hq
    · exact q.elim
theorem vs_meth0 (mu : MutOk X T id f) (slot : Slot "list" name id) (hty : typeOf (.builtin id) = pure (.type "method_descriptor")) (hN : X.N[i]? = some x := by rfl) (hv : Vis X.env.scope x := by first | exact Or.inl rfl | exact Or.inr (Or.inl rfl) | exact Or.inr (Or.inr rfl))
    (hd : (x == ("__debug__" : Str)) = false := by decide) (hcd : (x == ("__classdict__" : Str)) = false := by decide)
    (hbase : attributeBase (.Name x p0) name X.env (eval (.Name x p0) X.env) = eval (.Name x p0) X.env := by rfl) (hline : (apos.endLine == cpos.line) = true := by rfl)
    (hsw : swapsWith (.Call (.Attribute (.Name x p0) name apos) [] [] cpos) none pos.line X.env = pure false := by rfl) : VS X T W z (.Expr (.Call (.Attribute (.Name x p0) name apos) [] [] cpos) pos) (sMeth i f aNil) :=
  PS.imp (ps_expr (pe_bm0 PySem.F.plainAttrs_list slot hty (r := rMut T X.K f) mu (pe_var hN hv hd hcd) hbase hline) hsw) fun En σ H ⟨H0, Hf0, Hf, δ, k, s0, st, ks, q⟩ => by
    unfold sMeth at q
    split at q
    · rename_i xs ed
      obtain ⟨v, ev, h⟩ := slot_at st ed
      obtain ⟨a, us, rfl, h1, h2, h3, h4⟩ := h
      refine ⟨.ref a, ev, .inl ⟨rfl, us, SqL.of h3⟩, ?_⟩
      exact mut_at s0 st ks ed ev (Step.refl st.i) RepL.nil q
    · exact q.elim
/-- xs[j] = e -/
theorem vs_setIx {jx : Expr} {tj : EW} {tpos : Pos} (he : VE X T W z e t) (hj : VE X T W z jx tj) (hN : X.N[i]? = some x := by rfl) (hv : Vis X.env.scope x := by first | exact Or.inl rfl | exact Or.inr (Or.inl rfl) | exact Or.inr (Or.inr rfl))
    (hd : (x == ("__debug__" : Str)) = false := by decide) (hcd : (x == ("__classdict__" : Str)) = false := by decide)
    (ha : ∀ v, assign (.Subscript (.Name x p0) jx tpos) X.env v = (do
      let ov ← holding [v] (eval (.Name x p0) X.env)
      let iv ← holding [v, ov] (eval jx X.env)
      standAt tpos
      holding [v, ov, iv] (setItem ov iv v)
      release [v, ov, iv] []) := by intro _; rfl)
    (hs : swapsWithSole [.Subscript (.Name x p0) jx tpos] e pos.line X.env = pure false := by rfl) (hw : swappedStores [.Subscript (.Name x p0) jx tpos] e X.env = pure none := by rfl)
    (h1 : (assignEach [.Subscript (.Name x p0) jx tpos] X.env).map (·.2) = [assign (.Subscript (.Name x p0) jx tpos) X.env] := by rfl) : VS X T W z (.Assign [.Subscript (.Name x p0) jx tpos] e pos) (sSetIx i tj t) :=
  PS.imp (ps_asg he.toD (pg_sub (pe_var hN hv hd hcd) hj.toD set_list ha) hs hw h1) fun En σ H ⟨H0, Hf0, Hf, δ, k, s0, st, ks, q⟩ => by
    unfold sSetIx at q
    split at q
    · rename_i xs ed
      refine ⟨H0, Hf, δ, fun d => tj δ (fun s => match s.d with | .int n => (match ixOf xs.length n with | some j => k.nx (δ.set i (some (.own (xs.set j d)))) | none => False) | _ => False) (fun x => k.xq x δ), _, st, ks.xo s0 st, fun v Hf1 H1 d1 S1 r1 hq => ?_, q⟩
      obtain ⟨u, ev, h⟩ := slot_at (st.step S1) ed
      refine ⟨u, ev, H0, Hf1, δ, fun d => (match d with | .int n => (match ixOf xs.length n with | some j => k.nx (δ.set i (some (.own (xs.set j d1)))) | none => False) | _ => False), _, st.step S1, (ks.xo s0 st).step S1, fun w Hf2 H2 d2 S2 r2 hq => ?_, hq⟩
      cases d2 with
      | int n =>
        simp only [] at hq
        have S12 := S1.trans S2
        obtain ⟨u', ev', h'⟩ := slot_at (st.step S12) ed
        rw [ev] at ev'
        cases ev'
        obtain ⟨a, us, rfl, g1, g2, g3, g4⟩ := h'
        unfold Rep at r2
        subst r2
        cases e5 : ixOf xs.length n with
        | none => rw [e5] at hq; exact hq.elim
        | some j =>
          rw [e5] at hq
          have e6 : ixN us.length n = some j := by rw [← g4.length]; exact e5
          exact ⟨a, us, n, j, rfl, rfl, g3, e6, ks.nx σ _ Hf2 _ ((s0.trans S12).mutL g1 g2) ((st.step S12).mutL ed ev g1 g2 g3 (g4.set j (r1.mono S2.f))) hq⟩
      | _ => exact hq.elim
    · exact q.elim
theorem putF_new {g : Str} {v : V} : ∀ {fs : List (Str × V)}, g ∉ fs.map (·.1) → putF g v fs = fs ++ [(g, v)]
  | [], _ => rfl
  | (k, x) :: r, h => by
    simp only [List.map_cons, List.mem_cons, not_or] at h
    show (if k = g then (k, v) :: r else (k, x) :: putF g v r) = _
    rw [if_neg (Ne.symm h.1), putF_new h.2]
    rfl
/-- self.f = e, self an instance that is being made: its next field -/
theorem vs_fldI {c n : Nat} {fld : Str} (lib : Lib T X.K) (he : VE X T W z e t) (hfl : (T.flds c)[n]? = some fld := by rfl) (hN : X.N[i]? = some x := by rfl) (hv : Vis X.env.scope x := by first | exact Or.inl rfl | exact Or.inr (Or.inl rfl) | exact Or.inr (Or.inr rfl))
    (hd : (x == ("__debug__" : Str)) = false := by decide) (hcd : (x == ("__classdict__" : Str)) = false := by decide) (hs : swapsWith e (some (.Attribute (.Name x p0) fld apos)) pos.line X.env = pure false := by rfl) :
    VS X T W z (.Assign [.Attribute (.Name x p0) fld apos] e pos) (sFldI i c n t) :=
  PS.imp (ps_fld (pe_var hN hv hd hcd) he.toD hs) fun En σ H ⟨H0, Hf0, Hf, δ, k, s0, st, ks, q⟩ => by
    unfold sFldI at q
    split at q
    · rename_i c' xs ed
      obtain ⟨⟨rfl, rfl⟩, q⟩ := q
      refine ⟨H0, Hf, δ, fun d => k.nx (δ.set i (some (.ob c' (xs ++ [d])))), _, st, ks.xo s0 st, fun v Hf' H' d S r hq => ?_, q⟩
      obtain ⟨u, ev, h⟩ := slot_at (st.step S) ed
      obtain ⟨a, dx, fs, rfl, g1, g0, g2, g3, g4⟩ := h
      obtain ⟨⟨hme, h0⟩, g0⟩ := g0
      have st' := st.step S
      have hl : (T.flds c').length < 1000 := lib.nl c' g0
      have hxl : xs.length < (T.flds c').length := (List.getElem?_eq_some_iff.mp hfl).1
      have hfs : fs.length = xs.length := by
        have := congrArg List.length g3
        rw [List.length_map, List.length_take] at this
        omega
      have hnew : fld ∉ fs.map (·.1) := by
        rw [g3]
        intro hm
        obtain ⟨m, hm1, hm2⟩ := List.getElem_of_mem hm
        rw [List.length_take] at hm1
        rw [List.getElem_take] at hm2
        have e1 : (T.flds c')[xs.length] = fld := (List.getElem?_eq_some_iff.mp hfl).2
        have := (List.getElem_inj (lib.nd c' g0)).mp (hm2.trans e1.symm)
        omega
      refine ⟨.ref a, ev, a, T.cls c', dx, fs, rfl, g2, (lib.cl c' g0).cl, lib.na c' g0 _ (List.mem_of_getElem? hfl), by omega, ?_⟩
      rw [putF_new hnew]
      refine ks.nx σ _ Hf' _ ⟨(s0.trans S).f, Ex.mut (s0.trans S).h h0, Ex.mut (s0.trans S).i g1, (s0.trans S).n⟩ (st'.mutO ed ev g1 hme h0 g0 g2 ?_ ?_) hq
      · rw [List.map_append, g3, List.length_append]
        show _ ++ [fld] = List.take (xs.length + 1) _
        rw [List.take_succ, hfl]
        rfl
      · rw [List.map_append]
        exact g4.append (RepL.cons r RepL.nil)
    · exact q.elim
end
end VL
end
section
set_option Elab.async false
set_option linter.all false
set_option maxRecDepth 100000
set_option maxHeartbeats 4000000
/-! VLs14: a def whose body is read keeps its spec. -/
namespace VL
open PySem PySem.Spec PyProof.Rows L2
/-- outside an except clause, outside an __init__ -/
def z0 : Hd := ⟨none, none⟩
/-- in an __init__ of the instance at a -/
def zI (a : Addr) : Hd := ⟨none, some a⟩
theorem slots_at {T : Tab} {K : PySem.W.Frag} {z : Hd} {Hf H : Hp} (i : Ex Hf H) : ∀ {ms : List Bool} {ds : List D} {vs : List V}, ArgsOk T K Hf H ms ds vs → ∀ j : Nat, SlOk T K z H Hf H ((vs.map some)[j]?.join) ((slotsOf ms ds)[j]?.join)
  | [], ds, vs, h, j => by
    obtain ⟨rfl, rfl⟩ := h
    simp [slotsOf, SlOk]
  | m :: ms, ds, vs, h, j => by
    obtain ⟨d, dr, v, vr, rfl, rfl, e3, e4⟩ := h
    cases j with
    | succ j =>
      simp only [slotsOf, List.map_cons, List.getElem?_cons_succ]
      exact slots_at i e4 j
    | zero =>
      simp only [slotsOf, List.map_cons, List.getElem?_cons_zero, Option.join_some]
      cases m with
      | false => exact e3
      | true =>
        simp only [if_true] at e3
        cases d with
        | lst xs =>
          rcases e3 with e3 | ⟨a, vs', ds', e, rfl, e5, e6⟩
          · unfold Rep at e3
            obtain ⟨a, vs', rfl, e5, e6⟩ := e3
            refine ⟨a, vs', rfl, ?_, i _ _ e5, e6⟩
            rw [i _ _ e5]
            simp
          · cases e
            refine ⟨a, vs', rfl, ?_, e5, e6⟩
            rw [e5]
            simp
        | _ =>
          rcases e3 with e3 | ⟨a, vs', ds', e, _⟩
          · exact e3
          · cases e
theorem slots_len : ∀ {ms : List Bool} {ds : List D}, ds.length = ms.length → (slotsOf ms ds).length = ds.length
  | [], [], _ => rfl
  | m :: ms, d :: ds, h => by
    simp only [slotsOf, List.length_cons]
    rw [slots_len (by simpa using h)]
  | [], d :: ds, h => by cases h
  | m :: ms, [], h => by cases h
theorem slots_mine : ∀ {ms : List Bool} {ds : List D} {j : Nat} {s : Sl}, (slotsOf ms ds)[j]? = some (some s) → s.mine = false
  | [], ds, j, s, h => by
    cases ds <;> simp [slotsOf] at h
  | m :: ms, [], j, s, h => by simp [slotsOf] at h
  | m :: ms, d :: ds, j, s, h => by
    cases j with
    | succ j =>
      simp only [slotsOf, List.getElem?_cons_succ] at h
      exact slots_mine h
    | zero =>
      simp only [slotsOf, List.getElem?_cons_zero, Option.some.injEq] at h
      subst h
      unfold slotOf
      split <;> rfl
theorem app_none {α : Type} {l : List (Option α)} {n j : Nat} : ((l ++ List.replicate n none)[j]?).join = (l[j]?).join := by
  by_cases h : j < l.length
  · rw [List.getElem?_append_left h]
  · rw [List.getElem?_append_right (by omega), List.getElem?_eq_none_iff.mpr (by omega : l.length ≤ j)]
    rw [List.getElem?_replicate]
    split <;> rfl
theorem app_some {α : Type} {l : List (Option α)} {n j : Nat} {s : α} (h : (l ++ List.replicate n none)[j]? = some (some s)) : l[j]? = some (some s) := by
  by_cases q : j < l.length
  · rwa [List.getElem?_append_left q] at h
  · rw [List.getElem?_append_right (by omega), List.getElem?_replicate] at h
    split at h <;> cases h
theorem start_ok {T : Tab} {K : PySem.W.Frag} {z : Hd} {Hf H : Hp} {N : List Str} {ms : List Bool} {ds : List D} {vs : List V} (i : Ex Hf H) (h : ArgsOk T K Hf H ms ds vs) : StOk T K z H Hf H (L2.start N vs) (startD N.length ms ds) := by
  have hl := h.len
  refine ⟨i, Ex.refl _, ?_, fun j => ?_, fun j j' s s' a e1 _ m1 _ _ _ => ?_⟩
  · unfold L2.start startD
    rw [List.length_append, List.length_append, List.length_replicate, List.length_replicate, List.length_map, slots_len (by rw [hl.1]), hl.1, hl.2]
  · unfold L2.start startD
    rw [app_none, app_none]
    exact slots_at i h j
  · have := slots_mine (app_some e1)
    rw [m1] at this
    cases this
section
variable {P : Program} {w : World} {K : PySem.W.Frag} {mg : Str → Option Value} {base : Heap} {T : Tab} {x qual : Str} {params : Arguments} {body : List Stmt} {scope : Scope} {dvs : List V} {kws : List (Str × V)} {f : Addr} {fd : FuncData} {N ps : List Str} {k : Nat} {sp : FS} {ms : List Bool} {t : SW}
/-- THE RULE -/
theorem fnV (F : FunD K x qual params body scope dvs kws f fd) (S : FnScope N ps scope) (hl : ms.length = ps.length)
    (hb : ∀ (cdv : Value) (A : Around) (outer : List Env) (s : Shared) (H : Hp) (E : XK), Room k (A.deeper (envOfC qual scope s.heap.objs.size f cdv)) → VSs (cxOf (L2.CX P w) P w K mg base N qual scope f cdv A outer s H E) T (fun cls d _ H => E cls d H) z0 body t)
    (hs : ∀ ds Q X, ds.length = ms.length → sp ds Q X → runBody t (startD N.length ms ds) Q X) : FnOk P w K mg base (L2.CX P w) (k + 1) f fd ps (SpV T K ms sp) := by
  refine F.ok S (fun vs H Q E ⟨Hf, ds, Q', X', i, ha, _⟩ => by rw [ha.len.2, hl]) fun cdv A outer s H vs Q E hr ⟨Hf, ds, Q', X', i, ha, kt, kx, q⟩ => ⟨_, hb cdv A outer s H E hr, ?_⟩
  refine ⟨H, Hf, Hf, startD N.length ms ds, { nx := fun _ => Q' (.fz .non), rt := Q', xq := fun x _ => X' x }, Step.refl i, start_ok i ha, ⟨?_, ?_, fun _ _ _ _ _ _ h => h.elim, fun _ _ _ _ _ _ h => h.elim, ?_⟩, hs ds Q' X' ha.len.1 q⟩
  · exact fun σ H' Hf' δ S _ q => kt .non Hf' H' (.fz .non) S (by unfold Res Rep; rfl) q
  · exact fun v H' Hf' r S rs q => kt v Hf' H' r S rs q
  · exact fun x cls d σ H' Hf' δ S _ rx q => kx x cls d Hf' H' S rx q
/-- a class's __init__ -/
theorem fnI {c n : Nat} (F : FunD K x qual params body scope dvs kws f fd) (S : FnScope N ps scope) (hl : ms.length + 1 = ps.length) (hc : c < T.n) (hn : (T.flds c).length = n)
    (hb : ∀ (a : Addr) (cdv : Value) (A : Around) (outer : List Env) (s : Shared) (H : Hp) (E : XK), Room k (A.deeper (envOfC qual scope s.heap.objs.size f cdv)) → VSs (cxOf (L2.CX P w) P w K mg base N qual scope f cdv A outer s H E) T (fun cls d _ H => E cls d H) (zI a) body t)
    (hs : ∀ ds Q X, ds.length = ms.length → sp ds Q X → runInit t c n (startI N.length c ms ds) Q X) : FnOk P w K mg base (L2.CX P w) (k + 1) f fd ps (SpI T K c ms sp) := by
  refine F.ok S (fun vs H Q E ⟨Hf, H1, a, dx, ds, vs', Q', X', e, _, _, _, _, _, ha, _⟩ => by rw [e, List.length_cons, ha.len.2, hl]) fun cdv A outer s H vs Q E hr ⟨Hf, H1, a, dx, ds, vs', Q', X', e, h1, h2, h3, eH, i, ha, kt, kx, q⟩ => ⟨_, hb a cdv A outer s H E hr, ?_⟩
  subst e eH
  have x1 : Ex H1 (upd (upd H1 dx (.own a)) a (.ins (T.cls c) dx [])) := (Ex.new h2).trans (Ex.new (by rw [upd_ne (Ne.symm h3)]; exact h1))
  have hfa : Hf a = none := i.fresh h1
  have s0 : Step Hf H1 Hf (upd (upd H1 dx (.own a)) a (.ins (T.cls c) dx [])) := ⟨Ex.refl _, x1, i.trans x1, fun _ h => .inl h⟩
  refine ⟨H1, Hf, Hf, startI N.length c ms ds, { nx := initEnd c n Q', rt := fun _ => False, xq := fun x _ => X' x }, s0, ?_, ⟨?_, fun _ _ _ _ _ _ h => h.elim, fun _ _ _ _ _ _ h => h.elim, fun _ _ _ _ _ _ h => h.elim, ?_⟩, hs ds Q' X' ha.len.1 q⟩
  · have hll := ha.len
    refine ⟨s0.i, x1, ?_, fun j => ?_, fun j j' s s' b e1 e2 m1 m2 e3 e4 => ?_⟩
    · unfold L2.start startI
      rw [List.length_append, List.length_cons, List.length_append, List.length_replicate, List.length_replicate, List.length_map, slots_len (by rw [hll.1]), hll.1, List.length_cons, hll.2]
      omega
    · unfold L2.start startI
      rw [app_none]
      cases j with
      | zero =>
        simp only [List.map_cons, List.getElem?_cons_zero, Option.join_some]
        refine ⟨a, dx, [], rfl, hfa, ⟨⟨rfl, h1⟩, hc⟩, upd_same, by simp, RepL.nil⟩
      | succ j =>
        simp only [List.map_cons, List.getElem?_cons_succ]
        rw [app_none]
        have h := slots_at (z := zI a) i ha j
        cases eo : ((slotsOf ms ds)[j]?).join with
        | none => exact True.intro
        | some s =>
          rw [eo] at h
          have hm : s.mine = false := by
            cases e6 : (slotsOf ms ds)[j]? with
            | none => rw [e6] at eo; cases eo
            | some o =>
              rw [e6] at eo
              cases o with
              | none => cases eo
              | some s' =>
                cases eo
                exact slots_mine e6
          cases ev : ((vs'.map some)[j]?).join with
          | none => rw [ev] at h; exact h.elim
          | some v =>
            rw [ev] at h
            cases s with
            | fz d => exact h
            | own es => cases hm
            | ob c' es => cases hm
            | lent es =>
              obtain ⟨b, ws, rfl, g1, g2, g3⟩ := h
              exact ⟨b, ws, rfl, g1, x1 _ _ g2, g3⟩
            | exc c' es =>
              obtain ⟨b, cls, d, g1, _⟩ := h
              cases g1
    · have only : ∀ {l : Nat} {s3 : Sl}, (startI N.length c ms ds)[l]? = some (some s3) → s3.mine = true → l = 0 := fun {l s3} h hm => by
        cases l with
        | zero => rfl
        | succ l =>
          unfold startI at h
          simp only [List.getElem?_cons_succ] at h
          have := slots_mine (app_some h)
          rw [hm] at this
          cases this
      rw [only e1 m1, only e2 m2]
  · intro σ H' Hf' δ' S st q
    change initEnd c n Q' δ' at q
    unfold initEnd at q
    split at q
    · rename_i c' xs e0
      obtain ⟨⟨rfl, hn'⟩, q⟩ := q
      obtain ⟨v, ev, b, dx', fs, rfl, g1, g0, g2, g3, g4⟩ := slot_at st e0
      have hb : b = a := (Option.some.inj g0.1.1).symm
      subst hb
      -- frozen now
      have x2 : Ex Hf' (upd Hf' b (.ins (T.cls c') dx' fs)) := Ex.new g1
      refine kt (upd Hf' b (.ins (T.cls c') dx' fs)) H' (.fz (.obj c' xs)) ⟨S.f.trans x2, S.h, fun d u e => ?_, fun d hd => ?_⟩ ?_ q
      · by_cases hd : d = b
        · subst hd
          rw [upd_same] at e
          rw [← e]
          exact g2
        · rw [upd_ne hd] at e
          exact S.i d u e
      · by_cases hd' : d = b
        · subst hd'
          exact .inr h1
        · rw [upd_ne hd'] at hd
          exact S.n d hd
      · unfold Res Rep
        refine ⟨b, dx', fs, rfl, g0.2, upd_same, ?_, g4.mono x2⟩
        rw [g3, hn', ← hn, List.take_length]
    · exact q.elim
  · exact fun x cls d σ H' Hf' δ S _ rx q => kx x cls d Hf' H' S rx q
end
end VL
end
section
set_option Elab.async false
set_option linter.all false
set_option maxRecDepth 100000
set_option maxHeartbeats 4000000
/-! VLs15: raise, try, the handled exception. -/
namespace VL
open PySem PySem.Spec PyProof.Rows L2
/-- an own exception class without fields of its own -/
structure RaiseF (T : Tab) (K : PySem.W.Frag) (c : Nat) : Prop where
  ei : PySem.W.excIn K (T.cls c) [.type "ValueError", .type "Exception", .type "BaseException", .type "object"] "ValueError.__new__" = true
  kp : PySem.W.keepIn K (.ref (T.cls c)) = true
  sb : PySem.W.subIn K (.ref (T.cls c)) (.type "BaseException") = some true
  ty : PySem.W.typeIn K (.ref (T.cls c)) = some (.type "type")
  fl : T.flds c = []
/-- one that may be handled -/
structure ExcF (T : Tab) (K : PySem.W.Frag) (c : Nat) : Prop where
  cl : (PySem.W.clsIn K (T.cls c)).isSome = true
  ex : ExcC K (T.cls c)
section
variable {X : Cx} {T : Tab} {W : WX} {z : Hd} {e a b : Expr} {t ta tb : EW} {x n : Str} {pos pos' p0 p1 p2 np : Pos} {es : List Expr} {i j c : Nat} {sb ss : SW} {body suite : List Stmt} {b₀ : Stmt} {ms : List Bool} {ar : AW}
theorem vs_raise {m : Str} {jj : Nat} (R : RaiseF T X.K c) (hc : X.calm = true) (tk : Takes X W) (hg : Gl X x) (hm : X.mg x = some (.ref (T.cls c))) (hdb : (x == ("__debug__" : Str)) = false := by decide) :
    VS X T W z (.Raise (some (.Call (.Name x p0) [.Constant (.str m) jj p1] [] pos)) none pos') (sRaise c aNil) :=
  PS.imp (ps_raise hc tk (pmk_own PySem.F.excBase_ValueError R.ei hm R.kp (raises_own R.sb R.ty) hg hdb)) fun En σ H ⟨H0, Hf0, Hf, δ, k, s0, st, ks, q⟩ =>
    ks.xq ⟨c, []⟩ _ none σ H Hf δ s0 st ⟨rfl, .inl ⟨rfl, R.fl, rfl⟩⟩ q
theorem vs_raiseA (R : RaiseF T X.K c) (hc : X.calm = true) (tk : Takes X W) (hg : Gl X x) (hm : X.mg x = some (.ref (T.cls c))) (ha : VA X T W z ms (e :: es) ar) (hl : ms.length ≤ 16777216 := by decide) (hdb : (x == ("__debug__" : Str)) = false := by decide)
    (he : starEach (e :: es) X.env = (false, eval e X.env) :: starEach es X.env := by rfl) (hpl : (backTo pos (starEach es X.env)).any (·.1) = false := by rfl) :
    VS X T W z (.Raise (some (.Call (.Name x p0) (e :: es) [] pos)) none pos') (sRaise c ar) :=
  PS.imp (ps_raise hc tk (pmk_ownA PySem.F.excBase_ValueError R.ei hm R.kp (raises_own R.sb R.ty) hg ha hdb he hpl)) fun En σ H ⟨H0, Hf0, Hf, δ, k, s0, st, ks, q⟩ =>
    ⟨H0, Hf, δ, _, _, st, ks.xo s0 st, fun vs Hf' H' ds S r hq => ⟨by rw [r.len.2, sizeLine_eq]; exact hl, ks.xq ⟨c, []⟩ _ none σ H' Hf' δ (s0.trans S) (st.step S) ⟨rfl, .inl ⟨rfl, R.fl, rfl⟩⟩ hq⟩, q⟩
/-! ### try -/
theorem StOk.toZ {K : PySem.W.Frag} {me : Option Addr} {o : Option (Addr × Value × Option Addr)} {H0 Hf H : Hp} {σ : L2.St} {δ : Fr} (st : StOk T K ⟨none, me⟩ H0 Hf H σ δ) : StOk T K ⟨o, me⟩ H0 Hf H σ δ :=
  ⟨st.i, st.h0, st.len, fun j => by
    have h := st.at_ j
    cases e1 : (δ[j]?).join with
    | none => exact True.intro
    | some s =>
      rw [e1] at h
      cases e2 : (σ[j]?).join with
      | none => rw [e2] at h; exact h.elim
      | some v =>
        rw [e2] at h
        cases s with
        | exc c ds =>
          obtain ⟨a, cls, d, e, _⟩ := h
          cases e
        | _ => exact h, st.ne⟩
theorem noExc_at {δ : Fr} (h : noExc δ = true) {j : Nat} {s : Sl} (e : (δ[j]?).join = some s) : ∀ c ds, s ≠ .exc c ds := fun c ds es => by
  subst es
  cases e1 : δ[j]? with
  | none => rw [e1] at e; cases e
  | some o =>
    rw [e1] at e
    cases o with
    | none => cases e
    | some s =>
      cases e
      have := List.all_eq_true.mp h _ (List.mem_of_getElem? e1)
      exact absurd this Bool.false_ne_true
theorem StOk.ofZ {K : PySem.W.Frag} {me : Option Addr} {o : Option (Addr × Value × Option Addr)} {H0 Hf H : Hp} {σ : L2.St} {δ : Fr} (st : StOk T K ⟨o, me⟩ H0 Hf H σ δ) (hn : noExc δ = true) : StOk T K ⟨none, me⟩ H0 Hf H σ δ :=
  ⟨st.i, st.h0, st.len, fun j => by
    have h := st.at_ j
    cases e1 : (δ[j]?).join with
    | none => exact True.intro
    | some s =>
      rw [e1] at h
      cases e2 : (σ[j]?).join with
      | none => rw [e2] at h; exact h.elim
      | some v =>
        rw [e2] at h
        cases s with
        | exc c ds => exact absurd rfl (noExc_at hn e1 c ds)
        | _ => exact h, st.ne⟩
/-- a name goes -/
theorem StOk.gone {K : PySem.W.Frag} {H0 Hf H : Hp} {σ : L2.St} {δ : Fr} (st : StOk T K z H0 Hf H σ δ) (i : Nat) : StOk T K z H0 Hf H (σ.set i none) (δ.set i none) :=
  ⟨st.i, st.h0, by rw [List.length_set, List.length_set]; exact st.len, fun j => by
    rw [join_set, join_set, st.len]
    by_cases q : i = j ∧ j < σ.length
    · rw [if_pos q, if_pos q]
      exact True.intro
    · rw [if_neg q, if_neg q]
      exact st.at_ j, fun j j' s s' b e1 e2 m1 m2 e3 e4 => by
    have get : ∀ {l : Nat} {s3 : Sl}, (δ.set i none)[l]? = some (some s3) → δ[l]? = some (some s3) ∧ l ≠ i := fun {l s3} h => by
      by_cases q : i = l
      · subst q
        rw [List.getElem?_set] at h
        simp only [if_true] at h
        split at h <;> cases h
      · rw [List.getElem?_set_ne q] at h
        exact ⟨h, Ne.symm q⟩
    obtain ⟨f1, n1⟩ := get e1
    obtain ⟨f2, n2⟩ := get e2
    rw [List.getElem?_set_ne (Ne.symm n1)] at e3
    rw [List.getElem?_set_ne (Ne.symm n2)] at e4
    exact st.ne j j' s s' b f1 f2 m1 m2 e3 e4⟩
theorem vs_tryAs {me : Option Addr} {cv : Value} {ct : Nat → Option Bool} (hs : X.stack = X.env :: X.outer) (hf : X.env.frame = some X.env.locals) (hN : X.N.Nodup) (hcl : Names X x cv) (tk : Takes X W) (hct : ∀ c b, ct c = some b → PySem.W.exmOne X.K (.ref (T.cls c)) cv = some b)
    (hb : ∀ (W : WX) (pn : List (Addr × Obj)) (xe : Value → Shared → Prop), Takes (X.tr pn xe) W → PassesOwn (model X.prog X.w) X.A X.env xe → VSs (X.tr pn xe) T W ⟨none, me⟩ body sb)
    (hsu : ∀ (a : Addr) (oe : Obj) (cls : Value) (d : Option Addr) (pn : List (Addr × Obj)), Zc cls d oe → (∃ vs, oe.data = .fields vs) → VSs (X.suite a ((a, oe) :: pn)) T (fun _ _ _ _ => False) ⟨some (a, cls, d), me⟩ (b₀ :: suite) ss)
    (hi : X.N[i]? = some n := by rfl) (hln : X.env.kindOf n = some .local := by rfl) :
    VS X T W ⟨none, me⟩ (.Try body [.ExceptHandler (some (.Name x np)) (some n) (b₀ :: suite) pos'] [] [] pos) (sTryAs i ct sb ss) :=
  PS.imp (ps_try_as (tb := fun W => rdS T X.K W ⟨none, me⟩ sb) (ts := fun a cls d => rdS T X.K (fun _ _ _ _ => False) ⟨some (a, cls, d), me⟩ ss) hs hf hN hi hln hcl tk (fun W pn xe tk' po => hb W pn xe tk' po) hsu) fun En σ H ⟨H0, Hf0, Hf, δ, k, s0, st, ks, q⟩ => by
    refine ⟨H0, Hf0, Hf, δ, { k with xq := xAs i ct ss k }, s0, st, ⟨ks.nx, ks.rt, ks.bk, ks.ct, ?_⟩, q⟩
    intro xd cls d σ' H' Hf' δ' S st' rx hq
    obtain ⟨ecls, rx2⟩ := id rx
    change xAs i ct ss k xd δ' at hq
    unfold xAs at hq
    cases e1 : ct xd.c with
    | none => rw [e1] at hq; exact hq.elim
    | some b =>
      rw [e1] at hq
      refine ⟨b, by rw [ecls]; exact hct _ _ e1, fun hbt a ha => ?_, fun hbf => ?_⟩
      · subst hbt
        simp only [if_true] at hq
        refine ⟨H0, Hf0, Hf', δ'.set i (some (.exc xd.c xd.xs)), kSuite i k, S, (st'.toZ).set ⟨a, cls, d, rfl, rfl, rx⟩ (fun e => by cases e), ⟨?_, ks.rt, ?_, ?_, fun _ _ _ _ _ _ _ _ _ _ (h : False) => h.elim⟩, hq⟩
        · exact fun σ2 H2 Hf2 δ2 S2 st2 q2 => ks.nx _ H2 Hf2 _ S2 ((st2.gone i).ofZ q2.1) q2.2
        · exact fun σ2 H2 Hf2 δ2 S2 st2 q2 => ks.bk _ H2 Hf2 _ S2 ((st2.gone i).ofZ q2.1) q2.2
        · exact fun σ2 H2 Hf2 δ2 S2 st2 q2 => ks.ct _ H2 Hf2 _ S2 ((st2.gone i).ofZ q2.1) q2.2
      · subst hbf
        simp only [Bool.false_eq_true, if_false] at hq
        exact ks.xq xd cls d σ' H' Hf' δ' S st' rx hq
theorem vs_try {me : Option Addr} {cv : Value} {ct : Nat → Option Bool} (hs : X.stack = X.env :: X.outer) (hf : X.env.frame = some X.env.locals) (hcl : Names X x cv) (tk : Takes X W) (hct : ∀ c b, ct c = some b → PySem.W.exmOne X.K (.ref (T.cls c)) cv = some b)
    (hb : ∀ (W : WX) (pn : List (Addr × Obj)) (xe : Value → Shared → Prop), Takes (X.tr pn xe) W → PassesOwn (model X.prog X.w) X.A X.env xe → VSs (X.tr pn xe) T W ⟨none, me⟩ body sb)
    (hsu : ∀ (a : Addr) (oe : Obj) (cls : Value) (d : Option Addr) (pn : List (Addr × Obj)), Zc cls d oe → (∃ vs, oe.data = .fields vs) → VSs (X.suite a ((a, oe) :: pn)) T (fun _ _ _ _ => False) ⟨none, me⟩ (b₀ :: suite) ss) :
    VS X T W ⟨none, me⟩ (.Try body [.ExceptHandler (some (.Name x np)) none (b₀ :: suite) pos'] [] [] pos) (sTry ct sb ss) :=
  PS.imp (ps_try_many (tb := fun W => rdS T X.K W ⟨none, me⟩ sb) hs hf tk (fun W pn xe tk' po => hb W pn xe tk' po) (HdsOk.cons (ts := fun a cls d => rdS T X.K (fun _ _ _ _ => False) ⟨none, me⟩ ss) hcl hsu HdsOk.nil)) fun En σ H ⟨H0, Hf0, Hf, δ, k, s0, st, ks, q⟩ => by
    refine ⟨H0, Hf0, Hf, δ, { k with xq := xTry ct ss k }, s0, st, ⟨ks.nx, ks.rt, ks.bk, ks.ct, ?_⟩, q⟩
    intro xd cls d σ' H' Hf' δ' S st' rx hq
    obtain ⟨ecls, rx2⟩ := id rx
    change xTry ct ss k xd δ' at hq
    unfold xTry at hq
    cases e1 : ct xd.c with
    | none => rw [e1] at hq; exact hq.elim
    | some b =>
      rw [e1] at hq
      refine ⟨b, by rw [ecls]; exact hct _ _ e1, fun hbt a ha => ?_, fun hbf => ?_⟩
      · subst hbt
        simp only [if_true] at hq
        exact ⟨H0, Hf0, Hf', δ', kQuiet k, S, st', ⟨ks.nx, ks.rt, ks.bk, ks.ct, fun _ _ _ _ _ _ _ _ _ _ (h : False) => h.elim⟩, hq⟩
      · subst hbf
        simp only [Bool.false_eq_true, if_false] at hq
        exact ks.xq xd cls d σ' H' Hf' δ' S st' rx hq
/-! ### the handled exception -/
/-- the classes that a table speaks of -/
theorem ve_isX {aa : Addr} {oe : Obj} {cls : Value} {d : Option Addr} {pn : List (Addr × Obj)} {me : Option Addr} {W' : WX} {cvV : V} {cv : Value} {sbt : Nat → Option Bool} (hz : Zc cls d oe) (hf : ∃ vs, oe.data = .fields vs) (hcl : ∀ u, RelV cvV u → u = cv)
    (hX : ∀ c b, sbt c = some b → ExcF T X.K c ∧ PySem.W.kitOne X.K (.ref (T.cls c)) cv = some b) (hg : Gl X "isinstance") (hm : X.mg "isinstance" = none) (hn2 : PE (X.suite aa ((aa, oe) :: pn)) (.Name x p1) (tC cvV))
    (hN : X.N[i]? = some n := by rfl) (hv : Vis X.env.scope n := by first | exact Or.inl rfl | exact Or.inr (Or.inl rfl) | exact Or.inr (Or.inr rfl)) (hd : (n == ("__debug__" : Str)) = false := by decide) (hcd : (n == ("__classdict__" : Str)) = false := by decide)
    (hs : starEach [.Name n p2, .Name x p1] X.env = (false, eval (.Name n p2) X.env) :: starEach [.Name x p1] X.env := by rfl) (hpl : (backTo pos (starEach [.Name x p1] X.env)).any (·.1) = false := by rfl) :
    VE (X.suite aa ((aa, oe) :: pn)) T W' ⟨some (aa, cls, d), me⟩ (.Call (.Name "isinstance" p0) [.Name n p2, .Name x p1] [] pos) (wIsX i sbt) := by
  let X' := X.suite aa ((aa, oe) :: pn)
  have main : CallR X' (.builtin "isinstance") (fun xs H Q => ∃ c b, xs = [.ref aa, cvV] ∧ cls = .ref (T.cls c) ∧ sbt c = some b ∧ Q (.bl b) H ∧ ((d = none) ∨ ∃ dd fs, d = some dd ∧ H dd = some (.xd fs))) := by
    intro pins s σ H xs us Q I r ⟨c, b, ex, ec, eb, q, hdd⟩
    subst ex
    obtain ⟨u1, u2, rfl, r1, r2⟩ := vals2 r
    cases r1
    have ec2 := hcl _ r2
    subst ec2
    obtain ⟨EF, hk⟩ := hX c b eb
    obtain ⟨hget, _⟩ := I.pin (aa, oe) (List.mem_append.mpr (.inl List.mem_cons_self))
    obtain ⟨vs, hv⟩ := hf
    have J : ∃ od, PySem.W.InstAt s.heap aa oe (T.cls c) od := by
      obtain ⟨oc, od, oda, osl⟩ := oe
      obtain ⟨h1, h2⟩ := hz
      dsimp only at h1 h2 hv
      subst h1 hv
      rcases hdd with e | ⟨dd, fs, e, hdd⟩
      · subst e h2
        exact ⟨none, hget, ec, rfl, trivial⟩
      · subst e h2
        obtain ⟨mA, hns, hr⟩ := (show ObjOk X.prog X.w H s.heap dd (.xd fs) from I.hok dd _ hdd)
        obtain ⟨od, ho, _⟩ := lookIn_ns hns
        exact ⟨some od, hget, ec, rfl, ho⟩
    obtain ⟨od, J⟩ := J
    exact PySem.W.kia_one (PySem.W.kitx_exc EF.cl EF.ex.hg EF.ex.hk EF.ex.hs EF.ex.ha EF.ex.hn EF.ex.ht EF.ex.hm) I.kIn J hk (fun z => nomatch z) fun tk => ⟨.bl b, H, I.kept (t' := tk) fun _ _ z => z, rfl, q⟩
  have hpe : PE X' (.Name n p2) (tVar i) := pe_var (X := X') hN hv hd hcd
  refine PE.imp (pe_callB (X := X') main hg hm PyProof.Rows.boot_isinstance (pa_cons (X := X') hpe (pa_cons (X := X') hn2 pa_nil) hs) (by decide) (by decide) hs hpl) fun σ H Qv ⟨H0, Hf, δ, Q, Xq, st, xo, kt, q⟩ => ?_
  unfold wIsX at q
  split at q
  · rename_i c xs ed
    obtain ⟨v, ev, a', cls', d', e1, rfl, rx⟩ := slot_at st ed
    cases e1
    obtain ⟨ec, hdd⟩ := rx
    cases eb : sbt c with
    | none => rw [eb] at q; exact q.elim
    | some b =>
      rw [eb] at q
      refine ⟨_, ev, c, b, rfl, ec, eb, kt _ Hf H (.fz (.bl b)) (Step.refl st.i) (by unfold Res Rep; rfl) q, ?_⟩
      rcases hdd with ⟨e, _⟩ | ⟨dd, fs, vs, e, h1, _⟩
      · exact .inl e
      · exact .inr ⟨dd, fs, e, st.i _ _ h1⟩
  · exact q.elim
end
end VL
end
section
set_option linter.all false
/-! VLc2: more plain readings: comprehensions. -/
namespace VL
open PySem
def Fr.wipe (δ : Fr) : List Nat → Fr
  | [] => δ
  | v :: vs => (Fr.wipe δ vs).set v none
def cYes : TW := fun _ Q _ => Q true
/-- a comprehension's walk -/
def compI (g : Tg) (cs : TW) (te : EW) (vs : List Nat) (items : List D) (δ : Fr) (Q : List D → Prop) : Prop :=
  ∃ W : Nat → List D → Prop, W 0 [] ∧ (∀ i d acc, items[i]? = some d → W i acc → g.go d (δ.wipe vs) (fun δ2 => cs δ2 (fun b => if b = true then te δ2 (fun r => acc.length < 16777216 ∧ W (i + 1) (acc ++ [r.d])) (fun _ => False) else W (i + 1) acc) (fun _ => False))) ∧ ∀ acc, W items.length acc → Q acc
/-- [e for g in it if c] -/
def wLc (g : Tg) (ti : IW) (cs : TW) (te : EW) (vs : List Nat) : EW := fun δ Q X => ti δ (fun items => compI g cs te vs items δ (fun acc => Q (.own acc))) X
/-- .. with two fors -/
def wLc2 (g : Tg) (ti : IW) (cs : TW) (g1 : Tg) (ti1 : IW) (cs1 : TW) (te : EW) (vs vs1 : List Nat) : EW := fun δ Q X => ti δ (fun items =>
  ∃ W : Nat → List D → Prop, W 0 [] ∧ (∀ i d acc, items[i]? = some d → W i acc → g.go d (δ.wipe vs) (fun δ2 => cs δ2 (fun b => if b = true then ti1 δ2 (fun items1 =>
    ∃ W1 : Nat → List D → Prop, W1 0 acc ∧ (∀ j d1 acc1, items1[j]? = some d1 → W1 j acc1 → g1.go d1 (δ2.wipe vs1) (fun δ3 => cs1 δ3 (fun b => if b = true then te δ3 (fun r => acc1.length < 16777216 ∧ W1 (j + 1) (acc1 ++ [r.d])) (fun _ => False) else W1 (j + 1) acc1) (fun _ => False))) ∧ ∀ acc1, W1 items1.length acc1 → W (i + 1) acc1) (fun _ => False)
    else W (i + 1) acc) (fun _ => False))) ∧ ∀ acc, W items.length acc → Q (.own acc)) X
end VL
namespace VL
open PySem
/-- each number once, as first met -/
def ddup (is : List Int) : List Int := is.foldl (fun acc x => if acc.any (· == x) then acc else acc ++ [x]) []
/-- len(set(e)) of a list of ints -/
def wLenSet (u : BW) : EW := fun δ Q X => u δ (fun d => match d with
  | .lst xs => (match intsOf xs with
    | some is => is.length ≤ 4000 ∧ Q (.fz (.int ((ddup is).length : Int)))
    | none => False)
  | _ => False) X
/-- list(range(..)) -/
def small24 (n : Int) : Prop := n ≤ 16777216
def wListRg1 (t : EW) : EW := fun δ Q X => t δ (fun r => match r.d with
  | .int n => (small62 n ∧ small24 n) ∧ Q (.own (intsFrom 0 n.toNat))
  | _ => False) X
def wListRg2 (t u : EW) : EW := fun δ Q X => t δ (fun r => u δ (fun s => match r.d, s.d with
  | .int lo, .int hi => ((small62 lo ∧ small62 hi) ∧ small24 (hi - lo)) ∧ Q (.own (intsFrom lo (hi - lo).toNat))
  | _, _ => False) X) X
/-- a raised exception of a class with its own __init__: b tells that the text is joined from the first argument -/
def sRaiseF (c : Nat) (b : Bool) (n : Nat) (ta : AW) : SW := fun k δ => ta δ (fun ds => (ds.length = n ∧ (b = true → ∃ y : Str, ds[0]? = some (.str y) ∧ y.length ≤ 1000)) ∧ k.xq ⟨c, ds⟩ δ) (fun x => k.xq x δ)
end VL
end
section
set_option Elab.async false
set_option linter.all false
set_option maxRecDepth 100000
set_option maxHeartbeats 4000000
/-! VLlc: list comprehensions. -/
namespace VL
open PySem PySem.Spec PyProof.Rows L2
/-- nothing is let out -/
abbrev W0 : WX := fun _ _ _ _ => False
theorem takes_no {X : Cx} : Takes X W0 := fun u s' ⟨_, _, _, _, _, _, _, _, _, _, _, _, _, _, _, _, w⟩ => False.elim w
theorem wipe_get {σ : L2.St} {j : Nat} : ∀ {vs : List Nat}, (L2.wipe σ vs)[j]? = if j ∈ vs then (σ[j]?).map (fun _ => none) else σ[j]?
  | [] => by simp [L2.wipe]
  | v :: vs => by
    unfold L2.wipe
    have ih := wipe_get (σ := σ) (j := j) (vs := vs)
    by_cases h : v = j
    · subst h
      rw [if_pos List.mem_cons_self, List.getElem?_set]
      simp only [if_true, L2.wipe_length]
      split
      · rename_i hl
        rw [List.getElem?_eq_getElem hl]
        rfl
      · rename_i hl
        rw [List.getElem?_eq_none (by omega)]
        rfl
    · rw [List.getElem?_set_ne h, ih]
      by_cases h2 : j ∈ vs
      · rw [if_pos h2, if_pos (List.mem_cons_of_mem _ h2)]
      · rw [if_neg h2, if_neg (by simp only [List.mem_cons, not_or]; exact ⟨fun e => h e.symm, h2⟩)]
theorem wipe_set {σ : L2.St} {i : Nat} {x : Option V} {vs : List Nat} (h : i ∈ vs) : L2.wipe (σ.set i x) vs = L2.wipe σ vs := by
  apply List.ext_getElem?
  intro j
  rw [wipe_get, wipe_get]
  by_cases hj : j ∈ vs
  · rw [if_pos hj, if_pos hj, List.getElem?_set]
    split
    · rename_i e
      subst e
      split
      · rename_i hl
        rw [List.getElem?_eq_getElem hl]
        rfl
      · rename_i hl
        rw [List.getElem?_eq_none (by omega)]
    · rfl
  · rw [if_neg hj, if_neg hj, List.getElem?_set_ne (fun e => hj (by rw [← e]; exact h))]
theorem wipe_wipe {σ : L2.St} {vs : List Nat} : L2.wipe (L2.wipe σ vs) vs = L2.wipe σ vs := by
  apply List.ext_getElem?
  intro j
  rw [wipe_get, wipe_get]
  by_cases hj : j ∈ vs
  · rw [if_pos hj, if_pos hj, Option.map_map]
    rfl
  · rw [if_neg hj, if_neg hj]
/-- slots but for frozen ones are as they were -/
def Kept (σ : L2.St) (δ : Fr) (σ' : L2.St) (δ' : Fr) : Prop := ∀ j : Nat, (σ'[j]? = σ[j]? ∧ δ'[j]? = δ[j]?) ∨ (∃ d, δ'[j]? = some (some (.fz d))) ∨ (δ'[j]?).join = none
theorem Kept.refl (σ : L2.St) (δ : Fr) : Kept σ δ σ δ := fun _ => .inl ⟨rfl, rfl⟩
theorem Kept.trans {σ σ1 σ2 : L2.St} {δ δ1 δ2 : Fr} (a : Kept σ δ σ1 δ1) (b : Kept σ1 δ1 σ2 δ2) : Kept σ δ σ2 δ2 := fun j => by
  rcases b j with ⟨b1, b2⟩ | b
  · rcases a j with ⟨a1, a2⟩ | a
    · exact .inl ⟨b1.trans a1, b2.trans a2⟩
    · rw [b2]
      exact .inr a
  · exact .inr b
theorem Kept.set {σ : L2.St} {δ : Fr} (i : Nat) (v : Option V) (d : D) (hl : δ.length = σ.length) : Kept σ δ (σ.set i v) (δ.set i (some (.fz d))) := fun j => by
  by_cases h : i = j
  · subst h
    by_cases hi : i < δ.length
    · exact .inr (.inl ⟨d, by rw [List.getElem?_set_self hi]⟩)
    · exact .inl ⟨by rw [List.set_eq_of_length_le (by omega)], by rw [List.set_eq_of_length_le (by omega)]⟩
  · exact .inl ⟨List.getElem?_set_ne h, List.getElem?_set_ne h⟩
theorem Kept.gone {σ : L2.St} {δ : Fr} (i : Nat) (hl : δ.length = σ.length) : Kept σ δ (σ.set i none) (δ.set i none) := fun j => by
  by_cases h : i = j
  · subst h
    by_cases hi : i < δ.length
    · exact .inr (.inr (by rw [List.getElem?_set_self hi]; rfl))
    · exact .inl ⟨by rw [List.set_eq_of_length_le (by omega)], by rw [List.set_eq_of_length_le (by omega)]⟩
  · exact .inl ⟨List.getElem?_set_ne h, List.getElem?_set_ne h⟩
theorem Kept.wiped {σ : L2.St} {δ : Fr} (hl : δ.length = σ.length) : ∀ vs : List Nat, Kept σ δ (L2.wipe σ vs) (δ.wipe vs) ∧ (δ.wipe vs).length = (L2.wipe σ vs).length
  | [] => ⟨Kept.refl _ _, hl⟩
  | v :: vs => by
    obtain ⟨a, b⟩ := Kept.wiped hl vs
    exact ⟨a.trans (Kept.gone v b), by unfold Fr.wipe L2.wipe; rw [List.length_set, List.length_set, b]⟩
/-- a thing that no slot has, changed -/
theorem StOk.updN {T : Tab} {K : PySem.W.Frag} {z : Hd} {H0 Hf1 H1 Hf H : Hp} {σ σ' : L2.St} {δ δ' : Fr} {p : Addr} {o : HO} (st1 : StOk T K z H0 Hf1 H1 σ δ) (h1 : H1 p = none) (sm : Kept σ δ σ' δ') (st : StOk T K z H0 Hf H σ' δ') (hf : Hf p = none) : StOk T K z H0 Hf (upd H p o) σ' δ' := by
  refine ⟨Ex.mut st.i hf, Ex.mut st.h0 (st1.h0.fresh h1), st.len, fun j => ?_, st.ne⟩
  have h := st.at_ j
  have no : ∀ {s : Sl} {a : Addr}, (δ'[j]?).join = some s → (∀ d, s ≠ .fz d) → (σ'[j]?).join = some (.ref a) → (SlOk T K z H0 Hf1 H1 (some (V.ref a)) (some s) → H1 a ≠ none) → a ≠ p := fun {s a} e1 e2 e3 e4 e => by
    subst e
    rcases sm j with ⟨k1, k2⟩ | ⟨d, k⟩ | k
    · have g := st1.at_ j
      rw [k1] at e3
      rw [k2] at e1
      rw [e1, e3] at g
      exact e4 g h1
    · rw [k] at e1
      exact e2 d (Option.some.inj e1).symm
    · rw [k] at e1
      cases e1
  cases ed : (δ'[j]?).join with
  | none => exact True.intro
  | some s =>
    rw [ed] at h
    cases ev : (σ'[j]?).join with
    | none => rw [ev] at h; exact h.elim
    | some v =>
      rw [ev] at h
      cases s with
      | fz d => exact h
      | own ds =>
        obtain ⟨a, vs, rfl, g1, g2, g3, g4⟩ := h
        have hn := no ed (fun d e => by cases e) ev fun ⟨b, ws, e, q1, q2, q3, q4⟩ => by cases e; rw [q3]; simp
        exact ⟨a, vs, rfl, g1, g2, by rw [upd_ne hn]; exact g3, g4⟩
      | lent ds =>
        obtain ⟨a, vs, rfl, g1, g2, g3⟩ := h
        have hn := no ed (fun d e => by cases e) ev fun ⟨b, ws, e, q1, q2, q3⟩ => by cases e; rw [q2]; simp
        exact ⟨a, vs, rfl, g1, by rw [upd_ne hn]; exact g2, g3⟩
      | ob c ds =>
        obtain ⟨a, dx, fs, rfl, g1, g0, g2, g3, g4⟩ := h
        have hn := no ed (fun d e => by cases e) ev fun ⟨b, dx, fs, e, q1, q0, q2, q3, q4⟩ => by cases e; rw [q2]; simp
        exact ⟨a, dx, fs, rfl, g1, g0, by rw [upd_ne hn]; exact g2, g3, g4⟩
      | exc c ds => exact h
def rdGw (vs : List Nat) (T : Tab) (K : PySem.W.Frag) (z : Hd) (g : Tg) : TG := fun v σ H Q => ∃ H0 Hf δ d, ∃ Qd : Fr → Prop, StOk T K z H0 Hf H σ δ ∧ Rep T K Hf d v ∧ (∀ σ' δ', StOk T K z H0 Hf H σ' δ' → L2.wipe σ' vs = L2.wipe σ vs → Kept σ δ σ' δ' → Qd δ' → Q σ' H) ∧ g.go d δ Qd
def rdGws (vs : List Nat) (T : Tab) (K : PySem.W.Frag) (z : Hd) (gs : List Tg) : TGs := fun us σ H Q => ∃ H0 Hf δ ds, ∃ Qd : Fr → Prop, StOk T K z H0 Hf H σ δ ∧ RepL T K Hf ds us ∧ (∀ σ' δ', StOk T K z H0 Hf H σ' δ' → L2.wipe σ' vs = L2.wipe σ vs → Kept σ δ σ' δ' → Qd δ' → Q σ' H) ∧ (match Tg.puts gs ds δ with | some δ' => Qd δ' | none => False)
def VGw (vs : List Nat) (X : Cx) (T : Tab) (z : Hd) (e : Expr) (g : Tg) : Prop := PG X e (rdGw vs T X.K z g)
def VGws (vs : List Nat) (X : Cx) (T : Tab) (z : Hd) (es : List Expr) (gs : List Tg) : Prop := PGs X es (rdGws vs T X.K z gs)
def VTs (X : Cx) (T : Tab) (W : WX) (z : Hd) (ifs : List Expr) (t : TW) : Prop := PTs X ifs (rdT T X.K W z t)
section
variable {X : Cx} {T : Tab} {W : WX} {z : Hd} {e iter : Expr} {es : List Expr} {g : Tg} {gs : List Tg} {x : Str} {pos : Pos} {i : Nat} {vs : List Nat}
theorem vgw_nm (hN : X.N.Nodup) (hv : i ∈ vs := by decide) (hi : X.N[i]? = some x := by rfl) (hx : Loc X.env.scope x := by first | exact Or.inl rfl | exact Or.inr rfl) (hf : X.fn x = true ∨ X.env.scope.names.lookup x = some .local := by first | exact .inl rfl | exact .inr rfl) : VGw vs X T z (.Name x pos) (.nm i) :=
  PG.imp (pg_name hN hi hx hf) fun v σ H Q ⟨H0, Hf, δ, d, Qd, st, r, kt, q⟩ => kt _ _ (st.setF r) (wipe_set hv) (Kept.set _ _ _ st.len) (by unfold Tg.go Tg.put at q; exact q)
theorem vgws_nil : VGws vs X T z [] [] := PGs.imp pgs_nil fun us σ H Q ⟨H0, Hf, δ, ds, Qd, st, r, kt, q⟩ => by
  cases ds with
  | nil =>
    rw [repL_nil.mp r]
    unfold Tg.puts at q
    exact ⟨rfl, kt _ _ st rfl (Kept.refl _ _) q⟩
  | cons d ds =>
    unfold Tg.puts at q
    exact q.elim
theorem vgws_cons (h1 : VGw vs X T z e g) (h2 : VGws vs X T z es gs) (hs : (assignEach (e :: es) X.env).map (·.2) = assign e X.env :: (assignEach es X.env).map (·.2) := by rfl) : VGws vs X T z (e :: es) (g :: gs) :=
  PGs.imp (pgs_cons h1 h2 hs) fun us σ H Q ⟨H0, Hf, δ, ds, Qd, st, r, kt, q⟩ => by
    cases ds with
    | nil =>
      unfold Tg.puts at q
      exact q.elim
    | cons d ds =>
      obtain ⟨v, w, rfl, r1, r2⟩ := repL_cons.mp r
      unfold Tg.puts at q
      cases e1 : g.put d δ with
      | none => rw [e1] at q; exact q.elim
      | some δ1 =>
        rw [e1] at q
        refine ⟨v, w, rfl, H0, Hf, δ, d, fun δ' => δ' = δ1, st, r1, fun σ' δ' st' hw kp ed => ?_, by unfold Tg.go; rw [e1]⟩
        subst ed
        exact ⟨H0, Hf, δ', ds, Qd, st', r2, fun σ2 δ2 st2 hw2 kp2 => kt σ2 δ2 st2 (hw2.trans hw) (kp.trans kp2), q⟩
theorem puts_len : ∀ {gs : List Tg} {ds : List D} {δ δ' : Fr}, Tg.puts gs ds δ = some δ' → ds.length = gs.length
  | [], [], _, _, _ => rfl
  | [], _ :: _, _, _, h => by unfold Tg.puts at h; cases h
  | _ :: _, [], _, _, h => by unfold Tg.puts at h; cases h
  | g :: gs, d :: ds, δ, δ', h => by
    unfold Tg.puts at h
    cases e1 : g.put d δ with
    | none => rw [e1] at h; cases h
    | some δ1 =>
      rw [e1] at h
      rw [List.length_cons, List.length_cons, puts_len h]
theorem vgw_tup {k : Nat} (hc : X.calm = true) (h : VGws vs X T z es gs) (hn : (assignEach es X.env).length = gs.length := by rfl) (hst : (assignEach es X.env).findIdx? (·.1) = none := by rfl) : VGw vs X T z (.Tuple es k pos) (.tp gs) :=
  PG.imp (pg_tup hc h hn hst) fun v σ H Q ⟨H0, Hf, δ, d, Qd, st, r, kt, q⟩ => by
    cases d with
    | tup ds =>
      unfold Tg.go Tg.put at q
      unfold Rep at r
      obtain ⟨a, us, e1, e2, e3⟩ := r
      refine ⟨a, us, e1, SqT.of (st.i _ _ e2), ?_, H0, Hf, δ, ds, Qd, st, e3, kt, q⟩
      rw [← e3.length]
      cases e5 : Tg.puts gs ds δ with
      | none => rw [e5] at q; exact q.elim
      | some δ' => exact puts_len e5
    | _ => unfold Tg.go Tg.put at q; exact q.elim
theorem vts_nil : VTs X T W z [] cYes := ⟨fun pins s σ H Q I ⟨H0, Hf, δ, Qb, Xq, st, xo, kt, q⟩ => wpAny_tests_nil ⟨H, I, kt true Hf H (Step.refl st.i) q⟩⟩
theorem vts_one {t : TW} (h : VT X T W z e t) : VTs X T W z [e] t := pts_one h
end
theorem StOk.wiped {T : Tab} {K : PySem.W.Frag} {z : Hd} {H0 Hf H : Hp} {σ : L2.St} {δ : Fr} (st : StOk T K z H0 Hf H σ δ) : ∀ vs : List Nat, StOk T K z H0 Hf H (L2.wipe σ vs) (δ.wipe vs)
  | [] => st
  | v :: vs => (st.wiped vs).gone v
theorem newF_at {Hf H Hf' H' : Hp} {a : Addr} (S : Step Hf H Hf' H') (h1 : Hf a = none) (h2 : H a ≠ none) : Hf' a = none := by
  cases q : Hf' a with
  | none => rfl
  | some u =>
    rcases S.n a (by rw [q]; simp) with e | e
    · exact absurd h1 e
    · exact absurd e h2
theorem xok0 {T : Tab} {K : PySem.W.Frag} {W : WX} {σ : L2.St} {Hf H : Hp} : XOk T K W σ Hf H (fun _ => False) := fun _ _ _ _ _ _ _ h => h.elim
section
variable {X : Cx} {T : Tab} {W : WX} {z : Hd} {elt tg iter tg1 iter1 : Expr} {ifs ifs1 : List Expr} {scope : Scope} {own : List (Str × Nat)} {vs1 : List Nat} {pos : Pos} {g g1 : Tg} {ti ti1 : IW} {cs cs1 : TW} {te : EW}
theorem lc_imp {vs : List Nat} {σ : L2.St} {H : Hp} {Qv : VK} (h : rdR T X.K W z (wLc g ti cs te vs) σ H Qv) : tLc (rdI T X.K W z ti) (rdGw vs T X.K z g) (rdT T X.K W0 z cs) (rdD T X.K W0 z (bOf te)) vs σ H Qv := by
  obtain ⟨H0, Hf, δ, Q, Xq, st, xo, kt, q⟩ := h
  refine ⟨H0, Hf, δ, _, Xq, st, xo, fun J Hf1 H1 items S1 itok hq Da hD => ?_, q⟩
  obtain ⟨Wv, w0, step, done⟩ := hq
  let Pv : Nat → Hp → Prop := fun i H' => ∃ Hf' acc ws, Step Hf1 H1 Hf' H' ∧ H' Da = some (.lst ws) ∧ RepL T X.K Hf' acc ws ∧ Hf' Da = none ∧ Wv i acc
  refine ⟨fun i m H' => m = items.length - i ∧ i ≤ items.length ∧ Pv i H', ⟨items.length, by simp, Nat.zero_le _, Hf1, [], [], Step.newH S1.i hD, upd_same, RepL.nil, S1.i.fresh hD, w0⟩, ?_⟩
  rintro i m H' ⟨rfl, hi, Hf', acc, ws, S', eD, rA, fD, w'⟩
  obtain ⟨gos, stop⟩ := itok Hf' H' S'.f S'.i fun a o _ h1 => S'.h a o h1
  have st' := ((st.step S1).step S').wiped vs
  by_cases hlt : i < items.length
  · have ed : items[i]? = some items[i] := by simp [hlt]
    obtain ⟨go, yld⟩ := gos i _ ed
    refine .inr ⟨go, Pv (i + 1), fun H2 p2 => ⟨items.length - (i + 1), by omega, rfl, hlt, p2⟩, fun v H2 hy => ?_⟩
    obtain ⟨Hf2, S2, rp⟩ := yld v H2 hy
    refine ⟨H0, Hf2, δ.wipe vs, _, _, st'.step S2, rp, fun σ3 δ3 st3 hw kp3 q3 => ⟨hw.trans wipe_wipe, ?_⟩, step i _ acc ed w'⟩
    refine ⟨H0, Hf2, δ3, _, _, st3, xok0, fun b Hf3 H3 S3 hq => ?_, q3⟩
    cases b with
    | false =>
      simp only [Bool.false_eq_true, if_false] at hq ⊢
      have S23 := S2.trans S3
      exact ⟨Hf3, acc, ws, S'.trans S23, S23.h _ _ eD, rA.mono S23.f, newF_at S23 fD (by rw [eD]; simp), hq⟩
    | true =>
      simp only [if_true] at hq ⊢
      refine ⟨H0, Hf3, δ3, fun d => acc.length < 16777216 ∧ Wv (i + 1) (acc ++ [d]), _, st3.step S3, xok0, fun u Hf4 H4 d S4 rp4 hq4 => ?_, hq⟩
      have S24 := (S2.trans S3).trans S4
      have e4 := S24.h _ _ eD
      have f4 := newF_at S24 fD (by rw [eD]; simp)
      refine ⟨ws, e4, by rw [← rA.length, sizeLine_eq]; exact hq4.1, Hf4, acc ++ [d], ws ++ [u], (S'.trans S24).mutL f4 hD, upd_same, (rA.mono S24.f).append (RepL.cons rp4 RepL.nil), f4, hq4.2⟩
  · have e : i = items.length := by omega
    subst e
    exact .inl ⟨stop, kt _ Hf' H' (.own acc) (S1.trans S') ⟨Da, ws, rfl, fD, S1.h.fresh hD, eD, rA⟩ (done acc w')⟩
theorem ve_lc (hc : X.calm = true) (hN : X.N.Nodup) (hi : VI X T W z tg iter ti) (ok : BlkOk X.N X.env.scope scope own)
    (hg : ∀ (s : Shared) (H : Hp) (C : Addr) (cl : List (Str × Addr)) (fp : List Addr), VGw (own.map (·.2)) (X.blk s H scope (compEnvC scope cl C X.env) fp) T z tg g)
    (ht : ∀ (s : Shared) (H : Hp) (C : Addr) (cl : List (Str × Addr)) (fp : List Addr), VTs (X.blk s H scope (compEnvC scope cl C X.env) fp) T W0 z ifs cs)
    (he : ∀ (s : Shared) (H : Hp) (C : Addr) (cl : List (Str × Addr)) (fp : List Addr), VE (X.blk s H scope (compEnvC scope cl C X.env) fp) T W0 z elt te)
    (hs : ∀ x, foldedSetIterable iter X.env x = pure x := by intro _; rfl) : VE X T W z (.ListComp elt [⟨tg, iter, ifs, 0⟩] scope pos) (wLc g ti cs te (own.map (·.2))) :=
  PE.imp (pe_lc (g := rdGw (own.map fun (p : Str × Nat) => p.2) T X.K z g) (tt := rdT T X.K W0 z cs) (te := rdD T X.K W0 z (bOf te)) hc hN hi ok hg ht (fun s H C cl fp => (he s H C cl fp).toD) hs) fun _ _ _ h => lc_imp h
end
section
variable {X : Cx} {T : Tab} {W : WX} {z : Hd} {i : Nat} {t : EW} {σ : L2.St} {H : Hp} {En : Ends}
/-- name = e, the value kept as one's own: the store -/
theorem own_imp (h : rdS T X.K W z (sOwn i t) En σ H) : tAsg (rdR T X.K W z t) (gName i) En σ H := by
  obtain ⟨H0, Hf0, Hf, δ, k, s0, st, ks, q⟩ := h
  refine ⟨H0, Hf, δ, fun r => k.nx (δ.set i (some r.s)), _, st, ks.xo s0 st, fun v Hf' H' r S rs hq => ?_, q⟩
  refine ks.nx _ H' Hf' _ (s0.trans S) ?_ hq
  cases r with
  | fz d => exact (st.step S).setF rs
  | own ds =>
    obtain ⟨a, vs, rfl, h1, h2, h3, h4⟩ := rs
    refine (st.step S).set ⟨a, vs, rfl, h1, s0.h.fresh h2, h3, h4⟩ fun _ j s' hj ej hm e2 => ?_
    obtain ⟨w, ew, hw⟩ := slot_at st ej
    rw [ew] at e2
    cases e2
    cases s' with
    | own es =>
      obtain ⟨b, ws, e, g1, g2, g3, g4⟩ := hw
      cases e
      rw [h2] at g3
      cases g3
    | ob c es =>
      obtain ⟨b, dx, fs, e, g1, g0, g3, g4, g5⟩ := hw
      cases e
      rw [h2] at g3
      cases g3
    | _ => cases hm
theorem set_imp (h : rdS T X.K W z (sSet i t) En σ H) : tAsg (rdR T X.K W z t) (gName i) En σ H := by
  obtain ⟨H0, Hf0, Hf, δ, k, s0, st, ks, q⟩ := h
  refine ⟨H0, Hf, δ, fun r => k.nx (δ.set i (some (.fz r.d))), _, st, ks.xo s0 st, fun v Hf' H' r S rs hq => ?_, q⟩
  obtain ⟨Hf2, S2, rp⟩ := rs.freeze S
  exact ks.nx _ H' Hf2 _ (s0.trans S2) ((st.step S2).setF rp) hq
end
section
variable {X : Cx} {T : Tab} {W : WX} {z : Hd} {i : Nat} {y : Str} {elt tg iter tg1 iter1 : Expr} {ifs ifs1 : List Expr} {scope : Scope} {own : List (Str × Nat)} {vs1 : List Nat} {pos py spos : Pos} {g g1 : Tg} {ti ti1 : IW} {cs cs1 : TW} {te : EW}
theorem vs_ownLc (hc : X.calm = true) (hN : X.N.Nodup) (hi : VI X T W z tg iter ti) (ok : BlkOk X.N X.env.scope scope own)
    (hg : ∀ (s : Shared) (H : Hp) (C : Addr) (cl : List (Str × Addr)) (fp : List Addr), VGw (own.map (·.2)) (X.blk s H scope (compEnvC scope cl C X.env) fp) T z tg g)
    (ht : ∀ (s : Shared) (H : Hp) (C : Addr) (cl : List (Str × Addr)) (fp : List Addr), VTs (X.blk s H scope (compEnvC scope cl C X.env) fp) T W0 z ifs cs)
    (he : ∀ (s : Shared) (H : Hp) (C : Addr) (cl : List (Str × Addr)) (fp : List Addr), VE (X.blk s H scope (compEnvC scope cl C X.env) fp) T W0 z elt te)
    (hsw : swapsWith (.ListComp elt [⟨tg, iter, ifs, 0⟩] scope pos) (some (.Name y py)) spos.line X.env = pure true) (hy : X.N[i]? = some y := by rfl) (hyl : X.env.scope.names.lookup y = some .local := by rfl)
    (hs : ∀ x, foldedSetIterable iter X.env x = pure x := by intro _; rfl) : VS X T W z (.Assign [.Name y py] (.ListComp elt [⟨tg, iter, ifs, 0⟩] scope pos) spos) (sOwn i (wLc g ti cs te (own.map (·.2)))) :=
  PS.imp (ps_setLc (g := rdGw (own.map fun (p : Str × Nat) => p.2) T X.K z g) (tt := rdT T X.K W0 z cs) (te := rdD T X.K W0 z (bOf te)) hc hN hy hyl hsw hi ok hg ht (fun s H C cl fp => (he s H C cl fp).toD) hs) fun _ _ _ h => lc_imp (own_imp h)
theorem vs_setLc (hc : X.calm = true) (hN : X.N.Nodup) (hi : VI X T W z tg iter ti) (ok : BlkOk X.N X.env.scope scope own)
    (hg : ∀ (s : Shared) (H : Hp) (C : Addr) (cl : List (Str × Addr)) (fp : List Addr), VGw (own.map (·.2)) (X.blk s H scope (compEnvC scope cl C X.env) fp) T z tg g)
    (ht : ∀ (s : Shared) (H : Hp) (C : Addr) (cl : List (Str × Addr)) (fp : List Addr), VTs (X.blk s H scope (compEnvC scope cl C X.env) fp) T W0 z ifs cs)
    (he : ∀ (s : Shared) (H : Hp) (C : Addr) (cl : List (Str × Addr)) (fp : List Addr), VE (X.blk s H scope (compEnvC scope cl C X.env) fp) T W0 z elt te)
    (hsw : swapsWith (.ListComp elt [⟨tg, iter, ifs, 0⟩] scope pos) (some (.Name y py)) spos.line X.env = pure true) (hy : X.N[i]? = some y := by rfl) (hyl : X.env.scope.names.lookup y = some .local := by rfl)
    (hs : ∀ x, foldedSetIterable iter X.env x = pure x := by intro _; rfl) : VS X T W z (.Assign [.Name y py] (.ListComp elt [⟨tg, iter, ifs, 0⟩] scope pos) spos) (sSet i (wLc g ti cs te (own.map (·.2)))) :=
  PS.imp (ps_setLc (g := rdGw (own.map fun (p : Str × Nat) => p.2) T X.K z g) (tt := rdT T X.K W0 z cs) (te := rdD T X.K W0 z (bOf te)) hc hN hy hyl hsw hi ok hg ht (fun s H C cl fp => (he s H C cl fp).toD) hs) fun _ _ _ h => lc_imp (set_imp h)
/-! ### two fors -/
theorem lc2_imp {vs : List Nat} {σ : L2.St} {H : Hp} {Qv : VK} (h : rdR T X.K W z (wLc2 g ti cs g1 ti1 cs1 te vs vs1) σ H Qv) :
    tLc2 (rdI T X.K W z ti) (rdGw vs T X.K z g) (rdT T X.K W0 z cs) (rdI T X.K W0 z ti1) (rdGw vs1 T X.K z g1) (rdT T X.K W0 z cs1) (rdD T X.K W0 z (bOf te)) vs vs1 σ H Qv := by
  obtain ⟨H0, Hf, δ, Q, Xq, st, xo, kt, q⟩ := h
  refine ⟨H0, Hf, δ, _, Xq, st, xo, fun J Hf1 H1 items S1 itok hq Da hD => ?_, q⟩
  obtain ⟨Wv, w0, step, done⟩ := hq
  let Pv : Nat → Hp → Prop := fun i H' => ∃ Hf' acc ws, Step Hf1 H1 Hf' H' ∧ H' Da = some (.lst ws) ∧ RepL T X.K Hf' acc ws ∧ Hf' Da = none ∧ Wv i acc
  refine ⟨fun i m H' => m = items.length - i ∧ i ≤ items.length ∧ Pv i H', ⟨items.length, by simp, Nat.zero_le _, Hf1, [], [], Step.newH S1.i hD, upd_same, RepL.nil, S1.i.fresh hD, w0⟩, ?_⟩
  rintro i m H' ⟨rfl, hi, Hf', acc, ws, S', eD, rA, fD, w'⟩
  obtain ⟨gos, stop⟩ := itok Hf' H' S'.f S'.i fun a o _ h1 => S'.h a o h1
  have st' := ((st.step S1).step S').wiped vs
  by_cases hlt : i < items.length
  · have ed : items[i]? = some items[i] := by simp [hlt]
    obtain ⟨go, yld⟩ := gos i _ ed
    refine .inr ⟨go, Pv (i + 1), fun H2 p2 => ⟨items.length - (i + 1), by omega, rfl, hlt, p2⟩, fun v H2 hy => ?_⟩
    obtain ⟨Hf2, S2, rp⟩ := yld v H2 hy
    refine ⟨H0, Hf2, δ.wipe vs, _, _, st'.step S2, rp, fun σ3 δ3 st3 hw kp3 q3 => ⟨hw.trans wipe_wipe, ?_⟩, step i _ acc ed w'⟩
    refine ⟨H0, Hf2, δ3, _, _, st3, xok0, fun b Hf3 H3 S3 hq => ?_, q3⟩
    cases b with
    | false =>
      simp only [Bool.false_eq_true, if_false] at hq ⊢
      have S23 := S2.trans S3
      exact ⟨Hf3, acc, ws, S'.trans S23, S23.h _ _ eD, rA.mono S23.f, newF_at S23 fD (by rw [eD]; simp), hq⟩
    | true =>
      simp only [if_true] at hq ⊢
      refine ⟨H0, Hf3, δ3, _, _, st3.step S3, xok0, fun J1 Hf4 H4 items1 S4 itok1 hq4 => ?_, hq⟩
      obtain ⟨W1, v0, step1, done1⟩ := hq4
      have S24 := (S2.trans S3).trans S4
      have e4 := S24.h _ _ eD
      have f4 := newF_at S24 fD (by rw [eD]; simp)
      have st4 := (st3.step S3).step S4
      let P1 : Nat → Hp → Prop := fun j H' => ∃ Hf' acc ws, Step Hf1 H1 Hf' H' ∧ StOk T X.K z H0 Hf' H' σ3 δ3 ∧ Ex Hf4 Hf' ∧ (∀ a o, a ≠ Da → H4 a = some o → H' a = some o) ∧ H' Da = some (.lst ws) ∧ RepL T X.K Hf' acc ws ∧ Hf' Da = none ∧ W1 j acc
      refine ⟨fun j m H' => m = items1.length - j ∧ j ≤ items1.length ∧ P1 j H', ⟨items1.length, by simp, Nat.zero_le _, Hf4, acc, ws, S'.trans S24, st4, Ex.refl _, fun _ _ _ h => h, e4, rA.mono S24.f, f4, v0⟩, ?_⟩
      rintro j m H5 ⟨rfl, hj, Hf5, acc1, ws1, S5, st5, x5, y5, e5, r5, f5, w5⟩
      obtain ⟨gos1, stop1⟩ := itok1 Hf5 H5 x5 S5.i fun a o ha h1 => y5 a o (fun e => ha (by rw [e]; exact (st.step S1).h0.fresh hD)) h1
      by_cases hlt1 : j < items1.length
      · have ed1 : items1[j]? = some items1[j] := by simp [hlt1]
        obtain ⟨go1, yld1⟩ := gos1 j _ ed1
        refine .inr ⟨go1, P1 (j + 1), fun H6 p6 => ⟨items1.length - (j + 1), by omega, rfl, hlt1, p6⟩, fun v6 H6 hy6 => ?_⟩
        obtain ⟨Hf6, S6, rp6⟩ := yld1 v6 H6 hy6
        refine ⟨H0, Hf6, δ3.wipe vs1, _, _, (st5.wiped vs1).step S6, rp6, fun σ7 δ7 st7 hw7 kp7 q7 => ⟨hw7.trans wipe_wipe, ?_⟩, step1 j _ acc1 ed1 w5⟩
        refine ⟨H0, Hf6, δ7, _, _, st7, xok0, fun b1 Hf7 H7 S7 hq7 => ?_, q7⟩
        cases b1 with
        | false =>
          simp only [Bool.false_eq_true, if_false] at hq7 ⊢
          have S67 := S6.trans S7
          exact ⟨Hf7, acc1, ws1, S5.trans S67, st5.step S67, x5.trans S67.f, fun a o ha h => S67.h a o (y5 a o ha h), S67.h _ _ e5, r5.mono S67.f, newF_at S67 f5 (by rw [e5]; simp), hq7⟩
        | true =>
          simp only [if_true] at hq7 ⊢
          refine ⟨H0, Hf7, δ7, fun d => acc1.length < 16777216 ∧ W1 (j + 1) (acc1 ++ [d]), _, st7.step S7, xok0, fun u Hf8 H8 d S8 rp8 hq8 => ?_, hq7⟩
          have S68 := (S6.trans S7).trans S8
          have e8 := S68.h _ _ e5
          have f8 := newF_at S68 f5 (by rw [e5]; simp)
          have st8 := st5.step S68
          exact ⟨ws1, e8, by rw [← r5.length, sizeLine_eq]; exact hq8.1, Hf8, acc1 ++ [d], ws1 ++ [u], (S5.trans S68).mutL f8 hD, StOk.updN (st.step S1) hD ((Kept.wiped st.len vs).1.trans kp3) st8 f8, x5.trans S68.f, fun a o ha h => by rw [upd_ne ha]; exact S68.h a o (y5 a o ha h), upd_same, (r5.mono S68.f).append (RepL.cons rp8 RepL.nil), f8, hq8.2⟩
      · have e : j = items1.length := by omega
        subst e
        exact .inl ⟨stop1, Hf5, acc1, ws1, S5, e5, r5, f5, done1 acc1 w5⟩
  · have e : i = items.length := by omega
    subst e
    exact .inl ⟨stop, kt _ Hf' H' (.own acc) (S1.trans S') ⟨Da, ws, rfl, fD, S1.h.fresh hD, eD, rA⟩ (done acc w')⟩
theorem ve_lc2 (hc : X.calm = true) (hN : X.N.Nodup) (hi : VI X T W z tg iter ti) (ok : BlkOk X.N X.env.scope scope own) (hv : ∀ i ∈ vs1, i ∈ own.map (·.2))
    (hg : ∀ (s : Shared) (H : Hp) (C : Addr) (cl : List (Str × Addr)) (fp : List Addr), VGw (own.map (·.2)) (X.blk s H scope (compEnvC scope cl C X.env) fp) T z tg g)
    (ht : ∀ (s : Shared) (H : Hp) (C : Addr) (cl : List (Str × Addr)) (fp : List Addr), VTs (X.blk s H scope (compEnvC scope cl C X.env) fp) T W0 z ifs cs)
    (hi1 : ∀ (s : Shared) (H : Hp) (C : Addr) (cl : List (Str × Addr)) (fp : List Addr), VI (X.blk s H scope (compEnvC scope cl C X.env) fp) T W0 z tg1 iter1 ti1)
    (hg1 : ∀ (s : Shared) (H : Hp) (C : Addr) (cl : List (Str × Addr)) (fp : List Addr), VGw vs1 (X.blk s H scope (compEnvC scope cl C X.env) fp) T z tg1 g1)
    (ht1 : ∀ (s : Shared) (H : Hp) (C : Addr) (cl : List (Str × Addr)) (fp : List Addr), VTs (X.blk s H scope (compEnvC scope cl C X.env) fp) T W0 z ifs1 cs1)
    (he : ∀ (s : Shared) (H : Hp) (C : Addr) (cl : List (Str × Addr)) (fp : List Addr), VE (X.blk s H scope (compEnvC scope cl C X.env) fp) T W0 z elt te)
    (hs : ∀ x, foldedSetIterable iter X.env x = pure x := by intro _; rfl) (hs1 : ∀ env x, foldedSetIterable iter1 env x = pure x := by intro _ _; rfl) :
    VE X T W z (.ListComp elt [⟨tg, iter, ifs, 0⟩, ⟨tg1, iter1, ifs1, 0⟩] scope pos) (wLc2 g ti cs g1 ti1 cs1 te (own.map (·.2)) vs1) :=
  PE.imp (pe_lc2 (g := rdGw (own.map fun (p : Str × Nat) => p.2) T X.K z g) (tt := rdT T X.K W0 z cs) (wi1 := rdI T X.K W0 z ti1) (g1 := rdGw vs1 T X.K z g1) (tt1 := rdT T X.K W0 z cs1) (te := rdD T X.K W0 z (bOf te)) hc hN hi ok hv hg ht hi1 hg1 ht1 (fun s H C cl fp => (he s H C cl fp).toD) hs hs1) fun _ _ _ h => lc2_imp h
end
end VL
end
section
set_option Elab.async false
set_option linter.all false
set_option maxRecDepth 100000
set_option maxHeartbeats 4000000
/-! VLset: len(set(..)), list(range(..)). -/
namespace VL
open PySem PySem.Spec PyProof.Rows L2
section
variable {X : Cx} {T : Tab} {W : WX} {z : Hd} {a b : Expr} {t ta tb : EW} {u : BW} {p p0 p2 q pos : Pos}
theorem map_getD : ∀ (is : List Int), (List.range is.length).map (fun i => is.getD i 0) = is := fun is => by
  apply List.ext_getElem?
  intro j
  rw [List.getElem?_map]
  by_cases h : j < is.length
  · rw [List.getElem?_range h, List.getElem?_eq_getElem h]
    simp [h]
  · rw [List.getElem?_eq_none (by rw [List.length_range]; omega), List.getElem?_eq_none (by omega)]
    rfl
theorem first_ddup (is : List Int) : firstMet (fun i => is.getD i 0) is.length = ddup is := by
  unfold firstMet ddup
  rw [map_getD]
  rfl
theorem ve_lenSet (hc : X.calm = true) (hg : Gl X "len") (hm : X.mg "len" = none) (hg2 : Gl X "set") (hm2 : X.mg "set" = none) (ha : VLr X T W z a u)
    (na : starEach [a] X.env = (false, eval a X.env) :: starEach [] X.env := by rfl) : VE X T W z (.Call (.Name "len" p) [.Call (.Name "set" p2) [a] [] q] [] pos) (wLenSet u) := by
  refine ⟨fun pins s σ H Qv I ⟨H0, Hf, δ, Q, Xq, st, xo, kt, qq⟩ => ?_⟩
  refine Call_ (ld_blt I hg hm PySem.boot_len ?_)
  refine callWith_builtin1 (args_cons ?_ rfl) rfl rfl
  refine Call_ (ld_blt I hg2 hm2 boot_set ?_)
  have arg : rdL T X.K W z u σ H (fun v H1 => ∃ Hf1 is, Step Hf H Hf1 H1 ∧ (∃ l, v = V.ref l ∧ SqL X.K H1 l (is.map V.int)) ∧ is.length ≤ 4000 ∧ Q (.fz (.int ((ddup is).length : Int)))) := by
    refine ⟨H0, Hf, δ, _, Xq, st, xo, fun v Hf1 H1 d S r hq => ?_, qq⟩
    cases d with
    | lst xs =>
      simp only [] at hq
      cases e : intsOf xs with
      | none => rw [e] at hq; exact hq.elim
      | some is =>
        rw [e] at hq
        exact ⟨Hf1, is, S, ints_at e S.i r, hq.1, hq.2⟩
    | _ => exact hq.elim
  refine callWith_type1 (args_cons (thn (ha.run pins s σ H _ I arg) fun v s1 ⟨x, H1, I1, r1, Hf1, is, S, ⟨l, ex, hq⟩, hl, q1⟩ => args_nil ?_) na) na rfl
  subst ex
  cases r1
  obtain ⟨its, r, pl, hz⟩ := I1.list hq
  have hlen : its.toArray.size = is.length := by rw [List.size_toArray, ← r.length, List.length_map]
  refine call_set_list (I1.ok.hd hc) pl.isList (ns := is) (by simpa using r.ints) (by unfold scanBound; omega) fun h' tk hS hk => ?_
  rw [hlen, first_ddup] at hS
  refine args_nil ?_
  obtain ⟨o, es, ep, tb, ho, hex, hd, _, _, _, hf, hn⟩ := hS
  have I2 : Inv X pins σ H1 { s1 with heap := h', toks := tk } := I1.kept fun c o e => hk c o (Heap.lt_size e) e
  have hb : (ddup is).length ≤ is.length := by
    rw [← first_ddup]
    exact firstMet_length_le _ _
  refine call_len_set ho hex hd hf (by rw [hn]; omega) ⟨.int ((ddup is).length : Int), H1, I2.tok _, ⟨_, by rw [hn]⟩, kt _ Hf1 H1 (.fz (.int _)) S (by unfold Res Rep; rfl) q1⟩
theorem rep_rg {Hf : Hp} (lo hi : Int) : RepL T X.K Hf (intsFrom lo (hi - lo).toNat) (rgV lo hi) := by
  have e : intsFrom lo (hi - lo).toNat = ((List.range (hi - lo).toNat).map fun (i : Nat) => lo + (i : Int)).map D.int := by
    unfold intsFrom
    rw [List.map_map]
    rfl
  rw [e]
  refine RepL.ints.mpr ?_
  unfold rgV
  rw [List.map_map]
  rfl
theorem ve_listRg1 (hc : X.calm = true) (hg : Gl X "list") (hm : X.mg "list" = none) (hg2 : Gl X "range") (hm2 : X.mg "range" = none) (ha : VE X T W z a ta)
    (na : starEach [a] X.env = (false, eval a X.env) :: starEach [] X.env := by rfl) (nb : starEach [.Call (.Name "range" p2) [a] [] q] X.env = (false, eval (.Call (.Name "range" p2) [a] [] q) X.env) :: starEach [] X.env := by rfl) :
    VE X T W z (.Call (.Name "list" p) [.Call (.Name "range" p2) [a] [] q] [] pos) (wListRg1 ta) :=
  PE.imp (pe_listRg hc hg hm (prg_1 hg2 hm2 ha.toD (na := na)) nb) fun σ H Qv ⟨H0, Hf, δ, Q, Xq, st, xo, kt, qq⟩ =>
    ⟨H0, Hf, δ, fun d => (match d with | .int n => (small62 n ∧ small24 n) ∧ Q (.own (intsFrom 0 n.toNat)) | _ => False), Xq, st, xo, fun v Hf1 H1 d S r hq => by
      cases d with
      | int n =>
        unfold Rep at r
        subst r
        obtain ⟨⟨h1, h2⟩, hq⟩ := hq
        unfold small62 at h1
        unfold small24 at h2
        refine ⟨n, rfl, ⟨by omega, by omega, h1.1, h1.2, by omega⟩, fun l hl => kt _ Hf1 _ (.own _) (S.trans (Step.newH S.i hl)) ⟨l, _, rfl, S.i.fresh hl, S.h.fresh hl, upd_same, ?_⟩ hq⟩
        have := rep_rg (T := T) (X := X) (Hf := Hf1) 0 n
        rw [Int.sub_zero] at this
        exact this
      | _ => exact hq.elim, qq⟩
end
end VL
end
section
set_option Elab.async false
set_option linter.all false
set_option maxRecDepth 100000
set_option maxHeartbeats 4000000
/-! VLexc: an own exception class whose __init__ begins with super().__init__(text) and keeps its parameters. -/
namespace VL
open PySem PySem.Spec PyProof.Rows L2
/-- what stands in memory of such a class: C, its __init__ f, the cell cc of its own name, the code object cda -/
structure SupF (P : Program) (K : PySem.W.Frag) (mg : Str → Option Value) (C f cc cda : Addr) (name qual : Str) (params : Arguments) (body : List Stmt) (scope : Scope) (slf : Str) : Prop where
  oex : OexC K C
  lk : ∃ oc od kV doc pm an ct osl, K.lookup f = some ⟨oc, od, .func (PySem.W.ksFn name qual params body scope .none kV doc pm an (.ref cda) ct cc), osl⟩
  hcd : PySem.W.codeIn K (.ref cda) qual = true
  hp : ∃ ar : Arg, (params.posonlyargs ++ params.args).head? = some ar ∧ ar.arg = slf
  code : ∃ ccl cdd vs ccs file tf, K.lookup cda = some ⟨ccl, cdd, .fields vs, ccs⟩ ∧ vs[2]? = some (.str file tf) ∧ ((P.main.file : Str) == file) = true
  cell : ∃ cl cld csl, K.lookup cc = some ⟨cl, cld, .cell (some (.ref C)), csl⟩
  sup : mg "super" = none
  top : (P.main.scope.names.lookup ("super" : Str)).isSome = false
  ks : scope.names.lookup ("super" : Str) = some .globalImplicit
  kc : scope.names.lookup ("__class__" : Str) = some .free
  ka : scope.names.lookup slf = some .local
  init : PySem.W.ks_superIn K C C "__init__" = some (some (.builtin "ValueError.__init__"))
  subV : PySem.W.subIn K (.ref C) (.type "ValueError") = some true
  mroC : PySem.W.mroIn K C (.ref C) = some true
  opq : PySem.W.nsIn K cStatics "thirdparty.any" = some none
abbrev supB (ea : Expr) (p0 p1 p2 p3 p4 : Pos) (rest : List Stmt) : List Stmt := .Expr (.Call (.Attribute (.Call (.Name "super" p0) [] [] p1) "__init__" p2) [ea] [] p3) p4 :: rest
abbrev supN (name qual : Str) (params : Arguments) (body : List Stmt) (scope : Scope) (cc cda : Addr) : NdefX.NF := ⟨name, qual, params, body, scope, [("__class__", cc)], cda⟩
theorem one_cell {cc : Addr} {y : Str} {c : Addr} (e : List.lookup y [(("__class__" : Str), cc)] = some c) : y = "__class__" ∧ c = cc := by
  rw [List.lookup_cons] at e
  split at e
  · rename_i hb
    exact ⟨beq_iff_eq.mp hb, (Option.some.inj e).symm⟩
  · cases e
section
variable {CX : CXT} {P : Program} {w : World} {K : PySem.W.Frag} {mg : Str → Option Value} {base : Heap} {N ps : List Str} {C f cc cda : Addr} {k : Nat} {sp : Sp} {name qual slf : Str} {params : Arguments} {rest : List Stmt} {scope : Scope} {ea : Expr} {p0 p1 p2 p3 p4 : Pos}
/-- the first statement: super().__init__(ea) -/
theorem super_stmt {body : List Stmt} {A : Around} {outer : List Env} {s0 : Shared} {H0 : Hp} {E : XK} {a : Addr} {σ : L2.St} {H : Hp} {h₁ : Heap} {g : Array GenState} {dr : Drawn} {tk : Nat} {os : OsState} {te : TE} {Q : Hp → Prop}
    (F : SupF P K mg C f cc cda name qual params body scope slf) (hk : scope.kind = .function) (hself : N[0]? = some slf)
    (I : Inv (NdefX.ncx CX P w K mg base N (supN name qual params body scope cc cda) f A outer s0 H0 E) [] σ H ⟨h₁, g, dr, tk, os⟩) (hσ : σ[0]? = some (some (.ref a))) (ha : H a = some (exo a C none))
    (he : PE (NdefX.ncx CX P w K mg base N (supN name qual params body scope cc cda) f A outer s0 H0 E) ea te) (hq : te σ H fun _ H1 => H1 a = some (exo a C none) ∧ Q H1)
    (hs : starEach [ea] (NdefX.envF (supN name qual params body scope cc cda) f s0.heap.objs.size) = [(false, eval ea (NdefX.envF (supN name qual params body scope cc cda) f s0.heap.objs.size))])
    {pl : Sem Bool} (hcall : eval (.Call (.Attribute (.Call (.Name "super" p0) [] [] p1) "__init__" p2) [ea] [] p3) (NdefX.envF (supN name qual params body scope cc cda) f s0.heap.objs.size) = (do
      let ov ← attributeBase (.Call (.Name "super" p0) [] [] p1) "__init__" (NdefX.envF (supN name qual params body scope cc cda) f s0.heap.objs.size) (eval (.Call (.Name "super" p0) [] [] p1) (NdefX.envF (supN name qual params body scope cc cda) f s0.heap.objs.size))
      standAt p2.atName
      let (fx, first) ← holding [ov] (getMethod ov "__init__" pl)
      callWith p3 fx first (backTo p3 (starEach [ea] (NdefX.envF (supN name qual params body scope cc cda) f s0.heap.objs.size))) [])) :
    _root_.PySem.wpAt (model P w) (NdefX.ncx CX P w K mg base N (supN name qual params body scope cc cda) f A outer s0 H0 E).A (.func body (NdefX.envF (supN name qual params body scope cc cda) f s0.heap.objs.size))
      (exec (.Expr (.Call (.Attribute (.Call (.Name "super" p0) [] [] p1) "__init__" p2) [ea] [] p3) p4) (NdefX.envF (supN name qual params body scope cc cda) f s0.heap.objs.size))
      (fun fl s' => fl = .next ∧ ∃ H1, Inv (NdefX.ncx CX P w K mg base N (supN name qual params body scope cc cda) f A outer s0 H0 E) [] σ H1 s' ∧ H1 a = some (exo a C none) ∧ Q H1)
      (NdefX.ncx CX P w K mg base N (supN name qual params body scope cc cda) f A outer s0 H0 E).xe ⟨h₁, g, dr, tk, os⟩ := by
  obtain ⟨oc, od, kV, doc, pm, an, ct, osl, lk⟩ := F.lk
  obtain ⟨ccl, cdd, cvs, ccs, file, tf, lcode, hvs, hfile⟩ := F.code
  obtain ⟨cl, cld, csl, lcell⟩ := F.cell
  obtain ⟨ar, har, hara⟩ := F.hp
  obtain ⟨nm, qn, NN, bs, bm, sn, sub, ab, col, dd, k0, k1, k2, k3, k5, hC, hbm⟩ := F.oex.cls
  have K1 : K.In h₁ := I.kIn
  obtain ⟨t1, ho⟩ := exo_at I.hok ha
  obtain ⟨m, hn, hlk⟩ := id I.loc
  obtain ⟨mb, hb1, hb2⟩ := I.mod.blt
  have hms : m slf = some (.ref a) := by
    obtain ⟨u, ru, q⟩ := hlk 0 slf (.ref a) hself hσ (.inl F.ka)
    cases ru
    rcases q with ⟨_, e⟩ | ⟨kk, _⟩
    · exact e
    · rcases kk with kk | kk
      · have z : scope.names.lookup slf = some .cell := kk
        rw [F.ka] at z
        cases z
      · have z : scope.names.lookup slf = some .free := kk
        rw [F.ka] at z
        cases z
  have hcl : PySem.W.clsIn K C = some { name := nm, bases := bs, mro := .ref C :: bm, ns := NN, qualname := qn, hasDict := true, slotNames := sn, subclasses := sub, abstract := ab, collection := col, hasDel := false } := by
    unfold PySem.W.clsIn
    rw [hC] <;> rfl
  have IA : PySem.W.InstAt h₁ a { cls := .ref C, dict := none, data := .fields #[.ref t1, .none, .none, .none, .bool false, .none] } C none := ⟨ho, rfl, rfl, trivial⟩
  refine PySem.ks_wpAt_Expr_any (PySem.ks_wpAt_MethodCall (pl := pl) ?_ hcall) I.quiet (by rfl)
  refine PySem.ks_wpAt_super_base F.ks F.kc (by decide) rfl (K1 _ _ lk) rfl har rfl (K1 _ _ lcode) rfl hvs hfile F.top ?_
  refine PySem.W.ks_loadName_global hk F.ks (PySem.Calls.loadGlobal_builtin (I.mod.glob.keeps I.bk) F.sup (hb1.keeps I.bk) ((hb2 _ (by decide +kernel)).trans (by decide +kernel)) ⟨rfl, ?_⟩)
  refine wpAny_loadName_free hk F.kc (by rfl) ⟨_, K1 _ _ lcell, rfl⟩ ?_
  rw [hara]
  refine wpAny_loadName_local hk F.ka hn hms ?_
  refine PySem.ks_wpAny_isType_cls (K1 _ _ hC) rfl ⟨rfl, ?_⟩
  refine PySem.ks_wpAny_call_super (K1 _ _ hC) rfl ho rfl (fun c e => by cases e) (PySem.W.looks_mroIn K1 F.mroC) (fun h2 e2 kk2 => ?_)
  have I2 := I.kept (h' := h2) (t' := tk) kk2
  have K2 : K.In h2 := I2.kIn
  have IA2 : PySem.W.InstAt h2 a _ C none := ⟨kk2 _ _ ho, rfl, rfl, trivial⟩
  have hin := F.init
  unfold PySem.W.ks_superIn at hin
  rw [hcl] at hin
  refine PySem.W.kxs_getMethod PySem.W.kxs_ValueError e2 (PySem.W.looks_opaque K2 F.opq) (l₀ := .ref C :: bm) (fun A Q E s k q => wpAny_bind ((PySem.W.looks_clsIn K2 hcl) A _ E s k (wpAny_pure q))) rfl K2 hin (IA2.type.andThen (PySem.W.looks_subIn K2 F.subV)) (PySem.W.ks_ne K2 IA2 hcl) (by decide) ?_
  have I3 := I2.kept (h' := h2.push (PySem.W.kxs_mw "ValueError.__init__" a)) (t' := tk + 1) fun b o e => Heap.get?_push_of_some _ e
  have hu : H h2.objs.size = none := I2.hok.fresh (Nat.le_refl _)
  have I4 := I3.pins_of (pins' := [(h2.objs.size, PySem.W.kxs_mw "ValueError.__init__" a)]) fun p hp => by
    rw [List.mem_singleton.mp hp]
    exact ⟨Heap.get?_push_size _ rfl, hu, Nat.ne_of_gt I2.lt, I2.nofs (Nat.le_refl _), fun v e => by cases e⟩
  have pa : PA (NdefX.ncx CX P w K mg base N (supN name qual params body scope cc cda) f A outer s0 H0 E) [ea] (tCons te tNil) := pa_cons he pa_nil hs
  have run := pa.run p3 [(h2.objs.size, PySem.W.kxs_mw "ValueError.__init__" a)] ⟨h2.push (PySem.W.kxs_mw "ValueError.__init__" a), g, dr, tk + 1, os⟩ σ H (fun vs H1 => match vs with | [_] => H1 a = some (exo a C none) ∧ Q H1 | _ => False) I4 hq
  have run2 : wpAny (model P w) (NdefX.ncx CX P w K mg base N (supN name qual params body scope cc cda) f A outer s0 H0 E).A (spliced (backTo p3 [(false, eval ea (NdefX.envF (supN name qual params body scope cc cda) f s0.heap.objs.size))])) _ _ _ := hs ▸ run
  rw [hs]
  refine PySem.W.kxs_callWith (i := "ValueError.__init__") (x := a) rfl (PySem.Calls.evalArgs_plain (thn run2 fun us s4 h4 => ?_))
  obtain ⟨vs, H4, I5, r5, h4⟩ := h4
  have h4' : vs.length = 1 ∧ H4 a = some (exo a C none) ∧ Q H4 := by
    match vs, h4 with
    | [_], h4 => exact ⟨rfl, h4⟩
  obtain ⟨hl5, ha5, hq5⟩ := h4'
  obtain ⟨hp4, g4, d4, t4, os4⟩ := s4
  have hu4 : hp4.get? h2.objs.size = some (PySem.W.kxs_mw "ValueError.__init__" a) := (I5.pin (h2.objs.size, PySem.W.kxs_mw "ValueError.__init__" a) (List.mem_append_right _ List.mem_cons_self)).1
  refine ⟨hu4, ?_⟩
  obtain ⟨t5, ho5⟩ := exo_at I5.hok ha5
  have K5 : K.In hp4 := I5.kIn
  have hus : us.length ≤ sizeLine := by
    rw [← r5.length, hl5, sizeLine_eq]
    decide
  refine wpAny_call (codeAny_of_tree ?_)
  show wpAny _ _ (callAny (.ref h2.objs.size) ⟨us, []⟩) _ _ _
  simp only [callAny]
  refine wpAny_bind (wpAny_load hu4 ?_)
  simp only [PySem.W.kxs_mw, show (Value.type "method-wrapper" == Value.type "method" || Value.type "method-wrapper" == Value.type "builtin_function_or_method" || Value.type "method-wrapper" == Value.type "method-wrapper") = true by decide, if_true]
  refine PySem.W.KFB.if_so (by decide) ?_
  refine wpAny_bind (PySem.W.check_bound_init PySem.F.excBase_ValueError.toExcCallFacts (K5 _ _ hC) ho5 rfl ?_)
  refine wpAny_bind (wpAny_pure (wpAny_pure ?_))
  refine ⟨plainId_quiet PySem.F.excBase_ValueError.init.plain _, codeAny_builtin PySem.F.excBase_ValueError.initEntry ?_⟩
  refine PySem.W.exc_init_tree (cls := .ref C) (t0 := t5) (dv := none) (c2 := .none) (c3 := .none) (b4 := .bool false) ho5 hus fun h' kk' hx' _ => ?_
  have J := I5.write (t' := t4) (x := a) (e := a) (o := exo a C none) (by rw [ha5]; exact True.intro) (.inl rfl) kk' ⟨_, hx'⟩ (exo_ok hx')
  have eu : upd H4 a (exo a C none) = H4 := by
    funext b
    by_cases hb : b = a
    · rw [hb, upd_same, ha5]
    · rw [upd_ne hb]
  rw [eu] at J
  refine ⟨trivial, H4, (J.pins_of (pins' := []) fun p hp => by cases hp), ha5, hq5⟩
/-- the whole def -/
theorem fn_super (F : SupF P K mg C f cc cda name qual params (supB ea p0 p1 p2 p3 p4 rest) scope slf) (S : NdefX.NScope N ps ["__class__"] scope) (hself : N[0]? = some slf)
    (len : ∀ vs H Q E, sp vs H Q E → vs.length = ps.length) (hs : ∀ env : Env, starEach [ea] env = [(false, eval ea env)])
    (hcall : ∀ env : Env, ∃ pl : Sem Bool, eval (.Call (.Attribute (.Call (.Name "super" p0) [] [] p1) "__init__" p2) [ea] [] p3) env = (do
      let ov ← attributeBase (.Call (.Name "super" p0) [] [] p1) "__init__" env (eval (.Call (.Name "super" p0) [] [] p1) env)
      standAt p2.atName
      let (fx, first) ← holding [ov] (getMethod ov "__init__" pl)
      callWith p3 fx first (backTo p3 (starEach [ea] env)) []))
    (hbody : ∀ (A : Around) (outer : List Env) (s : Shared) (H : Hp) (vs : List V) (Q : VK) (E : XK), sp vs H Q E →
      ∃ a te t, (NdefX.startF N vs [none])[0]? = some (some (.ref a)) ∧ H a = some (exo a C none) ∧ PE (NdefX.ncx CX P w K mg base N (supN name qual params (supB ea p0 p1 p2 p3 p4 rest) scope cc cda) f A outer s H E) ea te ∧
        PSs (NdefX.ncx CX P w K mg base N (supN name qual params (supB ea p0 p1 p2 p3 p4 rest) scope cc cda) f A outer s H E) rest t ∧
        te (NdefX.startF N vs [none]) H fun _ H1 => H1 a = some (exo a C none) ∧ t { nx := fun _ H' => Q .non H', rt := Q } (NdefX.startF N vs [none]) H1) :
    ∃ fd : FuncData, (∃ kV doc pm an ct, fd = PySem.W.ksFn name qual params (supB ea p0 p1 p2 p3 p4 rest) scope .none kV doc pm an (.ref cda) ct cc) ∧ FnOk P w K mg base CX (k + 1) f fd ps sp := by
  obtain ⟨oc, od, kV, doc, pm, an, ct, osl, lk⟩ := id F.lk
  refine ⟨_, ⟨kV, doc, pm, an, ct, rfl⟩, len, fun A outer s H args us vs Q E hr e0 hb r hsp => ?_⟩
  have hl := len _ _ _ _ hsp
  have kp0 : ∀ b o, base.get? b = some o → s.heap.get? b = some o := fun b o e => (e0.bs b o e).1
  have KX : K.In s.heap := e0.mod.kin.keeps kp0
  obtain ⟨cl, cld, csl, hcell⟩ := F.cell
  have ccF : H cc = none := (e0.bs cc _ (e0.mod.kin _ _ hcell)).2
  have CA : NdefX.CellsAt (supN name qual params (supB ea p0 p1 p2 p3 p4 rest) scope cc cda).cl ["__class__"] [none] s.heap H := by
    refine ⟨rfl, fun y c e => ?_, fun x y c e1 e2 => ?_, fun i y e => ?_⟩
    · obtain ⟨rfl, rfl⟩ := one_cell e
      exact ⟨ccF, some (.ref C), _, KX _ _ hcell, rfl⟩
    · rw [(one_cell e1).1, (one_cell e2).1]
    · cases i with
      | zero =>
        cases e
        exact ⟨cc, by rfl, fun v hv => by simp at hv⟩
      | succ i => simp at e
  refine PySem.ks_codeAny_call_defAt hr.depth (KX _ _ lk) rfl (e0.mod.nolimit.keeps kp0) (PySem.W.codeRec_of KX F.hcd) rfl hb S.nocell (fun ⟨n, _⟩ hy => S.par n (List.of_mem_zip hy).1) (fun h₁ hns kp => ?_) S.co S.gen S.kind
  obtain ⟨a, te, t, hv0, ha, he, ht, hq⟩ := hbody A outer s H vs Q E hsp
  have I : Inv (NdefX.ncx CX P w K mg base N (supN name qual params (supB ea p0 p1 p2 p3 p4 rest) scope cc cda) f A outer s H E) [] (NdefX.startF N vs [none]) H { s with heap := h₁, toks := s.toks + (ps.zip us).length } := NdefX.inv_startN S hr.hd e0 hl r CA hns kp
  obtain ⟨pl, hc⟩ := hcall (NdefX.envF (supN name qual params (supB ea p0 p1 p2 p3 p4 rest) scope cc cda) f s.heap.objs.size)
  refine PySem.ks_wpAt_execs_cons (PySem.ks_wpAt_mono (super_stmt F S.kind hself I hv0 ha he hq (hs _) hc) (fun fl s' h => ?_) fun _ _ h => h)
  obtain ⟨rfl, H1, I1, ha1, q1⟩ := h
  refine PySem.wpAt_of_wpAny (wpAny_mono (ht.run [] s' (NdefX.startF N vs [none]) H1 _ I1 q1) (fun fl s2 h2 => ?_) fun _ _ h => h)
  have fin : ∀ {σ' : L2.St} {H' : Hp} {v : V} {u : Value}, Inv (NdefX.ncx CX P w K mg base N (supN name qual params (supB ea p0 p1 p2 p3 p4 rest) scope cc cda) f A outer s H E) [] σ' H' s2 → L2.RelV v u → Q v H' → CE outer P w H s Q u s2 :=
    fun {σ' H' v u} J rv q => ⟨v, H', J.os, J.bare, J.base, J.hok, rv, q⟩
  cases fl with
  | ret u =>
    obtain ⟨v, σ', H', J, rv, q⟩ := h2
    exact fin J rv q
  | next =>
    obtain ⟨σ', H', J, q⟩ := h2
    exact fin (v := V.non) (u := Value.none) J rfl q
  | brk =>
    obtain ⟨_, _, _, q⟩ := h2
    exact q.elim
  | cont =>
    obtain ⟨_, _, _, q⟩ := h2
    exact q.elim
end
/-! ### the promise of such an __init__ -/
def spX (C : Addr) (fl : List Str) (b : Bool) : Sp := fun vs H Q _ => ∃ a ws, vs = .ref a :: ws ∧ ws.length = fl.length ∧ (b = true → ∃ y : Str, ws[0]? = some (.str y) ∧ y.length ≤ 1000) ∧ H a = some (exo a C none) ∧
  ∀ d, H d = none → d ≠ a → Q .non (upd (upd H d (exd d (fl.zip ws).reverse)) a (exo a C (some d)))
theorem upd_swap {H : Hp} {a d : Addr} {x y x' : HO} (h : d ≠ a) : upd (upd (upd H d x) a y) d x' = upd (upd H d x') a y := by
  funext b
  by_cases h1 : b = d
  · subst h1
    rw [upd_same, upd_ne h, upd_same]
  · by_cases h2 : b = a
    · subst h2
      rw [upd_ne h1, upd_same, upd_same]
    · rw [upd_ne h1, upd_ne h2, upd_ne h2, upd_ne h1, upd_ne h1]
/-- a class that is raised with fields -/
structure XkV (P : Program) (w : World) (K : PySem.W.Frag) (mg : Str → Option Value) (base : Heap) (T : Tab) (k : Nat) (c : Nat) (n : Nat) (b : Bool) : Prop where
  oex : OexC K (T.cls c)
  ex : ∃ (f : Addr) (fd : FuncData) (ps : List Str), PySem.W.findIn K (.ref (T.cls c)) "__init__" = some (some (.ref f)) ∧ PySem.W.typeIn K (.ref f) = some (.type "function") ∧ FnOk P w K mg base (L2.CX P w) k f fd ps (spX (T.cls c) (T.flds c) b) ∧ Binds K fd ps []
  nd : (T.flds c).Nodup
  len : (T.flds c).length = n
theorem lookup_zip {fl : List Str} : ∀ {ws : List V} {i : Nat} {f : Str} {v : V}, fl.Nodup → fl[i]? = some f → ws[i]? = some v → (fl.zip ws).reverse.lookup f = some v := by
  induction fl with
  | nil =>
    intro ws i f v _ h
    cases i <;> cases h
  | cons g fl ih =>
    intro ws i f v nd h1 h2
    cases ws with
    | nil => cases i <;> cases h2
    | cons u ws =>
      rw [List.zip_cons_cons, List.reverse_cons, List.lookup_append]
      cases i with
      | zero =>
        cases h1
        cases h2
        have : (fl.zip ws).reverse.lookup g = none := by
          cases e : (fl.zip ws).reverse.lookup g with
          | none => rfl
          | some x =>
            have := PySem.mem_of_lookup e
            exact absurd (List.of_mem_zip (List.mem_reverse.mp this)).1 (List.nodup_cons.mp nd).1
        rw [this]
        simp [List.lookup]
      | succ i =>
        rw [ih (List.nodup_cons.mp nd).2 (by simpa using h1) (by simpa using h2)]
        rfl
section
variable {X : Cx} {T : Tab} {W : WX} {z : Hd} {k c n : Nat} {b : Bool} {x : Str} {e : Expr} {es : List Expr} {ms : List Bool} {ar : AW} {pos pos' p : Pos}
theorem vs_raiseF (F : XkV X.prog X.w X.K X.mg X.base T k c n b) (hr : Room (k + 1) X.A) (hc : X.calm = true) (tk : Takes X W) (hg : Gl X x) (hm : X.mg x = some (.ref (T.cls c))) (ha : VA X T W z ms (e :: es) ar) (hms : allF ms = true := by rfl) (hn : n ≤ 1000 := by decide)
    (hdb : (x == ("__debug__" : Str)) = false := by decide) (he : starEach (e :: es) X.env = (false, eval e X.env) :: starEach es X.env := by rfl) (hpl : (backTo pos (starEach es X.env)).any (·.1) = false := by rfl) :
    VS X T W z (.Raise (some (.Call (.Name x p) (e :: es) [] pos)) none pos') (sRaiseF c b n ar) := by
  obtain ⟨f, fd, ps, h1, h2, h3, h4⟩ := F.ex
  refine PS.imp (ps_raise hc tk (pmk_oex F.oex h1 h2 h3 hr h4 .nil (passes_call tk fun _ _ _ _ h => h.elim) hg hm ha hdb he hpl)) fun En σ H ⟨H0, Hf0, Hf, δ, ko, s0, st, ks, q⟩ => ?_
  refine ⟨H0, Hf, δ, _, _, st, ks.xo s0 st, fun vs Hf1 H1 ds S r hq => ?_, q⟩
  have rr := r.rep hms
  obtain ⟨⟨hl, hb⟩, hq⟩ := hq
  refine ⟨?_, fun a ha => ⟨a, vs, by rw [List.append_nil], by rw [← rr.length, hl, F.len], fun hbt => ?_, upd_same, fun d hd hda => ⟨rfl, d, ((T.flds c).zip vs).reverse, upd_same, ?_, ?_, ?_⟩⟩⟩
  · rw [← rr.length, hl]
    exact hn
  · obtain ⟨y, h1, h2⟩ := hb hbt
    obtain ⟨v, ev, rv⟩ := rr.getD h1
    unfold Rep at rv
    exact ⟨y, rv ▸ ev, h2⟩
  · rw [upd_ne hda, upd_same]
  · rw [upd_ne hda] at hd
    exact hd
  · rw [upd_ne hda] at hd
    have eH : upd (del (upd (upd (upd H1 a (exo a (T.cls c) none)) d (exd d ((T.flds c).zip vs).reverse)) a (exo a (T.cls c) (some d))) a) d (.xd ((T.flds c).zip vs).reverse) = upd H1 d (.xd ((T.flds c).zip vs).reverse) := by
      funext g
      by_cases g1 : g = d
      · subst g1
        rw [upd_same, upd_same]
      · rw [upd_ne g1, upd_ne g1]
        by_cases g2 : g = a
        · subst g2
          rw [del_same]
          exact ha.symm
        · rw [del_ne g2, upd_ne g2, upd_ne g1, upd_ne g2]
    rw [eH]
    have S2 := Step.new (o := .xd ((T.flds c).zip vs).reverse) S.i hd
    exact ks.xq ⟨c, ds⟩ _ _ σ _ _ δ (s0.trans (S.trans S2)) (st.step (S.trans S2)) ⟨rfl, .inr ⟨d, _, vs, rfl, upd_same, rr.mono S2.f, by rw [← rr.length, hl, F.len], fun i f v e1 e2 => lookup_zip F.nd e1 e2⟩⟩ hq
end
end VL
end
section
set_option Elab.async false
set_option linter.all false
set_option maxRecDepth 100000
set_option maxHeartbeats 4000000
/-! VLexc2: such classes put together. -/
namespace VL
open PySem PySem.Spec PyProof.Rows L2
/-- self.f = x, one behind another -/
inductive FldB (N : List Str) (scope : Scope) : Nat → List Str → List Stmt → Prop where
  | nil {i : Nat} : FldB N scope i [] []
  | cons {i : Nat} {f x : Str} {fl : List Str} {st : List Stmt} {pa pb pc pd : Pos} (hN : N[i]? = some x) (hx : scope.names.lookup x = some .local) (hd : (x == ("__debug__" : Str)) = false) (hcd : (x == ("__classdict__" : Str)) = false) (r : FldB N scope (i + 1) fl st) :
      FldB N scope i (f :: fl) (.Assign [.Attribute (.Name "self" pa) f pb] (.Name x pc) pd :: st)
/-- the text -/
inductive EaB (N : List Str) (scope : Scope) : Bool → Expr → Prop where
  | txt {m : Str} {j : Nat} {p : Pos} : EaB N scope false (.Constant (.str m) j p)
  | join {m x : Str} {j : Nat} {p q q' : Pos} (hl : m.length ≤ 1000) (hN : N[(1 : Nat)]? = some x) (hx : scope.names.lookup x = some .local) (hd : (x == ("__debug__" : Str)) = false) (hcd : (x == ("__classdict__" : Str)) = false) :
      EaB N scope true (.BinOp (.Constant (.str m) j p) .Add (.Name x q) q')
def tFlds (K : PySem.W.Frag) : Nat → List Str → TS
  | _, [] => fun D σ H => D.nx σ H
  | i, f :: fl => fun D σ H => tOst K f (tVar 0) (tVar i) { D with nx := fun σ' H' => tFlds K (i + 1) fl D σ' H' } σ H
theorem flds_ok {X : Cx} (h0 : X.N[(0 : Nat)]? = some "self") (hs : X.env.scope.names.lookup ("self" : Str) = some .local) : ∀ {i : Nat} {fl : List Str} {st : List Stmt}, FldB X.N X.env.scope i fl st → PSs X st (tFlds X.K i fl)
  | _, _, _, .nil => PSs.imp pss_nil fun _ _ _ h => h
  | _, _, _, .cons hN hx hd hcd r => PSs.imp (pss_cons (ps_ost (pe_var h0 (.inl hs) (by decide) (by decide)) (pe_var hN (.inl hx) hd hcd)) (flds_ok h0 hs r)) fun _ _ _ h => h
theorem fld_run {K : PySem.W.Frag} {C a d : Addr} {D : Ends} {σ : L2.St} (T : OexC K C) (h0 : σ[(0 : Nat)]? = some (some (.ref a))) : ∀ {fl : List Str} {ws : List V} {i : Nat} {acc : List (Str × V)} {H : Hp}, ws.length = fl.length → (∀ j v, ws[j]? = some v → σ[i + j]? = some (some v)) →
    (∀ f ∈ fl, PySem.W.findIn K (.ref C) f = some none) → H a = some (exo a C (some d)) → H d = some (exd d acc) → d ≠ a → acc.length + fl.length ≤ 900 → D.nx σ (upd H d (exd d ((fl.zip ws).reverse ++ acc))) → tFlds K i fl D σ H
  | [], ws, i, acc, H, hl, hv, hf, ea, ed, hda, hz, q => by
    have : upd H d (exd d (([].zip ws).reverse ++ acc)) = H := by
      funext g
      by_cases hg : g = d
      · rw [hg, upd_same, ed]
        rfl
      · rw [upd_ne hg]
    rw [this] at q
    exact q
  | f :: fl, [], i, acc, H, hl, hv, hf, ea, ed, hda, hz, q => by cases hl
  | f :: fl, w :: ws, i, acc, H, hl, hv, hf, ea, ed, hda, hz, q => by
    simp only [List.length_cons] at hl hz
    refine ⟨w, hv 0 w rfl, .ref a, h0, a, C, rfl, T, hf f List.mem_cons_self, .inr ⟨d, acc, ea, ed, by omega, ?_⟩⟩
    refine fld_run T h0 (ws := ws) (by omega) (fun j v e => ?_) (fun g hg => hf g (List.mem_cons_of_mem _ hg)) (by rw [upd_ne (Ne.symm hda)]; exact ea) upd_same hda (by simp only [List.length_cons]; omega) ?_
    · have := hv (j + 1) v (by simpa using e)
      rw [show i + 1 + j = i + (j + 1) by omega]
      exact this
    · have e1 : upd (upd H d (exd d ((f, w) :: acc))) d (exd d ((fl.zip ws).reverse ++ (f, w) :: acc)) = upd H d (exd d (((f :: fl).zip (w :: ws)).reverse ++ acc)) := by
        funext g
        by_cases hg : g = d
        · rw [hg, upd_same, upd_same, List.zip_cons_cons, List.reverse_cons, List.append_assoc]
          rfl
        · rw [upd_ne hg, upd_ne hg, upd_ne hg]
      rw [e1]
      exact q
theorem start_at {N : List Str} {vs : List V} {o : List (Option V)} {j : Nat} {v : V} (h : vs[j]? = some v) : (NdefX.startF N vs o)[j]? = some (some v) := by
  unfold NdefX.startF
  have hj : j < vs.length := by
    by_cases q : j < vs.length
    · exact q
    · rw [List.getElem?_eq_none (by omega)] at h
      cases h
  rw [List.getElem?_append_left (by rw [List.length_map]; exact hj), List.getElem?_map, h]
  rfl
section
variable {P : Program} {w : World} {K : PySem.W.Frag} {mg : Str → Option Value} {base : Heap} {N ps : List Str} {f cc cda : Addr} {k c n : Nat} {name qual : Str} {params : Arguments} {rest : List Stmt} {scope : Scope} {ea : Expr} {p0 p1 p2 p3 p4 : Pos} {T : Tab} {b : Bool} {f1 : Str} {fl : List Str}
theorem mkX (F : SupF P K mg (T.cls c) f cc cda name qual params (supB ea p0 p1 p2 p3 p4 rest) scope "self") (S : NdefX.NScope N ps ["__class__"] scope) (h0 : N[(0 : Nat)]? = some "self")
    (hi : PySem.W.findIn K (.ref (T.cls c)) "__init__" = some (some (.ref f))) (ht : PySem.W.typeIn K (.ref f) = some (.type "function")) (hnd : (T.flds c).Nodup) (hfl : T.flds c = f1 :: fl) (hn : (f1 :: fl).length = n) (hps : ps.length = n + 1) (hn9 : n ≤ 900)
    (hno : ∀ g ∈ T.flds c, PySem.W.findIn K (.ref (T.cls c)) g = some none) (FB : FldB N scope 1 (f1 :: fl) rest) (EB : EaB N scope b ea) (hs : ∀ env : Env, starEach [ea] env = [(false, eval ea env)])
    (hcall : ∀ env : Env, ∃ pl : Sem Bool, eval (.Call (.Attribute (.Call (.Name "super" p0) [] [] p1) "__init__" p2) [ea] [] p3) env = (do
      let ov ← attributeBase (.Call (.Name "super" p0) [] [] p1) "__init__" env (eval (.Call (.Name "super" p0) [] [] p1) env)
      standAt p2.atName
      let (fx, first) ← holding [ov] (getMethod ov "__init__" pl)
      callWith p3 fx first (backTo p3 (starEach [ea] env)) []))
    (hb : ∀ (kV doc pm : Value) (an : Option Addr) (ct : Value) (us : List Value), us.length = ps.length → bindArgs (PySem.W.ksFn name qual params (supB ea p0 p1 p2 p3 p4 rest) scope .none kV doc pm an (.ref cda) ct cc) ⟨us, []⟩ = pure (ps.zip us)) : XkV P w K mg base T (k + 1) c n b := by
  have G := fn_super (CX := L2.CX P w) (w := w) (base := base) (k := k) (sp := spX (T.cls c) (T.flds c) b) F S h0 (fun vs H Q E ⟨a, ws, e, hl, _⟩ => by rw [e, List.length_cons, hl, hfl, hn, hps]) hs hcall ?_
  · obtain ⟨fd, ⟨kV, doc, pm, an, ct, rfl⟩, G⟩ := G
    exact ⟨F.oex, ⟨f, _, ps, hi, ht, G, Binds.all fun us hl => hb kV doc pm an ct us hl⟩, hnd, by rw [hfl]; exact hn⟩
  · intro A outer s H vs Q E ⟨a, ws, e, hl, hbb, ha, q⟩
    subst e
    have s0 : (NdefX.startF N (.ref a :: ws) [none])[(0 : Nat)]? = some (some (.ref a)) := start_at rfl
    have PR := flds_ok (X := NdefX.ncx (L2.CX P w) P w K mg base N (supN name qual params (supB ea p0 p1 p2 p3 p4 rest) scope cc cda) f A outer s H E) h0 F.ka FB
    have go : tFlds K 1 (f1 :: fl) { nx := fun _ H' => Q .non H', rt := Q } (NdefX.startF N (.ref a :: ws) [none]) H := by
      rw [hfl] at hl q hno
      match ws, hl with
      | w1 :: ws, hl =>
        simp only [List.length_cons] at hl hn
        refine ⟨w1, start_at rfl, .ref a, s0, a, _, rfl, F.oex, hno f1 List.mem_cons_self, .inl ⟨ha, fun d hd hda => ?_⟩⟩
        refine fld_run F.oex s0 (ws := ws) (d := d) (by omega) (fun j v e => start_at (by rw [Nat.add_comm]; simpa using e)) (fun g hg => hno g (List.mem_cons_of_mem _ hg)) upd_same (by rw [upd_ne hda, upd_same]) hda (by simp only [List.length_cons, List.length_nil]; omega) ?_
        rw [upd_swap hda]
        have := q d hd hda
        rw [List.zip_cons_cons, List.reverse_cons] at this
        exact this
    cases EB with
    | @txt m j p => exact ⟨a, _, _, s0, ha, pe_str, PR, ha, go⟩
    | @join m x j p q1 q2 hm hN hx hd hcd =>
      refine ⟨a, _, _, s0, ha, pe_op op_add_str pe_str (pe_var hN (.inl hx) hd hcd), PR, ?_⟩
      obtain ⟨y, e1, e2⟩ := hbb rfl
      exact ⟨.str y, start_at (by simpa using e1), m, y, rfl, rfl, by rw [sizeLine_eq]; omega, ha, go⟩
end
end VL
end
section
set_option Elab.async false
set_option linter.all false
set_option maxRecDepth 100000
set_option maxHeartbeats 4000000
/-! VLhk: what the head tells of classes and defs. -/
namespace VL
open PySem PySem.Spec PyProof.Rows L2 He
/-- a def: where it stands, its name, qualified name, parameters, body, scope, defaults -/
structure DV where
  ad : PySem.W.Frag → Addr
  name : Str
  qual : Str
  params : Arguments
  body : List Stmt
  scope : Scope
  dfl : List Dv := []
def fnA (K : PySem.W.Frag) (a : Addr) : FnW := match K.lookup a with
  | some ⟨_, _, .func fd, _⟩ => some (fd.name, fd.qualname, fd.params, fd.body, fd.scope, fd.globals, fd.closure, fd.builtins)
  | _ => none
def DV.val (d : DV) : FnW := some (d.name, d.qual, d.params, .stmts d.body, d.scope, mainGlobals, [], builtinsNs)
def DV.dvs (K : PySem.W.Frag) (d : DV) : List V := d.dfl.map (Dv.v K)
def DV.ok (K : PySem.W.Frag) (d : DV) : Bool := PySem.W.keepIn K (.ref (d.ad K)) && (match K.lookup (d.ad K) with
  | some ⟨_, _, .func fd, _⟩ => PySem.W.codeIn K fd.code d.qual && dflB K fd.defaults (d.dvs K)
  | _ => false)
theorem DV.funD {K : PySem.W.Frag} {d : DV} (e : fnA K (d.ad K) = d.val) (c : d.ok K = true) : ∃ fd, FunD K d.name d.qual d.params d.body d.scope (d.dvs K) [] (d.ad K) fd := by
  obtain ⟨kp, c2⟩ := ba c
  unfold fnA at e
  cases q : K.lookup (d.ad K) with
  | none =>
    rw [q] at c2
    cases c2
  | some o =>
    obtain ⟨oc, od, dt, osl⟩ := o
    rw [q] at c2 e
    cases dt with
    | func fd =>
      obtain ⟨n1, n2, n3, n4, n5, n6, n7, n8, n9, n10, n11, n12, n13, n14, n15⟩ := fd
      have e2 : (some (n1, n2, n3, n4, n5, n6, n7, n15) : FnW) = some (d.name, d.qual, d.params, .stmts d.body, d.scope, mainGlobals, [], builtinsNs) := e
      simp only [Option.some.injEq, Prod.mk.injEq] at e2
      obtain ⟨h1, h2, h3, h4, h5, h6, h7, h8⟩ := e2
      subst h1 h2 h3 h4 h5 h6 h7 h8
      obtain ⟨k1, k2⟩ := ba (show (PySem.W.codeIn K n13 d.qual && dflB K n8 (d.dvs K)) = true from c2)
      exact ⟨_, ⟨oc, od, n8, n9, n10, n11, n12, n13, n14, osl, rfl, q, k1, dflB_ok k2, .inl rfl⟩, kp⟩
    | _ => cases c2
/-! ### the Hook -/
abbrev AlV : Type := Bool × List FnW
def obsV (ck : PySem.W.Frag → Bool) (fn : List DV) (K : PySem.W.Frag) : AlV := (ck K && fn.all fun d => d.ok K, fn.map fun d => fnA K (d.ad K))
def valV (fn : List DV) : AlV := (true, fn.map DV.val)
def SaysV (ck : PySem.W.Frag → Bool) (fn : List DV) (K : PySem.W.Frag) : Prop := obsV ck fn K = valV fn
def obsVG (n : Nat) (ck : PySem.W.Frag → Bool) (fn : List DV) (g : Addr → Option Obj) : AlV := obsV ck fn (frG g (asD g n))
def hookV (n : Nat) (ck : PySem.W.Frag → Bool) (fn : List DV) : PySem.W.Hook where
  α := AlV
  obs := fun s => obsVG n ck fn s.heap.get?
  val := fun _ => valV fn
  says := fun _ h => ∃ K : PySem.W.Frag, K.In h ∧ SaysV ck fn K
  of := fun _ _ e => ⟨_, frG_in, e⟩
  keeps := fun _ _ _ ⟨K, hK, c⟩ k => ⟨K, PySem.W.Frag.In.keeps hK k, c⟩
theorem obsVG_eq {n : Nat} {ck : PySem.W.Frag → Bool} {fn : List DV} {g : Addr → Option Obj} {s : Shared} (h : ∀ a, g a = s.heap.get? a) : obsVG n ck fn g = (hookV n ck fn).obs s := by
  have e : g = s.heap.get? := funext h
  rw [e] <;> rfl
section
variable {ck : PySem.W.Frag → Bool} {fn : List DV} {K : PySem.W.Frag}
theorem SaysV.chk (c : SaysV ck fn K) : ck K = true := (ba (show (ck K && fn.all fun d => d.ok K) = true from congrArg (fun z : AlV => z.1) c)).1
theorem SaysV.def_ (c : SaysV ck fn K) (i : Nat) {d : DV} (h : fn[i]? = some d := by rfl) : ∃ fd, FunD K d.name d.qual d.params d.body d.scope (d.dvs K) [] (d.ad K) fd := by
  have c2 := (ba (show (ck K && fn.all fun d => d.ok K) = true from congrArg (fun z : AlV => z.1) c)).2
  have e : fn.map (fun d => fnA K (d.ad K)) = fn.map DV.val := congrArg (fun z : AlV => z.2) c
  have e2 : (fn.map fun d => fnA K (d.ad K))[i]? = (fn.map DV.val)[i]? := by rw [e]
  rw [List.getElem?_map, List.getElem?_map, h] at e2
  exact DV.funD (Option.some.inj e2) (List.all_eq_true.mp c2 d (List.mem_of_getElem? h))
end
/-! ### addresses -/
/-- a property's getter -/
def pga (K : PySem.W.Frag) (p : Addr) : Addr := match PySem.W.recIn K p "property" with
  | some (.ref g :: _) => g
  | _ => 0
/-- the classes: the instances' first -/
def tabOf (cs : List (Str × List Str)) (n : Nat) (K : PySem.W.Frag) : Tab where
  n := n
  cls := fun c => match cs[c]? with
    | some p => ga K p.1
    | none => 0
  flds := fun c => match cs[c]? with
    | some p => p.2
    | none => []
/-! ### checks -/
def clsFB (K : PySem.W.Frag) (C : Addr) : Bool :=
  (PySem.W.plainGet K C Str.empty && (PySem.W.hasDictIn K C && (PySem.W.plainOver K C && eqO (PySem.W.findIn K (.ref C) "__setattr__") (some (some (.builtin "object.__setattr__")))))) &&
  ((PySem.W.selfFirst K C && (tyNames.all (fun t => decide (PySem.W.subIn K (.type t) (.ref C) = some false)) && decide (PySem.W.subIn K (.ref C) (.type "int") = some false))) &&
  ((eqO (PySem.W.findIn K (.ref C) "__ne__") (some (some (.builtin "object.__ne__"))) && (eqO (PySem.W.findIn K (.ref C) "__class__") (some (some (.builtin "object.__class__"))) && eqO (PySem.W.specialIn K (.builtin "object.__class__") "__get__") (some (some (.builtin "getset_descriptor.__get__"))))) &&
  ((decide (PySem.W.takesIn K (.builtin "object.__class__") = some true) && decide (PySem.W.mroIn K C (.type "object") = some true)) &&
  ((opNames.all (fun nm => match PySem.W.findIn K (.ref C) (dunderR nm) with
    | some none => true
    | some (some (.ref _)) => true
    | _ => false) && (tyNames.all (fun t => decide (PySem.W.kitOne K (.ref C) (.type t) = some false)) && tyNames.all (fun t => decide (PySem.W.kitOne K (.type t) (.ref C) = some false)))) &&
  opNames.all (fun nm => match PySem.W.clsIn K C with
    | some cd => cd.mro.all fun c => eqO (PySem.W.findIn K c (dunderI nm)) (some none)
    | none => false)))))
theorem clsFB_ok {K : PySem.W.Frag} {C : Addr} (h : clsFB K C = true) : ClsF K C := by
  unfold clsFB at h
  obtain ⟨h1, h⟩ := ba h
  obtain ⟨a1, h1⟩ := ba h1
  obtain ⟨a2, h1⟩ := ba h1
  obtain ⟨a3, a4⟩ := ba h1
  obtain ⟨h2, h⟩ := ba h
  obtain ⟨b1, h2⟩ := ba h2
  obtain ⟨b2, b3⟩ := ba h2
  obtain ⟨h3, h⟩ := ba h
  obtain ⟨c1, h3⟩ := ba h3
  obtain ⟨c2, c3⟩ := ba h3
  obtain ⟨h4, h⟩ := ba h
  obtain ⟨d1, d2⟩ := ba h4
  obtain ⟨h5, h6⟩ := ba h
  obtain ⟨e1, h5⟩ := ba h5
  obtain ⟨e2, e3⟩ := ba h5
  refine ⟨⟨a1, a2, a3, eqO_ok a4⟩, b1, fun t ht => of_decide_eq_true (List.all_eq_true.mp b2 t ht), of_decide_eq_true b3, eqO_ok c1, eqO_ok c2, eqO_ok c3, of_decide_eq_true d1, of_decide_eq_true d2, fun nm hn => ?_, fun t ht => of_decide_eq_true (List.all_eq_true.mp e2 t ht), fun t ht => of_decide_eq_true (List.all_eq_true.mp e3 t ht), fun nm hn => ?_⟩
  · have := List.all_eq_true.mp e1 nm hn
    cases e : PySem.W.findIn K (.ref C) (dunderR nm) with
    | none => rw [e] at this; cases this
    | some r =>
      cases r with
      | none => exact ⟨none, rfl, .inl rfl⟩
      | some v =>
        cases v with
        | ref g => exact ⟨_, rfl, .inr ⟨g, rfl⟩⟩
        | _ => rw [e] at this; cases this
  · have := List.all_eq_true.mp h6 nm hn
    cases e : PySem.W.clsIn K C with
    | none => rw [e] at this; cases this
    | some cd =>
      rw [e] at this
      exact ⟨cd, rfl, fun c hc => eqO_ok (List.all_eq_true.mp this c hc)⟩
def libB (T : Tab) (K : PySem.W.Frag) : Bool := (List.range T.n).all fun c => clsFB K (T.cls c) && (((List.range T.n).all fun c' => (decide (c = c') || (decide (PySem.W.subIn K (.ref (T.cls c')) (.ref (T.cls c)) = some false) && decide (T.cls c ≠ T.cls c'))) &&
  decide (PySem.W.kitOne K (.ref (T.cls c)) (.ref (T.cls c')) = some (c == c'))) && (decide (T.flds c).Nodup && ((T.flds c).all (fun f => eqO (PySem.W.findIn K (.ref (T.cls c)) f) (some none)) && decide ((T.flds c).length < 1000))))
theorem libB_ok {T : Tab} {K : PySem.W.Frag} (h : libB T K = true) : Lib T K := by
  have at_ : ∀ c, c < T.n → _ := fun c hc => ba (List.all_eq_true.mp h c (List.mem_range.mpr hc))
  have pr : ∀ c c', c < T.n → c' < T.n → _ := fun c c' hc hc' => ba (List.all_eq_true.mp (ba (at_ c hc).2).1 c' (List.mem_range.mpr hc'))
  refine ⟨fun c hc => clsFB_ok (at_ c hc).1, fun c c' hc hc' hn => ?_, fun c c' hc hc' he => ?_, fun c c' hc hc' => of_decide_eq_true (pr c c' hc hc').2, fun c hc => of_decide_eq_true (ba (ba (at_ c hc).2).2).1, fun c hc f hf => eqO_ok (List.all_eq_true.mp (ba (ba (ba (at_ c hc).2).2).2).1 f hf), fun c hc => of_decide_eq_true (ba (ba (ba (at_ c hc).2).2).2).2⟩
  · rcases Bool.or_eq_true_iff.mp (pr c c' hc hc').1 with e | e
    · exact absurd (of_decide_eq_true e) hn
    · exact of_decide_eq_true (ba e).1
  · rcases Bool.or_eq_true_iff.mp (pr c c' hc hc').1 with e | e
    · exact of_decide_eq_true e
    · exact absurd he (of_decide_eq_true (ba e).2)
def raiseB (T : Tab) (K : PySem.W.Frag) (c : Nat) : Bool := PySem.W.excIn K (T.cls c) veBase "ValueError.__new__" && (PySem.W.keepIn K (.ref (T.cls c)) && (decide (PySem.W.subIn K (.ref (T.cls c)) (.type "BaseException") = some true) && (decide (PySem.W.typeIn K (.ref (T.cls c)) = some (.type "type")) && (T.flds c).isEmpty)))
theorem raiseB_ok {T : Tab} {K : PySem.W.Frag} {c : Nat} (h : raiseB T K c = true) : RaiseF T K c := by
  obtain ⟨h1, h⟩ := ba h
  obtain ⟨h2, h⟩ := ba h
  obtain ⟨h3, h⟩ := ba h
  obtain ⟨h4, h5⟩ := ba h
  exact ⟨h1, h2, of_decide_eq_true h3, of_decide_eq_true h4, List.isEmpty_iff.mp h5⟩
def excFB (T : Tab) (K : PySem.W.Frag) (c : Nat) : Bool := (PySem.W.clsIn K (T.cls c)).isSome && (eqO (PySem.W.findIn K (.ref (T.cls c)) "__getattribute__") (some (some (.builtin "BaseException.__getattribute__"))) && (eqO (PySem.W.findIn K (.ref (T.cls c)) "__getattr__") (some none) && (decide (PySem.W.subIn K (.ref (T.cls c)) (.type "BaseException") = some true) &&
  (PySem.W.hasDictIn K (T.cls c) && (eqO (PySem.W.findIn K (.ref (T.cls c)) "__class__") (some (some (.builtin "object.__class__"))) && (eqO (PySem.W.specialIn K (.builtin "object.__class__") "__get__") (some (some (.builtin "getset_descriptor.__get__"))) && (decide (PySem.W.takesIn K (.builtin "object.__class__") = some true) && decide (PySem.W.mroIn K (T.cls c) (.type "object") = some true))))))))
theorem excFB_ok {T : Tab} {K : PySem.W.Frag} {c : Nat} (h : excFB T K c = true) : ExcF T K c := by
  obtain ⟨h0, h⟩ := ba h
  obtain ⟨h1, h⟩ := ba h
  obtain ⟨h2, h⟩ := ba h
  obtain ⟨h3, h⟩ := ba h
  obtain ⟨h4, h⟩ := ba h
  obtain ⟨h5, h⟩ := ba h
  obtain ⟨h6, h⟩ := ba h
  obtain ⟨h7, h8⟩ := ba h
  exact ⟨h0, eqO_ok h1, eqO_ok h2, of_decide_eq_true h3, h4, eqO_ok h5, eqO_ok h6, of_decide_eq_true h7, of_decide_eq_true h8⟩
/-- a table of the classes 0 .. m - 1 -/
def exmB (T : Tab) (K : PySem.W.Frag) (m : Nat) (ct : Nat → Option Bool) (cv : Value) : Bool := (List.range m).all fun c => match ct c with
  | some b => decide (PySem.W.exmOne K (.ref (T.cls c)) cv = some b)
  | none => true
theorem exmB_ok {T : Tab} {K : PySem.W.Frag} {m : Nat} {ct : Nat → Option Bool} {cv : Value} (h : exmB T K m ct cv = true) (hm : ∀ c b, ct c = some b → c < m) (c : Nat) (b : Bool) (e : ct c = some b) : PySem.W.exmOne K (.ref (T.cls c)) cv = some b := by
  have := List.all_eq_true.mp h c (List.mem_range.mpr (hm c b e))
  rw [e] at this
  exact of_decide_eq_true this
def isxB (T : Tab) (K : PySem.W.Frag) (m : Nat) (ct : Nat → Option Bool) (cv : Value) : Bool := (List.range m).all fun c => match ct c with
  | some b => excFB T K c && decide (PySem.W.kitOne K (.ref (T.cls c)) cv = some b)
  | none => true
theorem isxB_ok {T : Tab} {K : PySem.W.Frag} {m : Nat} {ct : Nat → Option Bool} {cv : Value} (h : isxB T K m ct cv = true) (hm : ∀ c b, ct c = some b → c < m) (c : Nat) (b : Bool) (e : ct c = some b) : ExcF T K c ∧ PySem.W.kitOne K (.ref (T.cls c)) cv = some b := by
  have := List.all_eq_true.mp h c (List.mem_range.mpr (hm c b e))
  rw [e] at this
  obtain ⟨h1, h2⟩ := ba this
  exact ⟨excFB_ok h1, of_decide_eq_true h2⟩
/-- an int constant of a class -/
def conB (T : Tab) (K : PySem.W.Frag) (f : Str) (c : Nat) (i : Int) : Bool := (match PySem.W.findIn K (.ref (T.cls c)) f with
  | some (some (.int j _)) => decide (j = i)
  | _ => false) && (!PySem.W.copiedNames.contains f && decide (f ∉ T.flds c))
theorem special_int {K : PySem.W.Frag} {j : Int} {t t' : Tok} : PySem.W.specialIn K (.int j t) "__get__" = PySem.W.specialIn K (.int j t') "__get__" := rfl
def conGet (K : PySem.W.Frag) : Bool := eqO (PySem.W.specialIn K (.int 0 0) "__get__") (some none)
theorem conB_ok {T : Tab} {K : PySem.W.Frag} {f : Str} {c : Nat} {i : Int} (g : conGet K = true) (h : conB T K f c i = true) : ConF T K f (c, .int i) := by
  obtain ⟨h1, h⟩ := ba h
  obtain ⟨h2, h3⟩ := ba h
  cases e : PySem.W.findIn K (.ref (T.cls c)) f with
  | none => rw [e] at h1; cases h1
  | some r =>
    cases r with
    | none => rw [e] at h1; cases h1
    | some v =>
      cases v with
      | int j t =>
        rw [e] at h1
        have ej : j = i := of_decide_eq_true h1
        subst ej
        exact ⟨⟨.int j, .int j t, ⟨e, ⟨t, rfl⟩, (show PySem.W.specialIn K (.int j t) "__get__" = some none from eqO_ok g), Bool.not_eq_true' _ |>.mp h2⟩, fun Hf => by unfold Rep; rfl⟩, of_decide_eq_true h3⟩
      | _ => rw [e] at h1; cases h1
def methB (T : Tab) (K : PySem.W.Frag) (c : Nat) (m : Str) : Bool := (eqO (PySem.W.findIn K (.ref (T.cls c)) m) (some (some (.ref (ma K (T.cls c) m)))) && (PySem.W.isFn K (.ref (ma K (T.cls c) m)) && PySem.W.keepIn K (.ref (ma K (T.cls c) m)))) && decide (m ∉ T.flds c)
theorem methB_ok {T : Tab} {K : PySem.W.Frag} {c : Nat} {m : Str} (h : methB T K c m = true) : MethF T K c m (ma K (T.cls c) m) := by
  obtain ⟨h1, h4⟩ := ba h
  obtain ⟨h1, h2⟩ := ba h1
  obtain ⟨h2, h3⟩ := ba h2
  exact ⟨⟨eqO_ok h1, h2, h3⟩, of_decide_eq_true h4⟩
def propB (K : PySem.W.Frag) (C : Addr) (f : Str) : Bool := eqO (PySem.W.findIn K (.ref C) f) (some (some (.ref (ma K C f)))) && (eqO (PySem.W.specialIn K (.ref (ma K C f)) "__get__") (some (some (.builtin "property.__get__"))) && (decide (PySem.W.takesIn K (.ref (ma K C f)) = some true) && (match PySem.W.recIn K (ma K C f) "property" with
  | some (.ref g :: _) => true
  | _ => false)))
theorem propB_ok {K : PySem.W.Frag} {C : Addr} {f : Str} (h : propB K C f = true) : PropOf K C f (ma K C f) (pga K (ma K C f)) := by
  obtain ⟨h1, h⟩ := ba h
  obtain ⟨h2, h⟩ := ba h
  obtain ⟨h3, h4⟩ := ba h
  refine ⟨eqO_ok h1, eqO_ok h2, of_decide_eq_true h3, ?_⟩
  unfold pga
  cases e : PySem.W.recIn K (ma K C f) "property" with
  | none => rw [e] at h4; cases h4
  | some l =>
    cases l with
    | nil => rw [e] at h4; cases h4
    | cons v r =>
      cases v with
      | ref g => exact ⟨r, rfl⟩
      | _ => rw [e] at h4; cases h4
end VL
end
section
set_option Elab.async false
set_option linter.all false
set_option maxRecDepth 100000
set_option maxHeartbeats 4000000
/-! VLhk2: the Hook with exception classes that have an __init__. -/
namespace VL
open PySem PySem.Spec PyProof.Rows L2 He
structure XV where
  cls : Str
  name : Str
  qual : Str
  params : Arguments
  body : List Stmt
  scope : Scope
  flds : List Str
  file : Str
abbrev FnX : Type := Option (Str × Str × Arguments × FuncBody × Scope × Addr × List Str × Addr)
def fnXA (K : PySem.W.Frag) (a : Addr) : FnX := match K.lookup a with
  | some ⟨_, _, .func fd, _⟩ => some (fd.name, fd.qualname, fd.params, fd.body, fd.scope, fd.globals, fd.closure.map (·.1), fd.builtins)
  | _ => none
def XV.ad (K : PySem.W.Frag) (d : XV) : Addr := ma K (ga K d.cls) "__init__"
def XV.val (d : XV) : FnX := some (d.name, d.qual, d.params, .stmts d.body, d.scope, mainGlobals, ["__class__"], builtinsNs)
def oexB (K : PySem.W.Frag) (C : Addr) : Bool := (match K.lookup C with
  | some ⟨.type ty, _, .cls cd, sl⟩ => (match cd.mro, sl.toList with
    | .ref C' :: bm, [_, _, _, _, some (.builtin n), _] => decide (ty = "type") && (decide (C' = C) && (decide (n = "ValueError.__new__") && (!cd.hasDel && (cd.hasDict && PySem.HandSPX.refsVE bm))))
    | _, _ => false)
  | _ => false) && (eqO (PySem.W.findIn K (.ref C) "__setattr__") (some (some (.builtin "object.__setattr__"))) && (decide (PySem.W.subIn K (.ref C) (.type "BaseException") = some true) && (decide (PySem.W.typeIn K (.ref C) = some (.type "type")) && PySem.W.keepIn K (.ref C))))
theorem oexB_ok {K : PySem.W.Frag} {C : Addr} (h : oexB K C = true) : OexC K C := by
  obtain ⟨h1, h⟩ := ba h
  obtain ⟨h2, h⟩ := ba h
  obtain ⟨h3, h⟩ := ba h
  obtain ⟨h4, h5⟩ := ba h
  refine ⟨?_, eqO_ok h2, of_decide_eq_true h3, of_decide_eq_true h4, h5⟩
  cases e : K.lookup C with
  | none => rw [e] at h1; cases h1
  | some o =>
    obtain ⟨oc, od, dt, sl⟩ := o
    rw [e] at h1
    cases oc with
    | type ty =>
      cases dt with
      | cls cd =>
        obtain ⟨n1, n2, n3, n4, n5, n6, n7, n8, n9, n10, n11⟩ := cd
        cases n3 with
        | nil => cases h1
        | cons v bm =>
          cases v with
          | ref C' =>
            obtain ⟨sl⟩ := sl
            match sl, h1 with
            | [k0, k1, k2, k3, some (.builtin n), k5], h1 =>
              obtain ⟨g1, h1⟩ := ba h1
              obtain ⟨g2, h1⟩ := ba h1
              obtain ⟨g3, h1⟩ := ba h1
              obtain ⟨g4, h1⟩ := ba h1
              obtain ⟨g5, g6⟩ := ba h1
              have q1 := of_decide_eq_true g1
              have q2 := of_decide_eq_true g2
              have q3 := of_decide_eq_true g3
              have q4 : n11 = false := by simpa using g4
              have q5 : n6 = true := g5
              subst q1 q2 q3 q4 q5
              exact ⟨_, _, _, _, _, _, _, _, _, _, _, _, _, _, _, rfl, g6⟩
          | _ => cases h1
      | _ => cases h1
    | _ => cases h1
def xcell (K : PySem.W.Frag) (cc C : Addr) : Bool := match K.lookup cc with
  | some ⟨_, _, .cell (some (.ref D)), _⟩ => decide (D = C)
  | _ => false
theorem xcell_ok {K : PySem.W.Frag} {cc C : Addr} (h : xcell K cc C = true) : ∃ cl cld csl, K.lookup cc = some ⟨cl, cld, .cell (some (.ref C)), csl⟩ := by
  unfold xcell at h
  split at h
  · rename_i a1 a2 D a4 e
    have := of_decide_eq_true h
    subst this
    exact ⟨_, _, _, e⟩
  · cases h
def xfile (K : PySem.W.Frag) (cda : Addr) (file : Str) : Bool := match K.lookup cda with
  | some ⟨_, _, .fields vs, _⟩ => (match (vs[(2 : Nat)]? : Option Value) with
    | some (Value.str f _) => file == f
    | _ => false)
  | _ => false
theorem xfile_ok {K : PySem.W.Frag} {cda : Addr} {file : Str} (h : xfile K cda file = true) : ∃ ccl cdd vs ccs f tf, K.lookup cda = some ⟨ccl, cdd, .fields vs, ccs⟩ ∧ vs[(2 : Nat)]? = some (Value.str f tf) ∧ (file == f) = true := by
  unfold xfile at h
  split at h
  · rename_i a1 a2 vs a4 e
    split at h
    · rename_i f tf e2
      exact ⟨_, _, _, _, _, _, e, e2, h⟩
    · cases h
  · cases h
def xfd (K : PySem.W.Frag) (cl : List (Str × Addr)) (df code : Value) (C : Addr) (qual file : Str) : Bool := match cl with
  | [(_, cc)] => xcell K cc C && (match df with
    | .none => (match code with
      | .ref cda => PySem.W.codeIn K (.ref cda) qual && xfile K cda file
      | _ => false)
    | _ => false)
  | _ => false
theorem xfd_ok {K : PySem.W.Frag} {cl : List (Str × Addr)} {df code : Value} {C : Addr} {qual file : Str} (h : xfd K cl df code C qual file = true) : ∃ nm cc cda, cl = [(nm, cc)] ∧ df = .none ∧ code = .ref cda ∧ xcell K cc C = true ∧ PySem.W.codeIn K (.ref cda) qual = true ∧ xfile K cda file = true := by
  cases cl with
  | nil => cases h
  | cons p r =>
    cases r with
    | cons q r => cases h
    | nil =>
      obtain ⟨nm, cc⟩ := p
      obtain ⟨h1, h2⟩ := ba h
      cases df with
      | none =>
        cases code with
        | ref cda =>
          obtain ⟨h3, h4⟩ := ba h2
          exact ⟨nm, cc, cda, rfl, rfl, rfl, h1, h3, h4⟩
        | _ => cases h2
      | _ => cases h2
def xfn (K : PySem.W.Frag) (f C : Addr) (qual file : Str) : Bool := match K.lookup f with
  | some ⟨_, _, .func fd, _⟩ => xfd K fd.closure fd.defaults fd.code C qual file
  | _ => false
def XV.ok (K : PySem.W.Frag) (d : XV) : Bool := (oexB K (ga K d.cls) && (eqO (PySem.W.findIn K (.ref (ga K d.cls)) "__init__") (some (some (.ref (d.ad K)))) && (decide (PySem.W.typeIn K (.ref (d.ad K)) = some (.type "function")) &&
  (decide (PySem.W.ks_superIn K (ga K d.cls) (ga K d.cls) "__init__" = some (some (.builtin "ValueError.__init__"))) && (decide (PySem.W.subIn K (.ref (ga K d.cls)) (.type "ValueError") = some true) && (decide (PySem.W.mroIn K (ga K d.cls) (.ref (ga K d.cls)) = some true) &&
  (eqO (PySem.W.nsIn K cStatics "thirdparty.any") (some none) && (d.flds.all (fun f => eqO (PySem.W.findIn K (.ref (ga K d.cls)) f) (some none)) && decide d.flds.Nodup)))))))) && xfn K (d.ad K) (ga K d.cls) d.qual d.file
theorem XV.supF {P : Program} {K : PySem.W.Frag} {mg : Str → Option Value} {d : XV} (e : fnXA K (d.ad K) = d.val) (c : d.ok K = true) (hsup : mg "super" = none) (hfile : P.main.file = d.file) (htop : (P.main.scope.names.lookup ("super" : Str)).isSome = false)
    (hks : d.scope.names.lookup ("super" : Str) = some .globalImplicit) (hkc : d.scope.names.lookup ("__class__" : Str) = some .free) (hka : d.scope.names.lookup ("self" : Str) = some .local) (hp : ∃ ar : Arg, (d.params.posonlyargs ++ d.params.args).head? = some ar ∧ ar.arg = "self") :
    (∃ cc cda, SupF P K mg (ga K d.cls) (d.ad K) cc cda d.name d.qual d.params d.body d.scope "self") ∧ PySem.W.findIn K (.ref (ga K d.cls)) "__init__" = some (some (.ref (d.ad K))) ∧ PySem.W.typeIn K (.ref (d.ad K)) = some (.type "function") ∧ d.flds.Nodup ∧ ∀ f ∈ d.flds, PySem.W.findIn K (.ref (ga K d.cls)) f = some none := by
  obtain ⟨c1, c2⟩ := ba c
  obtain ⟨h1, c1⟩ := ba c1
  obtain ⟨h2, c1⟩ := ba c1
  obtain ⟨h3, c1⟩ := ba c1
  obtain ⟨h4, c1⟩ := ba c1
  obtain ⟨h5, c1⟩ := ba c1
  obtain ⟨h6, c1⟩ := ba c1
  obtain ⟨h7, c1⟩ := ba c1
  obtain ⟨h8, h9⟩ := ba c1
  refine ⟨?_, eqO_ok h2, of_decide_eq_true h3, of_decide_eq_true h9, fun f hf => eqO_ok (List.all_eq_true.mp h8 f hf)⟩
  unfold fnXA at e
  unfold xfn at c2
  cases q : K.lookup (d.ad K) with
  | none =>
    rw [q] at c2
    cases c2
  | some o =>
    obtain ⟨oc, od, dt, osl⟩ := o
    rw [q] at c2 e
    cases dt with
    | func fd =>
      obtain ⟨n1, n2, n3, n4, n5, n6, n7, n8, n9, n10, n11, n12, n13, n14, n15⟩ := fd
      have e2 : (some (n1, n2, n3, n4, n5, n6, n7.map (fun (p : Str × Addr) => p.1), n15) : FnX) = some (d.name, d.qual, d.params, FuncBody.stmts d.body, d.scope, mainGlobals, [("__class__" : Str)], builtinsNs) := e
      simp only [Option.some.injEq, Prod.mk.injEq] at e2
      obtain ⟨g1, g2, g3, g4, g5, g6, g7, g8⟩ := e2
      obtain ⟨nm, cc, cda, k1, k2, k3, k4, k5, k6⟩ := xfd_ok (show xfd K n7 n8 n13 (ga K d.cls) d.qual d.file = true from c2)
      subst k1 k2 k3
      have gn : nm = "__class__" := by
        simp only [List.map_cons, List.map_nil, List.cons.injEq, and_true] at g7
        exact g7
      subst g1 g2 g3 g4 g5 g6 g8 gn
      obtain ⟨y1, y2, y3, y4, y5, y6, y7, y8, y9⟩ := xfile_ok k6
      refine ⟨cc, cda, oexB_ok h1, ⟨_, _, _, _, _, _, _, _, q⟩, k5, hp, ⟨y1, y2, y3, y4, y5, y6, y7, y8, by rw [hfile]; exact y9⟩, xcell_ok k4, hsup, htop, hks, hkc, hka, of_decide_eq_true h4, of_decide_eq_true h5, of_decide_eq_true h6, eqO_ok h7⟩
    | _ => cases c2
/-! ### the Hook -/
abbrev AlW : Type := Bool × List FnW × List FnX
def obsW (ck : PySem.W.Frag → Bool) (fn : List DV) (xn : List XV) (K : PySem.W.Frag) : AlW := (ck K && ((fn.all fun d => d.ok K) && xn.all fun d => d.ok K), fn.map fun d => fnA K (d.ad K), xn.map fun d => fnXA K (d.ad K))
def valW (fn : List DV) (xn : List XV) : AlW := (true, fn.map DV.val, xn.map XV.val)
def SaysW (ck : PySem.W.Frag → Bool) (fn : List DV) (xn : List XV) (K : PySem.W.Frag) : Prop := obsW ck fn xn K = valW fn xn
def asW (g : Addr → Option Obj) (n : Nat) : List Addr := asD g n ++ [cStatics]
def obsWG (n : Nat) (ck : PySem.W.Frag → Bool) (fn : List DV) (xn : List XV) (g : Addr → Option Obj) : AlW := obsW ck fn xn (frG g (asW g n))
def hookW (n : Nat) (ck : PySem.W.Frag → Bool) (fn : List DV) (xn : List XV) : PySem.W.Hook where
  α := AlW
  obs := fun s => obsWG n ck fn xn s.heap.get?
  val := fun _ => valW fn xn
  says := fun _ h => ∃ K : PySem.W.Frag, K.In h ∧ SaysW ck fn xn K
  of := fun _ _ e => ⟨_, frG_in, e⟩
  keeps := fun _ _ _ ⟨K, hK, c⟩ k => ⟨K, PySem.W.Frag.In.keeps hK k, c⟩
theorem obsWG_eq {n : Nat} {ck : PySem.W.Frag → Bool} {fn : List DV} {xn : List XV} {g : Addr → Option Obj} {s : Shared} (h : ∀ a, g a = s.heap.get? a) : obsWG n ck fn xn g = (hookW n ck fn xn).obs s := by
  have e : g = s.heap.get? := funext h
  rw [e] <;> rfl
section
variable {ck : PySem.W.Frag → Bool} {fn : List DV} {xn : List XV} {K : PySem.W.Frag}
theorem SaysW.chk (c : SaysW ck fn xn K) : ck K = true := (ba (show (ck K && ((fn.all fun d => d.ok K) && xn.all fun d => d.ok K)) = true from congrArg (fun z : AlW => z.1) c)).1
theorem SaysW.def_ (c : SaysW ck fn xn K) (i : Nat) {d : DV} (h : fn[i]? = some d := by rfl) : ∃ fd, FunD K d.name d.qual d.params d.body d.scope (d.dvs K) [] (d.ad K) fd := by
  have c2 := (ba (ba (show (ck K && ((fn.all fun d => d.ok K) && xn.all fun d => d.ok K)) = true from congrArg (fun z : AlW => z.1) c)).2).1
  have e : fn.map (fun d => fnA K (d.ad K)) = fn.map DV.val := congrArg (fun z : AlW => z.2.1) c
  have e2 : (fn.map fun d => fnA K (d.ad K))[i]? = (fn.map DV.val)[i]? := by rw [e]
  rw [List.getElem?_map, List.getElem?_map, h] at e2
  exact DV.funD (Option.some.inj e2) (List.all_eq_true.mp c2 d (List.mem_of_getElem? h))
theorem SaysW.exc_ (c : SaysW ck fn xn K) (i : Nat) {d : XV} (h : xn[i]? = some d := by rfl) : fnXA K (d.ad K) = d.val ∧ d.ok K = true := by
  have c2 := (ba (ba (show (ck K && ((fn.all fun d => d.ok K) && xn.all fun d => d.ok K)) = true from congrArg (fun z : AlW => z.1) c)).2).2
  have e : xn.map (fun d => fnXA K (d.ad K)) = xn.map XV.val := congrArg (fun z : AlW => z.2.2) c
  have e2 : (xn.map fun d => fnXA K (d.ad K))[i]? = (xn.map XV.val)[i]? := by rw [e]
  rw [List.getElem?_map, List.getElem?_map, h] at e2
  exact ⟨Option.some.inj e2, List.all_eq_true.mp c2 d (List.mem_of_getElem? h)⟩
end
end VL
end
section
set_option linter.all false
/-! VLsim: the readings, unfolded step by step. -/
namespace VL
open PySem
section
variable {k : Ko} {δ : Fr} {Q : QR} {Qd : D → Prop} {Qb : Bool → Prop} {Qs : List D → Prop} {X : QX} {t u ta tb tc : EW} {b c : BW} {p q : TW} {ar : AW} {sa sb sc : SW} {i j n : Nat} {d e : D} {op op' : Op2} {o1 : Op1} {sp : FS} {dv : List D} {xs ys ds : List D} {r : R}
@[simp] theorem x_var_f (h : δ[i]? = some (some (.fz d))) : wVar i δ Q X = Q (.fz d) := by unfold wVar; rw [h]
@[simp] theorem x_lVar_f (h : δ[i]? = some (some (.fz d))) : lVar i δ Qd X = Qd d := by unfold lVar; rw [h]
@[simp] theorem x_lVar_o (h : δ[i]? = some (some (.own xs))) : lVar i δ Qd X = Qd (.lst xs) := by unfold lVar; rw [h]
@[simp] theorem x_lVar_l (h : δ[i]? = some (some (.lent xs))) : lVar i δ Qd X = Qd (.lst xs) := by unfold lVar; rw [h]
@[simp] theorem x_bVar : bVar i δ Qd X = (match δ[i]? with
  | some (some s) => (match s.b with
    | some d => Qd d
    | none => False)
  | _ => False) := rfl
@[simp] theorem x_b_f : Sl.b (.fz d) = some d := rfl
@[simp] theorem x_b_o : Sl.b (.own xs) = some (.lst xs) := rfl
@[simp] theorem x_b_l : Sl.b (.lent xs) = some (.lst xs) := rfl
@[simp] theorem x_b_b {c : Nat} : Sl.b (.ob c xs) = some (.obj c xs) := rfl
@[simp] theorem x_lit : wLit d δ Q X = Q (.fz d) := rfl
@[simp] theorem x_bOf : bOf t δ Qd X = t δ (fun r => Qd r.d) X := rfl
@[simp] theorem x_bin : wBin op ta tb δ Q X = ta δ (fun r => tb δ (fun s => op r.d s.d Q X) X) X := rfl
@[simp] theorem x_binB : wBinB op b c δ Q X = b δ (fun d => c δ (fun e => op d e Q X) X) X := rfl
@[simp] theorem x_un : wUn o1 ta δ Q X = ta δ (fun r => o1 r.d Q X) X := rfl
@[simp] theorem x_aNil : aNil δ Qs X = Qs [] := rfl
@[simp] theorem x_aCons : aCons ta ar δ Qs X = ta δ (fun r => ar δ (fun ds => Qs (r.d :: ds)) X) X := rfl
@[simp] theorem x_aConsB : aConsB b ar δ Qs X = b δ (fun d => (seqOf d).isSome = true ∧ ar δ (fun ds => Qs (d :: ds)) X) X := rfl
@[simp] theorem x_aConsR : aConsR b ar δ Qs X = b δ (fun d => ar δ (fun ds => Qs (d :: ds)) X) X := rfl
@[simp] theorem x_call : wCall sp dv ar δ Q X = ar δ (fun ds => sp (ds ++ dv) Q X) X := rfl
@[simp] theorem x_tup : wTup ar δ Q X = ar δ (fun ds => Q (.fz (.tup ds))) X := rfl
@[simp] theorem x_lst : wLst ar δ Q X = ar δ (fun ds => Q (.own ds)) X := rfl
@[simp] theorem x_fld {tb : List (Nat × Nat)} : wFld tb b δ Q X = b δ (fun d => match d with
  | .obj c xs => (match tb.lookup c with
    | some i => (match xs[i]? with
      | some v => Q (.fz v)
      | none => False)
    | none => False)
  | _ => False) X := rfl
@[simp] theorem x_con {tb : List (Nat × D)} : wCon tb b δ Q X = b δ (fun d => match d with
  | .obj c _ => (match tb.lookup c with
    | some v => Q (.fz v)
    | none => False)
  | _ => False) X := rfl
@[simp] theorem x_prop {c0 : Nat} : wProp c0 sp t δ Q X = t δ (fun r => match r.d with
  | .obj c xs => c = c0 ∧ sp [.obj c xs] Q (fun _ => False)
  | _ => False) X := rfl
@[simp] theorem x_meth {c0 : Nat} : wMeth c0 sp dv t ar δ Q X = t δ (fun r => match r.d with
  | .obj c xs => c = c0 ∧ ar δ (fun ds => sp (.obj c xs :: (ds ++ dv)) Q X) X
  | _ => False) X := rfl
@[simp] theorem x_cOfB : cOfB b δ Qb X = b δ (fun d => match tru d with
  | some b => d.short ∧ Qb b
  | none => False) X := rfl
@[simp] theorem x_cBl : cBl t δ Qb X = t δ (fun r => match r.d with
  | .bl b => Qb b
  | _ => False) X := rfl
@[simp] theorem x_cAnd : cAnd p q δ Qb X = p δ (fun b => if b = true then q δ Qb X else Qb false) X := rfl
@[simp] theorem x_cOr : cOr p q δ Qb X = p δ (fun b => if b = true then Qb true else q δ Qb X) X := rfl
@[simp] theorem x_cNot : cNot p δ Qb X = p δ (fun b => Qb (!b)) X := rfl
@[simp] theorem x_and : wAnd ta tb δ Q X = ta δ (fun r => match r.d with
  | .bl b => if b = true then tb δ Q X else Q (.fz (.bl false))
  | _ => False) X := rfl
@[simp] theorem x_or : wOr ta tb δ Q X = ta δ (fun r => match r.d with
  | .bl b => if b = true then Q (.fz (.bl true)) else tb δ Q X
  | _ => False) X := rfl
@[simp] theorem x_not : wNot ta δ Q X = ta δ (fun r => match r.d with
  | .bl b => Q (.fz (.bl (!b)))
  | _ => False) X := rfl
@[simp] theorem x_chain : wChain op op' ta tb tc δ Q X = ta δ (fun r => tb δ (fun s => op r.d s.d (fun z => match z.d with
  | .bl b => if b = true then tc δ (fun u => op' s.d u.d Q X) X else Q (.fz (.bl false))
  | _ => False) X) X) X := rfl
@[simp] theorem x_ite : wIte p ta tb δ Q X = p δ (fun b => if b = true then ta δ Q X else tb δ Q X) X := rfl
@[simp] theorem x_next : sNext k δ = k.nx δ := rfl
@[simp] theorem x_brk : sBrk k δ = k.bk δ := rfl
@[simp] theorem x_cont : sCont k δ = k.ct δ := rfl
@[simp] theorem x_never : sNever k δ = False := rfl
@[simp] theorem x_seq : sSeq sa sb k δ = sa { k with nx := fun δ' => sb k δ' } δ := rfl
@[simp] theorem x_set : sSet i t k δ = t δ (fun r => k.nx (δ.set i (some (.fz r.d)))) (fun x => k.xq x δ) := rfl
@[simp] theorem x_sOwn : sOwn i t k δ = t δ (fun r => k.nx (δ.set i (some r.s))) (fun x => k.xq x δ) := rfl
@[simp] theorem x_drop : sDrop t k δ = t δ (fun _ => k.nx δ) (fun x => k.xq x δ) := rfl
@[simp] theorem x_ret : sRet t k δ = t δ k.rt (fun x => k.xq x δ) := rfl
@[simp] theorem x_retN : sRetN k δ = k.rt (.fz .non) := rfl
@[simp] theorem x_retO_o (h : δ[i]? = some (some (.own xs))) : sRetO i k δ = k.rt (.own xs) := by unfold sRetO; rw [h]
@[simp] theorem x_retO_f (h : δ[i]? = some (some (.fz d))) : sRetO i k δ = k.rt (.fz d) := by unfold sRetO; rw [h]
@[simp] theorem x_if : sIf p sa sb k δ = p δ (fun b => if b = true then sa k δ else sb k δ) (fun x => k.xq x δ) := rfl
@[simp] theorem x_aug_f (h : δ[i]? = some (some (.fz d))) : sAug i op t k δ = t δ (fun r => op d r.d (fun z => k.nx (δ.set i (some (.fz z.d)))) (fun x => k.xq x δ)) (fun x => k.xq x δ) := by unfold sAug; rw [h]
@[simp] theorem x_fldI {c0 : Nat} : sFldI i c0 n t k δ = (match δ[i]? with
  | some (some (.ob c xs)) => (c = c0 ∧ xs.length = n) ∧ t δ (fun r => k.nx (δ.set i (some (.ob c (xs ++ [r.d]))))) (fun x => k.xq x δ)
  | _ => False) := rfl
@[simp] theorem x_par : sPar i j ta tb k δ = ta δ (fun r => tb δ (fun s => k.nx ((δ.set i (some (.fz r.d))).set j (some (.fz s.d)))) (fun x => k.xq x δ)) (fun x => k.xq x δ) := rfl
@[simp] theorem x_unp {g : Tg} : sUnp g t k δ = t δ (fun r => g.go r.d δ k.nx) (fun x => k.xq x δ) := rfl
@[simp] theorem x_go_nm {P : Fr → Prop} : Tg.go (.nm i) d δ P = P (δ.set i (some (.fz d))) := rfl
@[simp] theorem x_go_tp2 {a b : Nat} {P : Fr → Prop} : Tg.go (.tp [.nm a, .nm b]) (.tup [d, e]) δ P = P ((δ.set a (some (.fz d))).set b (some (.fz e))) := rfl
@[simp] theorem x_go_tp3 {a b c : Nat} {d3 : D} {P : Fr → Prop} : Tg.go (.tp [.nm a, .nm b, .nm c]) (.tup [d, e, d3]) δ P = P (((δ.set a (some (.fz d))).set b (some (.fz e))).set c (some (.fz d3))) := rfl
@[simp] theorem x_go_tp4 {a b c f : Nat} {d3 d4 : D} {P : Fr → Prop} : Tg.go (.tp [.nm a, .nm b, .nm c, .nm f]) (.tup [d, e, d3, d4]) δ P = P ((((δ.set a (some (.fz d))).set b (some (.fz e))).set c (some (.fz d3))).set f (some (.fz d4))) := rfl
@[simp] theorem x_for {g : Tg} {ti : IW} : sFor g ti sb k δ = ti δ (fun items => loopI g sb items k δ) (fun x => k.xq x δ) := rfl
@[simp] theorem x_iSeq {P : List D → Prop} : iSeq t δ P X = t δ (fun r => match seqOf r.d with
  | some ds => P ds
  | none => False) X := rfl
@[simp] theorem x_iRng1 {P : List D → Prop} : iRng1 t δ P X = t δ (fun r => match r.d with
  | .int n => small62 n ∧ P (intsFrom 0 n.toNat)
  | _ => False) X := rfl
@[simp] theorem x_iRng2 {P : List D → Prop} : iRng2 t u δ P X = t δ (fun r => u δ (fun s => match r.d, s.d with
  | .int lo, .int hi => (small62 lo ∧ small62 hi) ∧ P (intsFrom lo (hi - lo).toNat)
  | _, _ => False) X) X := rfl
@[simp] theorem x_mut {f : MF} (h : δ[i]? = some (some (.own xs))) : sMeth i f ar k δ = ar δ (fun ds => f xs ds (fun ys => k.nx (δ.set i (some (.own ys))))) (fun x => k.xq x δ) := by unfold sMeth; rw [h]
@[simp] theorem x_mAppend {P : List D → Prop} : mAppend xs [d] P = (xs.length < 16777216 ∧ P (xs ++ [d])) := rfl
@[simp] theorem x_raise {c : Nat} : sRaise c ar k δ = ar δ (fun _ => k.xq ⟨c, []⟩ δ) (fun x => k.xq x δ) := rfl
@[simp] theorem x_freeze : sFreeze i sa k δ = sa k (δ.frz i) := rfl
@[simp] theorem x_blt {bf : BF} : wBlt bf ar δ Q X = ar δ (fun ds => bf ds Q) X := rfl
@[simp] theorem x_isT {ty : Ty} : wIsT ty b δ Q X = b δ (fun d => d.nocls = true ∧ Q (.fz (.bl (isT ty d)))) X := rfl
@[simp] theorem x_isC {c : Nat} : wIsC c b δ Q X = b δ (fun d => d.nocls = true ∧ Q (.fz (.bl (isC c d)))) X := rfl
@[simp] theorem x_fmt : wFmt t δ Q X = t δ (fun r => match r.d with
  | .str y => y.length ≤ 16777216 ∧ Q (.fz (.str y))
  | .int i => i.natAbs.log2 < 1920 ∧ Q (.fz (.str (toString i)))
  | _ => False) X := rfl
@[simp] theorem x_join {ts : List EW} : wJoin ts δ Q X = wJs ts Str.empty δ (fun out => Q (.fz (.str out))) X := rfl
@[simp] theorem x_js_nil {acc : Str} {P : Str → Prop} : wJs [] acc δ P X = P acc := rfl
@[simp] theorem x_js_cons {ts : List EW} {acc : Str} {P : Str → Prop} : wJs (t :: ts) acc δ P X = t δ (fun r => match r.d with
  | .str y => (acc ++ y).length ≤ 16777216 ∧ wJs ts (acc ++ y) δ P X
  | _ => False) X := rfl
@[simp] theorem x_tryAs {ct : Nat → Option Bool} : sTryAs i ct sa sb k δ = sa { k with xq := xAs i ct sb k } δ := rfl
@[simp] theorem x_xAs {ct : Nat → Option Bool} {x : Xd} : xAs i ct sb k x δ = (match ct x.c with
  | some b => if b = true then sb (kSuite i k) (δ.set i (some (.exc x.c x.xs))) else k.xq x δ
  | none => False) := rfl
@[simp] theorem x_try {ct : Nat → Option Bool} : sTry ct sa sb k δ = sa { k with xq := xTry ct sb k } δ := rfl
@[simp] theorem x_xTry {ct : Nat → Option Bool} {x : Xd} : xTry ct sb k x δ = (match ct x.c with
  | some b => if b = true then sb (kQuiet k) δ else k.xq x δ
  | none => False) := rfl
@[simp] theorem x_su_nx : (kSuite i k).nx δ = (noExc (δ.set i none) = true ∧ k.nx (δ.set i none)) := rfl
@[simp] theorem x_su_rt : (kSuite i k).rt = k.rt := rfl
@[simp] theorem x_su_bk : (kSuite i k).bk δ = (noExc (δ.set i none) = true ∧ k.bk (δ.set i none)) := rfl
@[simp] theorem x_su_ct : (kSuite i k).ct δ = (noExc (δ.set i none) = true ∧ k.ct (δ.set i none)) := rfl
@[simp] theorem x_qu_nx : (kQuiet k).nx = k.nx := rfl
@[simp] theorem x_qu_rt : (kQuiet k).rt = k.rt := rfl
@[simp] theorem x_qu_bk : (kQuiet k).bk = k.bk := rfl
@[simp] theorem x_qu_ct : (kQuiet k).ct = k.ct := rfl
@[simp] theorem x_isX {st : Nat → Option Bool} : wIsX i st δ Q X = (match δ[i]? with
  | some (some (.exc c _)) => (match st c with
    | some b => Q (.fz (.bl b))
    | none => False)
  | _ => False) := rfl
/-! the functions on data -/
@[simp] theorem x_bAbs {dn : Dun} {a : Int} : bAbs dn [.int a] Q = Q (.fz (.int (if a < 0 then -a else a))) := rfl
@[simp] theorem x_bAbs_o {dn : Dun} {c : Nat} : bAbs dn [.obj c xs] Q = obj1 dn .abs c xs Q := rfl
@[simp] theorem x_bInt {a : Int} : bInt [.int a] Q = Q (.fz (.int a)) := rfl
@[simp] theorem x_bInt_b {a : Bool} : bInt [.bl a] Q = Q (.fz (.int (if a then 1 else 0))) := rfl
@[simp] theorem x_bBool {dn : Dun} {a : Int} : bBool dn [.int a] Q = Q (.fz (.bl (a != 0))) := rfl
@[simp] theorem x_bBool_b {dn : Dun} {a : Bool} : bBool dn [.bl a] Q = Q (.fz (.bl a)) := rfl
@[simp] theorem x_bBool_o {dn : Dun} {c : Nat} : bBool dn [.obj c xs] Q = obj1 dn .bool c xs (QR.bl Q) := rfl
@[simp] theorem x_bStr {dn : Dun} {a : Int} : bStr dn [.int a] Q = (a.natAbs.log2 < 1920 ∧ Q (.fz (.str (toString a)))) := rfl
@[simp] theorem x_bStr_s {dn : Dun} {a : Str} : bStr dn [.str a] Q = Q (.fz (.str a)) := rfl
@[simp] theorem x_bStr_o {dn : Dun} {c : Nat} : bStr dn [.obj c xs] Q = obj1 dn .str c xs (QR.st Q) := rfl
@[simp] theorem x_bLen {dn : Dun} : bLen dn [.lst xs] Q = Q (.fz (.int (xs.length : Int))) := rfl
@[simp] theorem x_bLen_t {dn : Dun} : bLen dn [.tup xs] Q = Q (.fz (.int (xs.length : Int))) := rfl
@[simp] theorem x_bLen_r {dn : Dun} {ns : List Int} : bLen dn [.scr ns] Q = Q (.fz (.int (ns.length : Int))) := rfl
@[simp] theorem x_bGcd {a b : Int} : bGcd [.int a, .int b] Q = Q (.fz (.int ((Nat.gcd a.natAbs b.natAbs : Nat) : Int))) := rfl
@[simp] theorem x_add {dn : Dun} {a b : Int} : opAdd dn (.int a) (.int b) Q X = Q (.fz (.int (a + b))) := rfl
@[simp] theorem x_add_s {dn : Dun} {a b : Str} : opAdd dn (.str a) (.str b) Q X = (a.length + b.length ≤ 16777216 ∧ Q (.fz (.str (a ++ b)))) := rfl
@[simp] theorem x_add_l {dn : Dun} : opAdd dn (.lst xs) (.lst ys) Q X = (xs.length + ys.length ≤ 16777216 ∧ Q (.own (xs ++ ys))) := rfl
@[simp] theorem x_add_oi {dn : Dun} {c : Nat} {a : Int} : opAdd dn (.obj c xs) (.int a) Q X = objL dn .add c xs (.int a) Q X := rfl
@[simp] theorem x_add_oo {dn : Dun} {c c' : Nat} : opAdd dn (.obj c xs) (.obj c' ys) Q X = (c' = c ∧ objL dn .add c xs (.obj c' ys) Q X) := rfl
@[simp] theorem x_add_io {dn : Dun} {c : Nat} {a : Int} : opAdd dn (.int a) (.obj c xs) Q X = ((dn c .add).isSome = true ∧ objL dn .radd c xs (.int a) Q X) := rfl
@[simp] theorem x_sub {dn : Dun} {a b : Int} : opSub dn (.int a) (.int b) Q X = Q (.fz (.int (a - b))) := rfl
@[simp] theorem x_sub_oi {dn : Dun} {c : Nat} {a : Int} : opSub dn (.obj c xs) (.int a) Q X = objL dn .sub c xs (.int a) Q X := rfl
@[simp] theorem x_sub_oo {dn : Dun} {c c' : Nat} : opSub dn (.obj c xs) (.obj c' ys) Q X = (c' = c ∧ objL dn .sub c xs (.obj c' ys) Q X) := rfl
@[simp] theorem x_sub_io {dn : Dun} {c : Nat} {a : Int} : opSub dn (.int a) (.obj c xs) Q X = ((dn c .sub).isSome = true ∧ objL dn .rsub c xs (.int a) Q X) := rfl
@[simp] theorem x_mul {dn : Dun} {a b : Int} : opMul dn (.int a) (.int b) Q X = (mulOk a b ∧ Q (.fz (.int (a * b)))) := rfl
@[simp] theorem x_mul_l {dn : Dun} {a : Int} : opMul dn (.lst xs) (.int a) Q X = ((-(2 ^ 63) ≤ a ∧ a < 2 ^ 63 ∧ xs.length * a.toNat ≤ 16777216) ∧ Q (.own (repN a xs))) := rfl
@[simp] theorem x_mul_oi {dn : Dun} {c : Nat} {a : Int} : opMul dn (.obj c xs) (.int a) Q X = objL dn .mul c xs (.int a) Q X := rfl
@[simp] theorem x_mul_oo {dn : Dun} {c c' : Nat} : opMul dn (.obj c xs) (.obj c' ys) Q X = (c' = c ∧ objL dn .mul c xs (.obj c' ys) Q X) := rfl
@[simp] theorem x_mul_io {dn : Dun} {c : Nat} {a : Int} : opMul dn (.int a) (.obj c xs) Q X = ((dn c .mul).isSome = true ∧ objL dn .rmul c xs (.int a) Q X) := rfl
@[simp] theorem x_fdiv {dn : Dun} {a b : Int} : opFdiv dn (.int a) (.int b) Q X = (divOk b ∧ Q (.fz (.int (a.fdiv b)))) := rfl
@[simp] theorem x_fdiv_oi {dn : Dun} {c : Nat} {a : Int} : opFdiv dn (.obj c xs) (.int a) Q X = objL dn .fdiv c xs (.int a) Q X := rfl
@[simp] theorem x_fdiv_oo {dn : Dun} {c c' : Nat} : opFdiv dn (.obj c xs) (.obj c' ys) Q X = (c' = c ∧ objL dn .fdiv c xs (.obj c' ys) Q X) := rfl
@[simp] theorem x_mod {dn : Dun} {a b : Int} : opMod dn (.int a) (.int b) Q X = (b ≠ 0 ∧ Q (.fz (.int (a.fmod b)))) := rfl
@[simp] theorem x_mod_oi {dn : Dun} {c : Nat} {a : Int} : opMod dn (.obj c xs) (.int a) Q X = objL dn .mod c xs (.int a) Q X := rfl
@[simp] theorem x_mod_oo {dn : Dun} {c c' : Nat} : opMod dn (.obj c xs) (.obj c' ys) Q X = (c' = c ∧ objL dn .mod c xs (.obj c' ys) Q X) := rfl
@[simp] theorem x_pow {dn : Dun} {a b : Int} : opPow dn (.int a) (.int b) Q X = (powOk a b ∧ Q (.fz (.int (a ^ b.toNat)))) := rfl
@[simp] theorem x_pow_oi {dn : Dun} {c : Nat} {a : Int} : opPow dn (.obj c xs) (.int a) Q X = objL dn .pow c xs (.int a) Q X := rfl
@[simp] theorem x_opObj_oi {dn : Dun} {m : Dn} {c : Nat} {a : Int} : opObj dn m (.obj c xs) (.int a) Q X = objL dn m c xs (.int a) Q X := rfl
@[simp] theorem x_opObj_oo {dn : Dun} {m : Dn} {c c' : Nat} : opObj dn m (.obj c xs) (.obj c' ys) Q X = (c' = c ∧ objL dn m c xs (.obj c' ys) Q X) := rfl
@[simp] theorem x_neg {dn : Dun} {a : Int} : opNeg dn (.int a) Q X = Q (.fz (.int (-a))) := rfl
@[simp] theorem x_neg_o {dn : Dun} {c : Nat} : opNeg dn (.obj c xs) Q X = (match dn c .neg with
  | some sp => sp [.obj c xs] Q X
  | none => False) := rfl
@[simp] theorem x_lt {dn : Dun} {a b : Int} : opLt dn (.int a) (.int b) Q X = Q (.fz (.bl (decide (a < b)))) := rfl
@[simp] theorem x_le {dn : Dun} {a b : Int} : opLe dn (.int a) (.int b) Q X = Q (.fz (.bl (decide (a ≤ b)))) := rfl
@[simp] theorem x_gt {dn : Dun} {a b : Int} : opGt dn (.int a) (.int b) Q X = Q (.fz (.bl (decide (b < a)))) := rfl
@[simp] theorem x_ge {dn : Dun} {a b : Int} : opGe dn (.int a) (.int b) Q X = Q (.fz (.bl (decide (b ≤ a)))) := rfl
@[simp] theorem x_lt_o {dn : Dun} {c c' : Nat} : opLt dn (.obj c xs) (.obj c' ys) Q X = (c' = c ∧ objL dn .lt c xs (.obj c' ys) Q X) := rfl
@[simp] theorem x_le_o {dn : Dun} {c c' : Nat} : opLe dn (.obj c xs) (.obj c' ys) Q X = (c' = c ∧ objL dn .le c xs (.obj c' ys) Q X) := rfl
@[simp] theorem x_gt_o {dn : Dun} {c c' : Nat} : opGt dn (.obj c xs) (.obj c' ys) Q X = (c' = c ∧ objL dn .gt c xs (.obj c' ys) Q X) := rfl
@[simp] theorem x_ge_o {dn : Dun} {c c' : Nat} : opGe dn (.obj c xs) (.obj c' ys) Q X = (c' = c ∧ objL dn .ge c xs (.obj c' ys) Q X) := rfl
@[simp] theorem x_eq_i {dn : Dun} {a b : Int} : opEq dn (.int a) (.int b) Q X = Q (.fz (.bl (a == b))) := by simp [opEq, D.flat, D.dep, D.eqv]
@[simp] theorem x_ne_i {dn : Dun} {a b : Int} : opNe dn (.int a) (.int b) Q X = Q (.fz (.bl (!(a == b)))) := by simp [opNe, D.flat, D.dep, D.eqv]
@[simp] theorem x_eq_o {dn : Dun} {c : Nat} : opEq dn (.obj c xs) d Q X = (d.val = true ∧ objL dn .eq c xs d (QR.bl Q) X) := by unfold opEq; rfl
@[simp] theorem x_ne_o {dn : Dun} {c : Nat} : opNe dn (.obj c xs) d Q X = (d.val = true ∧ objL dn .eq c xs d (QR.neg Q) X) := by unfold opNe; rfl
@[simp] theorem x_eq_io {dn : Dun} {c : Nat} {a : Int} : opEq dn (.int a) (.obj c xs) Q X = objL dn .eq c xs (.int a) (QR.bl Q) X := by unfold opEq; rfl
@[simp] theorem x_ne_io {dn : Dun} {c : Nat} {a : Int} : opNe dn (.int a) (.obj c xs) Q X = objL dn .eq c xs (.int a) (QR.neg Q) X := by unfold opNe; rfl
@[simp] theorem x_objL {dn : Dun} {m : Dn} {c : Nat} : objL dn m c xs d Q X = (match dn c m with
  | some sp => sp [.obj c xs, d] Q X
  | none => False) := rfl
@[simp] theorem x_obj1 {dn : Dun} {m : Dn} {c : Nat} : obj1 dn m c xs Q = (match dn c m with
  | some sp => sp [.obj c xs] Q (fun _ => False)
  | none => False) := rfl
@[simp] theorem x_qbl {b : Bool} : QR.bl Q (.fz (.bl b)) = Q (.fz (.bl b)) := rfl
@[simp] theorem x_qneg {b : Bool} : QR.neg Q (.fz (.bl b)) = Q (.fz (.bl (!b))) := rfl
@[simp] theorem x_qst {b : Str} : QR.st Q (.fz (.str b)) = Q (.fz (.str b)) := rfl
@[simp] theorem x_is_bb {a b : Bool} : opIs (.bl a) (.bl b) Q X = Q (.fz (.bl (a == b))) := rfl
@[simp] theorem x_is_nn : opIs .non .non Q X = Q (.fz (.bl true)) := rfl
@[simp] theorem x_isNot_bb {a b : Bool} : opIsNot (.bl a) (.bl b) Q X = Q (.fz (.bl (!(a == b)))) := rfl
@[simp] theorem x_ix_l {a : Int} : opIx (.lst xs) (.int a) Q X = (match ixD xs a with
  | some v => Q (.fz v)
  | none => False) := rfl
@[simp] theorem x_ix_t {a : Int} : opIx (.tup xs) (.int a) Q X = (match ixD xs a with
  | some v => Q (.fz v)
  | none => False) := rfl
@[simp] theorem x_ix_r {ns : List Int} {a : Int} : opIx (.scr ns) (.int a) Q X = (match ixD (ns.map D.int) a with
  | some v => Q (.fz v)
  | none => False) := rfl
@[simp] theorem x_seqOf_l : seqOf (.lst xs) = some xs := rfl
@[simp] theorem x_seqOf_t : seqOf (.tup xs) = some xs := rfl
@[simp] theorem x_tru_b {b : Bool} : tru (.bl b) = some b := rfl
@[simp] theorem x_tru_i {a : Int} : tru (.int a) = some (a != 0) := rfl
@[simp] theorem x_short_b {b : Bool} : D.short (.bl b) = True := rfl
@[simp] theorem x_short_i {b : Int} : D.short (.int b) = True := rfl
@[simp] theorem x_nocls_i {a : Int} : D.nocls (.int a) = true := rfl
@[simp] theorem x_nocls_o {c : Nat} : D.nocls (.obj c xs) = true := rfl
@[simp] theorem x_s_f : R.s (.fz d) = .fz d := rfl
@[simp] theorem x_s_o : R.s (.own xs) = .own xs := rfl
end
theorem ints_len' (lo : Int) (n : Nat) : (intsFrom lo n).length = n := by simp [intsFrom]
theorem ints_get' {lo : Int} {n i : Nat} {d : D} (h : (intsFrom lo n)[i]? = some d) : i < n ∧ d = .int (lo + (i : Int)) := by
  unfold intsFrom at h
  rw [List.getElem?_map] at h
  have hi : i < n := by
    by_cases q : i < n
    · exact q
    · rw [List.getElem?_eq_none_iff.mpr (by rw [List.length_range]; omega)] at h
      cases h
  rw [List.getElem?_range hi] at h
  exact ⟨hi, (Option.some.inj h).symm⟩
/-- for j in range(..) -/
theorem loop_ints {j : Nat} {tb : SW} {lo : Int} {n : Nat} {k : Ko} {δ : Fr} (W : Nat → Fr → Prop) (h0 : W 0 δ)
    (hs : ∀ (i : Nat) δ', i < n → W i δ' → tb { k with nx := W (i + 1), ct := W (i + 1), bk := k.nx } (δ'.set j (some (.fz (.int (lo + (i : Int))))))) (hd : ∀ δ', W n δ' → k.nx δ') : loopI (.nm j) tb (intsFrom lo n) k δ := by
  refine ⟨W, h0, fun i d δ' e w => ?_, fun δ' w => hd δ' (by rw [ints_len'] at w; exact w)⟩
  obtain ⟨hi, rfl⟩ := ints_get' e
  exact hs i δ' hi w
/-- for g in a list of whole numbers -/
theorem loop_map {j : Nat} {tb : SW} {ns : List Int} {k : Ko} {δ : Fr} (W : Nat → Fr → Prop) (h0 : W 0 δ)
    (hs : ∀ (i : Nat) (m : Int) δ', ns[i]? = some m → W i δ' → tb { k with nx := W (i + 1), ct := W (i + 1), bk := k.nx } (δ'.set j (some (.fz (.int m))))) (hd : ∀ δ', W ns.length δ' → k.nx δ') : loopI (.nm j) tb (ns.map D.int) k δ := by
  refine ⟨W, h0, fun i d δ' e w => ?_, fun δ' w => hd δ' (by rw [List.length_map] at w; exact w)⟩
  rw [List.getElem?_map] at e
  cases e1 : ns[i]? with
  | none => rw [e1] at e; cases e
  | some m =>
    rw [e1] at e
    cases e
    exact hs i m δ' e1 w
/-- while: a word W of the frame, a measure -/
theorem while_by {c : TW} {tb : SW} {k : Ko} {δ : Fr} (W : Nat → Fr → Prop) (m0 : Nat) (h0 : W m0 δ)
    (hs : ∀ m δ', W m δ' → c δ' (fun b => if b = true then tb { k with nx := fun δ2 => ∃ m', m' < m ∧ W m' δ2, ct := fun δ2 => ∃ m', m' < m ∧ W m' δ2, bk := k.nx } δ' else k.nx δ') (fun x => k.xq x δ')) : sWhile c tb k δ := ⟨W, ⟨m0, h0⟩, hs⟩
theorem ix_map {ns : List Int} {i : Nat} {m : Int} (h : ns[i]? = some m) : ixD (ns.map D.int) (i : Int) = some (.int m) := by
  have hi := (List.getElem?_eq_some_iff.mp h).1
  unfold ixD ixOf
  rw [if_pos (by omega), List.length_map, if_pos (by omega)]
  simp [h]
end VL
end
section
set_option linter.all false
/-! VLc3: more plain readings. -/
namespace VL
open PySem
/-- a call that hands back a plain thing: lists of one's own may be arguments, they stay one's own -/
def wCallS (sp : FS) (dv : List D) (ta : AW) : EW := fun δ Q X => ta δ (fun ds => sp (ds ++ dv) (fun r => match r with
  | .fz d => d.atom = true ∧ Q (.fz d)
  | _ => False) (fun _ => False)) X
/-- C(..), C a name of one's own -/
def wMakeV (i c0 : Nat) (sp : FS) (dv : List D) (ta : AW) : EW := fun δ Q X => match δ[i]? with
  | some (some (.fz d)) => (match d with
    | .cls c => c = c0 ∧ ta δ (fun ds => sp (ds ++ dv) Q X) X
    | _ => False)
  | _ => False
/-- a constant of a class: C.f -/
def wClsCon (tb : List (Nat × D)) (t : EW) : EW := fun δ Q X => t δ (fun r => match r.d with
  | .cls c => (match tb.lookup c with
    | some v => Q (.fz v)
    | none => False)
  | _ => False) X
/-- + of plain data -/
def opAddF : Op2 := fun x y Q _ => match x, y with
  | .int i, .int j => Q (.fz (.int (i + j)))
  | .lst xs, .lst ys => xs.length + ys.length ≤ 16777216 ∧ Q (.own (xs ++ ys))
  | .str a, .str b => a.length + b.length ≤ 16777216 ∧ Q (.fz (.str (a ++ b)))
  | _, _ => False
/-- several except clauses, each with a name or without -/
structure Hc where
  i : Option Nat
  ct : Nat → Option Bool
  ts : SW
def xMany : List Hc → Ko → Xd → Fr → Prop
  | [], k => k.xq
  | h :: hs, k => fun x δ' => match h.ct x.c with
    | some b => if b = true then (match h.i with
      | some i => h.ts (kSuite i k) (δ'.set i (some (.exc x.c x.xs)))
      | none => h.ts (kQuiet k) δ') else xMany hs k x δ'
    | none => False
def sTryN (hs : List Hc) (tb : SW) : SW := fun k δ => tb { k with xq := xMany hs k } δ
end VL
end
section
set_option Elab.async false
set_option linter.all false
set_option maxRecDepth 100000
set_option maxHeartbeats 4000000
/-! VLm1: calls with lists of one's own, a class as a value, fields of the handled exception. -/
namespace VL
open PySem PySem.Spec PyProof.Rows L2
theorem lfreeze {T : Tab} {K : PySem.W.Frag} {H : Hp} : ∀ {ds : List D} {vs : List V} {Hf : Hp}, Ex Hf H → LRepL T K Hf H ds vs → ∃ Hf', Ex Hf Hf' ∧ Ex Hf' H ∧ RepL T K Hf' ds vs
  | [], vs, Hf, i, h => ⟨Hf, Ex.refl _, i, repL_nil.mpr h⟩
  | d :: ds, vs, Hf, i, ⟨v, r, e, h1, h2⟩ => by
    subst e
    rcases h1 with h1 | ⟨a, us, es, ed, ev, ha, hr⟩
    · obtain ⟨Hf', x1, x2, x3⟩ := lfreeze i h2
      exact ⟨Hf', x1, x2, RepL.cons (h1.mono x1) x3⟩
    · subst ed ev
      have key : ∃ Hf1, Ex Hf Hf1 ∧ Ex Hf1 H ∧ Hf1 a = some (.lst us) := by
        cases q : Hf a with
        | none =>
          refine ⟨upd Hf a (.lst us), Ex.new q, fun b o e => ?_, upd_same⟩
          by_cases hb : b = a
          · subst hb
            rw [upd_same] at e
            rw [← e]
            exact ha
          · rw [upd_ne hb] at e
            exact i b o e
        | some o =>
          have := i a o q
          rw [ha] at this
          exact ⟨Hf, Ex.refl _, i, by rw [q, ← this]⟩
      obtain ⟨Hf1, y1, y2, y3⟩ := key
      have h3 : LRepL T K Hf1 H ds r := by
        have up : ∀ {es : List D} {ws : List V}, LRepL T K Hf H es ws → LRepL T K Hf1 H es ws := fun {es} => by
          induction es with
          | nil => exact fun h => h
          | cons e es ih =>
            intro ws ⟨v, r, e1, g1, g2⟩
            refine ⟨v, r, e1, ?_, ih g2⟩
            rcases g1 with g1 | ⟨a, us, es, k1, k2, k3, k4⟩
            · exact .inl (g1.mono y1)
            · exact .inr ⟨a, us, es, k1, k2, k3, k4.mono y1⟩
        exact up h2
      obtain ⟨Hf', x1, x2, x3⟩ := lfreeze y2 h3
      refine ⟨Hf', y1.trans x1, x2, RepL.cons ?_ x3⟩
      unfold Rep
      exact ⟨a, us, rfl, x1 _ _ y3, (hr.mono y1).mono x1⟩
theorem argsF {T : Tab} {K : PySem.W.Frag} {Hf H : Hp} : ∀ {ms : List Bool} {ds : List D} {vs : List V}, allF ms = true → ms.length = ds.length → RepL T K Hf ds vs → ArgsOk T K Hf H ms ds vs
  | [], [], vs, _, _, h => ⟨rfl, repL_nil.mp h⟩
  | [], _ :: _, _, _, h, _ => by cases h
  | _ :: _, [], _, _, h, _ => by cases h
  | m :: ms, d :: ds, vs, hm, hl, h => by
    obtain ⟨v, r, rfl, h1, h2⟩ := repL_cons.mp h
    cases m with
    | true => cases hm
    | false => exact ⟨d, ds, v, r, rfl, rfl, h1, argsF hm (Nat.succ.inj hl) h2⟩
section
variable {X : Cx} {T : Tab} {W : WX} {z : Hd} {k i c : Nat} {e : Expr} {t : EW} {ar : AW} {ms : List Bool} {es : List Expr} {f : Addr} {x : Str} {pos p0 : Pos} {dv : List D} {sp : FS} {tb : List (Nat × D)}
/-- arguments that are only read, counted -/
def rdAQ (T : Tab) (K : PySem.W.Frag) (W : WX) (z : Hd) (n : Nat) (t : AW) : TA := fun σ H Qa => ∃ H0 Hf δ Q X, StOk T K z H0 Hf H σ δ ∧ XOk T K W σ Hf H X ∧ (∀ vs Hf' H' ds, Step Hf H Hf' H' → LRepL T K Hf' H' ds vs ∧ ds.length = n → Q ds → Qa vs H') ∧ t δ Q X
def VAQ (X : Cx) (T : Tab) (W : WX) (z : Hd) (es : List Expr) (t : AW) : Prop := PA X es (rdAQ T X.K W z es.length t)
theorem vaq_nil : VAQ X T W z [] aNil := PA.imp pa_nil fun σ H Qa ⟨H0, Hf, δ, Q, Xq, st, xo, kt, qq⟩ => kt [] Hf H [] (Step.refl st.i) ⟨rfl, rfl⟩ qq
theorem vaq_cons {u : BW} (ha : VLr X T W z e u) (hr : VAQ X T W z es ar) (hs : starEach (e :: es) X.env = (false, eval e X.env) :: starEach es X.env := by rfl) : VAQ X T W z (e :: es) (aConsR u ar) := PA.imp (pa_cons ha hr hs) fun σ H Qa ⟨H0, Hf, δ, Q, Xq, st, xo, kt, qq⟩ =>
  ⟨H0, Hf, δ, _, Xq, st, xo, fun w Hf' H' d S r (hq : ar δ (fun ds => Q (d :: ds)) Xq) =>
    ⟨H0, Hf', δ, _, Xq, st.step S, xo.step S, fun vs Hf2 H2 ds S2 r2 q2 => kt (w :: vs) Hf2 H2 (d :: ds) (S.trans S2) ⟨⟨w, vs, rfl, r.step S2, r2.1⟩, congrArg Nat.succ r2.2⟩ q2, hq⟩, qq⟩
theorem ve_callS (F : FnV X.prog X.w X.K X.mg X.base T k f ms dv sp) (hr : Room k X.A) (tk : Takes X W) (hg : Gl X x) (hm : X.mg x = some (.ref f)) (ha : VAQ X T W z (e :: es) ar) (hms : allF ms = true := by rfl) (hl : ms.length = (e :: es).length := by rfl) (hdb : (x == ("__debug__" : Str)) = false := by decide)
    (he : starEach (e :: es) X.env = (false, eval e X.env) :: starEach es X.env := by rfl) (hpl : (backTo pos (starEach es X.env)).any (·.1) = false := by rfl) : VE X T W z (.Call (.Name x p0) (e :: es) [] pos) (wCallS sp dv ar) := by
  refine ⟨fun pins s σ H Qv I ⟨H0, Hf, δ, Q, Xq, st, xo, kt, qq⟩ => ?_⟩
  refine wpAny_Call_Name_kw (ld_glob I hg hm ?_ hdb)
  refine PySem.W.callWith_K (h₀ := X.base) I.ok.mod.kin F.kp (thn (ha.run pos pins s σ H (fun vs H' => ∃ Hf' ds, Step Hf H Hf' H' ∧ LRepL T X.K Hf' H' ds vs ∧ ds.length = (e :: es).length ∧ sp (ds ++ dv) (fun r => match r with | .fz d => d.atom = true ∧ Q (.fz d) | _ => False) fun _ => False) I
    ⟨H0, Hf, δ, _, Xq, st, xo, fun vs Hf' H' ds S r q => ⟨Hf', ds, S, r.1, r.2, q⟩, qq⟩) fun us s1 ⟨vs, H1, I1, r, Hf1, ds, S, ra, hdl, q⟩ => ⟨I1.kIn, ?_⟩) he hpl
  obtain ⟨Hf2, y1, y2, y3⟩ := lfreeze S.i ra
  refine callV F hr tk I1 r y2 (argsF hms (by rw [hl, hdl]) y3) xok0 (fun v Hf3 H3 r3 S3 rs hq => ?_) q
  have S4 : Step Hf1 H1 Hf1 H3 := ⟨Ex.refl _, S3.h, S.i.trans S3.h, fun _ h => .inl h⟩
  cases r3 with
  | own ds => exact hq.elim
  | fz d =>
    have hq : d.atom = true ∧ Q (.fz d) := hq
    have rs : Rep T X.K Hf3 d v := rs
    refine kt v Hf1 H3 (.fz d) (S.trans S4) ?_ hq.2
    show Rep T X.K Hf1 d v
    cases d <;> first | (unfold Rep at rs ⊢; exact rs) | cases hq.1
theorem ve_gcls (hg : Gl X x) (hm : X.mg x = some (.ref (T.cls c))) (hd : (x == ("__debug__" : Str)) = false := by decide) : VE X T W z (.Name x pos) (wLit (.cls c)) :=
  ve_of (pe_glob (v := .ref (T.cls c)) hg hm rfl hd) fun _ => by unfold Rep; rfl
theorem ve_makeV (M : MkV X.prog X.w X.K X.mg X.base T k c ms dv sp) (hr : Room (k + 1) X.A) (tk : Takes X W) (ha : VA X T W z ms (e :: es) ar) (hN : X.N[i]? = some x := by rfl) (hv : Vis X.env.scope x := by first | exact Or.inl rfl | exact Or.inr (Or.inl rfl) | exact Or.inr (Or.inr rfl)) (hd : (x == ("__debug__" : Str)) = false := by decide) (hcd : (x == ("__classdict__" : Str)) = false := by decide)
    (he : starEach (e :: es) X.env = (false, eval e X.env) :: starEach es X.env := by rfl) (hpl : (backTo pos (starEach es X.env)).any (·.1) = false := by rfl) : VE X T W z (.Call (.Name x p0) (e :: es) [] pos) (wMakeV i c sp dv ar) := by
  refine ⟨fun pins s σ H Qv I ⟨H0, Hf, δ, Q, Xq, st, xo, kt, qq⟩ => ?_⟩
  unfold wMakeV at qq
  split at qq
  · rename_i d ed
    obtain ⟨v, ev, hv0⟩ := slot_at st ed
    cases d with
    | cls c' =>
      obtain ⟨rfl, qq⟩ := qq
      have hv1 : Rep T X.K Hf (.cls c') v := hv0
      unfold Rep at hv1
      subst hv1
      refine wpAny_Call_Name_kw (thn ((pe_var (pos := p0) (i := i) hN hv hd hcd).run pins s σ H (fun u H1 => u = .ref (T.cls c') ∧ H1 = H) I ⟨_, ev, rfl, rfl⟩) fun u s1 ⟨w, H1, I1, r1, ew, eH⟩ => ?_)
      subst ew eH
      cases r1
      refine PySem.W.callWith_K (h₀ := X.base) I.ok.mod.kin M.kp (thn (ha.run pos pins s1 σ H1 (fun vs H' => ∃ Hf' ds, Step Hf H1 Hf' H' ∧ ArgsOk T X.K Hf' H' ms ds vs ∧ sp (ds ++ dv) Q Xq) I1 ⟨H0, Hf, δ, _, Xq, st, xo, fun vs Hf' H' ds S r q => ⟨Hf', ds, S, r, q⟩, qq⟩) fun us s2 ⟨vs, H2, I2, r, Hf1, ds, S, ra, q⟩ => ⟨I2.kIn, ?_⟩) he hpl
      exact makeV M hr tk I2 r S.i ra (xo.step S) (kont kt S) q
    | _ => exact qq.elim
  · exact qq.elim
/-- a class's constant -/
structure ClsConF (T : Tab) (K : PySem.W.Frag) (f : Str) (p : Nat × D) : Prop where
  ex : ∃ mc v u, ClX.CRead K (T.cls p.1) mc ∧ ClX.CVal K (T.cls p.1) mc f v u ∧ ∀ Hf, Rep T K Hf p.2 v
theorem ve_clsCon (he : VE X T W z e t) (ht : ∀ p ∈ tb, ClsConF T X.K x p) (hb : attributeBase e x X.env (eval e X.env) = eval e X.env := by rfl) : VE X T W z (.Attribute e x pos) (wClsCon tb t) := by
  refine PE.imp (ClX.pe_cval he hb) fun σ H Qv ⟨H0, Hf, δ, Q, Xq, st, xo, kt, q⟩ => ?_
  refine ⟨H0, Hf, δ, _, Xq, st, xo, fun v Hf1 H1 r S rs hq => ?_, q⟩
  cases r with
  | own ds => exact hq.elim
  | fz d =>
    cases d with
    | cls c =>
      simp only [R.d_fz] at hq
      cases e1 : tb.lookup c with
      | none => rw [e1] at hq; exact hq.elim
      | some w =>
        rw [e1] at hq
        obtain ⟨mc, v2, u, h1, h2, h3⟩ := (ht _ (lookup_mem e1)).ex
        have rs : Rep T X.K Hf1 (.cls c) v := rs
        unfold Rep at rs
        exact ⟨_, mc, v2, u, rs, h1, h2, kt v2 Hf1 H1 (.fz w) S (h3 Hf1) hq⟩
    | _ => exact hq.elim
theorem opb_addF : OpB X T W (binaryOp .Add) opAddF := fun pins s σ H Hf x y u v dx dy Q Xq Qv I rx ry i hx hy xo kt q => by
  unfold opAddF at q
  split at q
  · rename_i a b
    rw [hx.int] at rx
    rw [hy.int] at ry
    exact useR op_add I rx ry ⟨a, b, rfl, rfl, kt _ Hf H (.fz (.int (a + b))) (Step.refl i) (by unfold Res Rep; rfl) q⟩
  · exact lst_add I rx ry i hx hy kt q.1 q.2
  · exact str_add I rx ry i hx hy kt q.1 q.2
  · exact q.elim
/-- a field of the handled exception -/
theorem ve_xf {aa : Addr} {oe : Obj} {cls : Value} {d : Option Addr} {pn : List (Addr × Obj)} {me : Option Addr} {W' : WX} {n : Str} {p2 : Pos} {tbn : List (Nat × Nat)} {fld : Str} (hz : Zc cls d oe) (hf : ∃ vs, oe.data = .fields vs)
    (hX : ∀ p ∈ tbn, XfC X.K (T.cls p.1) ∧ PySem.W.findIn X.K (.ref (T.cls p.1)) fld = some none ∧ (T.flds p.1)[p.2]? = some fld)
    (hN : X.N[i]? = some n := by rfl) (hv : Vis X.env.scope n := by first | exact Or.inl rfl | exact Or.inr (Or.inl rfl) | exact Or.inr (Or.inr rfl)) (hd : (n == ("__debug__" : Str)) = false := by decide) (hcd : (n == ("__classdict__" : Str)) = false := by decide)
    (hb : attributeBase (.Name n p2) fld X.env (eval (.Name n p2) X.env) = eval (.Name n p2) X.env := by rfl) : VE (X.suite aa ((aa, oe) :: pn)) T W' ⟨some (aa, cls, d), me⟩ (.Attribute (.Name n p2) fld pos) (wXf i tbn) := by
  refine ⟨fun pins s σ H Qv I ⟨H0, Hf, δ, Q, Xq, st, xo, kt, q⟩ => ?_⟩
  unfold wXf at q
  split at q
  · rename_i c xs ed
    obtain ⟨v, ev, a', cls', d', e1, rfl, rx⟩ := slot_at st ed
    cases e1
    obtain ⟨ec, hdd⟩ := rx
    cases e2 : tbn.lookup c with
    | none => rw [e2] at q; exact q.elim
    | some j =>
      rw [e2] at q
      cases e3 : xs[j]? with
      | none => simp only [e3] at q
      | some dj =>
        simp only [e3] at q
        obtain ⟨g1, g2, g3⟩ := hX _ (lookup_mem e2)
        rcases hdd with ⟨_, _, hxs⟩ | ⟨dd, fs, vs, ed', hH, hr, hl, hlk⟩
        · have hxs : xs = [] := hxs
          rw [hxs] at e3
          cases e3
        · obtain ⟨w, ew, rw'⟩ := hr.getD e3
          have lk := hlk j fld w g3 ew
          exact (pe_xf (C := T.cls c) g1 g2 hz hf (pe_var (X := X.suite aa ((aa, oe) :: pn)) hN hv hd hcd) hb).run pins s σ H Qv I ⟨_, ev, rfl, ec, dd, fs, w, ed', st.i _ _ hH, lk, kt w Hf H (.fz dj) (Step.refl st.i) rw' q⟩
  · exact q.elim
end
end VL
end
section
set_option Elab.async false
set_option linter.all false
set_option maxRecDepth 100000
set_option maxHeartbeats 4000000
/-! VLtry: try with several clauses, with names or without. -/
namespace VL
open PySem PySem.Spec PyProof.Rows L2
/-- a clause: the class named, the slot of its name (if it has one), what the suite means -/
structure Cl where
  c : Value
  i : Option Nat
  ts : Addr → Value → Option Addr → TS
def clEnds (D : Ends) (i : Nat) : Ends := { nx := fun σ' H' => D.nx (σ'.set i none) H', rt := D.rt, bk := fun σ' H' => D.bk (σ'.set i none) H', ct := fun σ' H' => D.ct (σ'.set i none) H' }
def clGo (D : Ends) (l : Cl) (ad : Addr) (cls : Value) (d : Option Addr) (σ : L2.St) (H : Hp) : Prop := match l.i with
  | some i => l.ts ad cls d (clEnds D i) (σ.set i (some (.ref ad))) H
  | none => l.ts ad cls d D σ H
def wCls (K : PySem.W.Frag) (Wo : WX) (D : Ends) : List Cl → WX
  | [] => Wo
  | l :: r => fun cls d σ H => ∃ b, PySem.W.exmOne K cls l.c = some b ∧ (b = true → ∀ ad, H ad = none → clGo D l ad cls d σ H) ∧ (b = false → wCls K Wo D r cls d σ H)
inductive ClsOk (X : Cx) : List ExceptHandler → List Cl → Prop where
  | nil : ClsOk X [] []
  | bare {x : Str} {cv : Value} {ts : Addr → Value → Option Addr → TS} {st : Stmt} {su : List Stmt} {q q' : Pos} {hs : List ExceptHandler} {ls : List Cl} (hc : Names X x cv)
      (hsu : ∀ (ad : Addr) (oe : Obj) (cls : Value) (d : Option Addr) (pn : List (Addr × Obj)), Zc cls d oe → (∃ fs, oe.data = .fields fs) → PSs (X.suite ad ((ad, oe) :: pn)) (st :: su) (ts ad cls d)) (r : ClsOk X hs ls) :
      ClsOk X (.ExceptHandler (some (.Name x q)) none (st :: su) q' :: hs) (⟨cv, none, ts⟩ :: ls)
  | named {x n : Str} {i : Nat} {cv : Value} {ts : Addr → Value → Option Addr → TS} {st : Stmt} {su : List Stmt} {q q' : Pos} {hs : List ExceptHandler} {ls : List Cl} (hc : Names X x cv) (hi : X.N[i]? = some n) (hln : X.env.kindOf n = some .local)
      (hsu : ∀ (ad : Addr) (oe : Obj) (cls : Value) (d : Option Addr) (pn : List (Addr × Obj)), Zc cls d oe → (∃ fs, oe.data = .fields fs) → PSs (X.suite ad ((ad, oe) :: pn)) (st :: su) (ts ad cls d)) (r : ClsOk X hs ls) :
      ClsOk X (.ExceptHandler (some (.Name x q)) (some n) (st :: su) q' :: hs) (⟨cv, some i, ts⟩ :: ls)
section
variable {X : Cx} {body : List Stmt} {hd : ExceptHandler} {hs : List ExceptHandler} {ls : List Cl} {pos : Pos} {tb : WX → TS} {Wo : WX}
theorem ps_tryN (hst : X.stack = X.env :: X.outer) (hfr : X.env.frame = some X.env.locals) (hN : X.N.Nodup) (tk : Takes X Wo)
    (hb : ∀ (W : WX) (pn : List (Addr × Obj)) (xe : Value → Shared → Prop), Takes (X.tr pn xe) W → PassesOwn (model X.prog X.w) X.A X.env xe → PSs (X.tr pn xe) body (tb W))
    (hh : ClsOk X (hd :: hs) ls) : PS X (.Try body (hd :: hs) [] [] pos) (fun D σ H => tb (wCls X.K Wo D ls) D σ H) := by
  refine ⟨fun pins s σ H D I red => ?_⟩
  have okX := I.ok
  have hA : X.A.frames = some (X.env :: X.outer) := by rw [okX.frames, hst]
  refine wpAny_Try_except ?_
  let xeT : Value → Shared → Prop := fun e s₁ => wpAny (model X.prog X.w) X.A (noteFrame e X.env) (fun _ s₂ => wpAny (model X.prog X.w) X.A (setFlight e none) (fun _ s₃ => wpAny (model X.prog X.w) X.A (handleBy e X.env (hd :: hs)) (SP X pins D) X.xe s₃) X.xe s₂) X.xe s₁
  have tkT : Takes (X.tr (X.pn ++ pins) xeT) (wCls X.K Wo D ls) := by
    rintro u sT ⟨ad, B, sI, pinsI, σI, HI, cls, d, rfl, JI, nb, up, sky, na, eos, ags, wI⟩
    have J : Inv X pins σI HI sI := JI.ofTry okX
    have skyX : Sky B (X.env :: X.outer) ad (Zc cls d) X.env.locals sT.heap := by rw [← hst]; exact sky
    show wpAny (model X.prog X.w) X.A (noteFrame (.ref ad) X.env) _ _ _
    refine Sky.land Zc.steady hA hfr skyX fun hL flL upL => ?_
    have JL : Inv X pins σI HI { sT with heap := hL } := J.landed nb flL.1 (up.trans upL) eos ags
    obtain ⟨oL, fsL, heL, hzL, hdL⟩ := flL.there
    have offFr : ad ∉ frs (X.env :: X.outer) := fun hm => by
      obtain ⟨_, o', e', hnf⟩ := flL.2.2.1.mem hm
      rw [heL] at e'
      cases e'
      exact hnf _ hdL
    have offL : ad ≠ X.env.locals := fun z => offFr (List.mem_filterMap.mpr ⟨X.env, List.mem_cons_self, by rw [hfr, z]⟩)
    have offF : ad ∉ X.fs := fun hm => by
      obtain ⟨e, he, q⟩ := List.mem_filterMap.mp hm
      exact offFr (List.mem_filterMap.mpr ⟨e, List.mem_cons_of_mem _ he, q⟩)
    have SL := JL.suite heL hdL na offL offF
    have LT : PySem.W.Looks (model X.prog X.w) hL (typeOf (.ref ad)) cls := fun A Q E s k q => wpAny_typeOf_ref (k _ _ heL) (by rw [hzL.1]; exact q)
    have nameOf : ∀ {x : Str} {cv : Value} {q : Pos} {Q : Value → Shared → Prop} {E : Value → Shared → Prop}, Names X x cv → Q cv { sT with heap := hL } → wpAny (model X.prog X.w) (X.A.mark (some (.ref ad))) (eval (.Name x q) X.env) Q E { sT with heap := hL } := fun {x cv q Q E} hc hq => by
      obtain ⟨hg, hdbg, hm | ⟨hm, hv, hnn⟩⟩ := hc
      · exact ld_glob (X := X.suite ad ((ad, oL) :: (X.pn ++ pins))) SL hg hm hq hdbg
      · exact ld_blt (X := X.suite ad ((ad, oL) :: (X.pn ++ pins))) SL hg hm hv hq hnn hdbg
    have walk : ∀ {hs' : List ExceptHandler} {ls' : List Cl}, ClsOk X hs' ls' → wCls X.K Wo D ls' cls d σI HI → wpAny (model X.prog X.w) X.A (handleBy (.ref ad) X.env hs') (SP X pins D) X.xe { sT with heap := hL } := by
      intro hs' ls' hk
      induction hk with
      | nil =>
        intro wL
        refine wpAny_handleBy_nil ?_
        obtain ⟨_, _, _, oe, fs, tT, oT, tS, he, hz, hdd, h1, hr⟩ := id flL
        unfold PySem.passOn
        refine wpAny_bind (wpAny_field he hdd h1 ?_)
        rw [if_neg (show ¬ ((Value.ref tT == Value.none) = true) from by simp)]
        have fin : wpAny (model X.prog X.w) X.A (setFlight (.ref ad) X.env.frame) (fun _ sF => wpAny (model X.prog X.w) X.A (throw (.ref ad) : Sem Flow) (SP X pins D) X.xe sF) X.xe { sT with heap := hL } := by
          rw [hfr]
          refine HandSPX.setFlight_upZ flL fun hF skyF upF => wpAny_throw (tk _ _ ?_)
          exact ⟨ad, B, sI, pins, σI, HI, cls, d, rfl, J, nb, (up.trans upL).trans upF, .inr (.inr (by rw [hst]; exact skyF)), na, eos, ags, wL⟩
        first
          | exact wpAny_bind (wpAny_pure (wpAny_bind fin))
          | exact wpAny_bind fin
      | @bare x cv ts st su q q' hs2 ls2 hc hsu r ih =>
        rintro ⟨b, hb1, hyes, hno⟩
        refine wpAny_handleBy_cons (codeAny_handlers_test ?_) (by intro z; cases z)
        have LM := PySem.W.exm_one (M := model X.prog X.w) (JL.kIn) LT hb1
        refine nameOf hc (LM.here ?_)
        cases b with
        | false => exact ih (hno rfl)
        | true =>
          refine codeAny_handlers_suite ?_
          refine HandSPX.lands_againZ flL fun hS flS upS => ?_
          have JS : Inv X pins σI HI { sT with heap := hS } := J.landed nb flS.1 ((up.trans upL).trans upS) eos ags
          obtain ⟨oS, fsS, heS, hzS, hdS⟩ := flS.there
          refine wpAny_mono ((hsu ad oS cls d (X.pn ++ pins) hzS ⟨_, hdS⟩).run [] _ _ HI _ (JS.suite heS hdS na offL offF) (hyes rfl ad na)) (fun fl s6 hsp => ?_) (fun _ _ z => False.elim z)
          cases fl with
          | ret u =>
            obtain ⟨v6, σ6, H6, S6, r6, q6⟩ := hsp
            exact ⟨_, _, _, S6.unsuite okX, r6, q6⟩
          | _ =>
            obtain ⟨σ6, H6, S6, q6⟩ := hsp
            exact ⟨_, _, S6.unsuite okX, q6⟩
      | @named x n i cv ts st su q q' hs2 ls2 hc hi hln hsu r ih =>
        rintro ⟨b, hb1, hyes, hno⟩
        refine wpAny_handleBy_cons (codeAny_handlers_test ?_) (by intro z; cases z)
        have LM := PySem.W.exm_one (M := model X.prog X.w) (JL.kIn) LT hb1
        refine nameOf hc (LM.here ?_)
        cases b with
        | false => exact ih (hno rfl)
        | true =>
          refine codeAny_handlers_suite_as ?_
          refine HandSPX.lands_againZ flL fun hS flS upS => ?_
          have JS : Inv X pins σI HI { sT with heap := hS } := J.landed nb flS.1 ((up.trans upL).trans upS) eos ags
          obtain ⟨oS, fsS, heS, hzS, hdS⟩ := flS.there
          refine store_ok (X := X.suite ad ((ad, oS) :: (X.pn ++ pins))) (v := .ref ad) (JS.suite heS hdS na offL offF) hN hi (.inl hln) rfl (fun s5 S5 => ?_) (.inr hln)
          refine wpAny_mono ((hsu ad oS cls d (X.pn ++ pins) hzS ⟨_, hdS⟩).run [] s5 _ HI _ S5 (hyes rfl ad na)) (fun fl s6 hsp => ?_) (fun _ _ z => False.elim z)
          have off : ∀ {σ6 : L2.St} {H6 : Hp} {Q : Shared → Prop}, Inv (X.suite ad ((ad, oS) :: (X.pn ++ pins))) [] σ6 H6 s6 → (∀ s7, Inv X pins (σ6.set i none) H6 s7 → Q s7) → wpAny (model X.prog X.w) X.A (do bindName X.env n .none; unbindBehindTheSuite X.env n q') (fun _ s7 => Q s7) X.xe s6 := fun {σ6 H6 Q} S6 hq =>
            gone_ok (S6.unsuite okX) hN hi hln hq
          cases fl with
          | ret u =>
            obtain ⟨v6, σ6, H6, S6, r6, q6⟩ := hsp
            exact off S6 fun s7 J7 => ⟨_, _, _, J7, r6, q6⟩
          | _ =>
            obtain ⟨σ6, H6, S6, q6⟩ := hsp
            exact off S6 fun s7 J7 => ⟨_, _, J7, q6⟩
    exact walk hh wI
  refine wpAny_mono ((hb (wCls X.K Wo D ls) (X.pn ++ pins) xeT tkT PassesOwn.looking).run [] s σ H D (I.toTry _) red) (fun fl s1 hsp => ?_) (fun e s1 he => he)
  cases fl with
  | next =>
    obtain ⟨σ', H', J', q⟩ := hsp
    exact wpAny_execs_nil ⟨σ', H', J'.ofTry okX, q⟩
  | ret u =>
    obtain ⟨v, σ', H', J', r, q⟩ := hsp
    exact ⟨v, σ', H', J'.ofTry okX, r, q⟩
  | _ =>
    obtain ⟨σ', H', J', q⟩ := hsp
    exact ⟨σ', H', J'.ofTry okX, q⟩
end
/-! ### at the level of values -/
def Hc.ok (X : Cx) (T : Tab) (h : Hc) (cv : Value) : Prop := ∀ c b, h.ct c = some b → PySem.W.exmOne X.K (.ref (T.cls c)) cv = some b
inductive VCls (X : Cx) (T : Tab) (me : Option Addr) : List ExceptHandler → List Hc → Prop where
  | nil : VCls X T me [] []
  | bare {x : Str} {cv : Value} {ct : Nat → Option Bool} {ss : SW} {st : Stmt} {su : List Stmt} {q q' : Pos} {hs : List ExceptHandler} {ls : List Hc} (hc : Names X x cv) (hct : ∀ c b, ct c = some b → PySem.W.exmOne X.K (.ref (T.cls c)) cv = some b)
      (hsu : ∀ (a : Addr) (oe : Obj) (cls : Value) (d : Option Addr) (pn : List (Addr × Obj)), Zc cls d oe → (∃ vs, oe.data = .fields vs) → VSs (X.suite a ((a, oe) :: pn)) T W0 ⟨none, me⟩ (st :: su) ss) (r : VCls X T me hs ls) :
      VCls X T me (.ExceptHandler (some (.Name x q)) none (st :: su) q' :: hs) (⟨none, ct, ss⟩ :: ls)
  | named {x n : Str} {i : Nat} {cv : Value} {ct : Nat → Option Bool} {ss : SW} {st : Stmt} {su : List Stmt} {q q' : Pos} {hs : List ExceptHandler} {ls : List Hc} (hc : Names X x cv) (hct : ∀ c b, ct c = some b → PySem.W.exmOne X.K (.ref (T.cls c)) cv = some b)
      (hsu : ∀ (a : Addr) (oe : Obj) (cls : Value) (d : Option Addr) (pn : List (Addr × Obj)), Zc cls d oe → (∃ vs, oe.data = .fields vs) → VSs (X.suite a ((a, oe) :: pn)) T W0 ⟨some (a, cls, d), me⟩ (st :: su) ss) (r : VCls X T me hs ls) (hi : X.N[i]? = some n := by rfl) (hln : X.env.kindOf n = some .local := by rfl) :
      VCls X T me (.ExceptHandler (some (.Name x q)) (some n) (st :: su) q' :: hs) (⟨some i, ct, ss⟩ :: ls)
theorem VCls.to {X : Cx} {T : Tab} {me : Option Addr} {hs : List ExceptHandler} {ls : List Hc} (h : VCls X T me hs ls) : ∃ l : List Cl, ClsOk X hs l ∧ ∀ {Wo : WX} {D : Ends} {k : Ko} {H0 Hf0 : Hp}, KS T X.K Wo ⟨none, me⟩ H0 Hf0 k D → ∀ xd cls d σ' H' Hf' δ', Step Hf0 H0 Hf' H' → StOk T X.K ⟨none, me⟩ H0 Hf' H' σ' δ' → RepX T X.K Hf' cls d xd → xMany ls k xd δ' → wCls X.K Wo D l cls d σ' H' := by
  induction h with
  | nil => exact ⟨[], .nil, fun ks xd cls d σ' H' Hf' δ' S st rx hq => ks.xq xd cls d σ' H' Hf' δ' S st rx hq⟩
  | @bare x cv ct ss st su q q' hs ls hc hct hsu r ih =>
    obtain ⟨l, h1, h2⟩ := ih
    refine ⟨⟨cv, none, fun a cls d => rdS T X.K W0 ⟨none, me⟩ ss⟩ :: l, .bare hc (fun a oe cls d pn hz hf => hsu a oe cls d pn hz hf) h1, fun {Wo D k H0 Hf0} ks xd cls d σ' H' Hf' δ' S st' rx hq => ?_⟩
    obtain ⟨ecls, _⟩ := id rx
    unfold xMany at hq
    cases e1 : ct xd.c with
    | none => simp only [e1] at hq
    | some b =>
      simp only [e1] at hq
      refine ⟨b, by rw [ecls]; exact hct _ _ e1, fun hbt a ha => ?_, fun hbf => ?_⟩
      · rw [if_pos hbt] at hq
        exact ⟨H0, Hf0, Hf', δ', kQuiet k, S, st', ⟨ks.nx, ks.rt, ks.bk, ks.ct, fun _ _ _ _ _ _ _ _ _ _ (h : False) => h.elim⟩, hq⟩
      · rw [if_neg (by rw [hbf]; simp)] at hq
        exact h2 ks xd cls d σ' H' Hf' δ' S st' rx hq
  | @named x n i cv ct ss st su q q' hs ls hc hct hsu r hi hln ih =>
    obtain ⟨l, h1, h2⟩ := ih
    refine ⟨⟨cv, some i, fun a cls d => rdS T X.K W0 ⟨some (a, cls, d), me⟩ ss⟩ :: l, .named hc hi hln (fun a oe cls d pn hz hf => hsu a oe cls d pn hz hf) h1, fun {Wo D k H0 Hf0} ks xd cls d σ' H' Hf' δ' S st' rx hq => ?_⟩
    obtain ⟨ecls, _⟩ := id rx
    unfold xMany at hq
    cases e1 : ct xd.c with
    | none => simp only [e1] at hq
    | some b =>
      simp only [e1] at hq
      refine ⟨b, by rw [ecls]; exact hct _ _ e1, fun hbt a ha => ?_, fun hbf => ?_⟩
      · rw [if_pos hbt] at hq
        refine ⟨H0, Hf0, Hf', δ'.set i (some (.exc xd.c xd.xs)), kSuite i k, S, (st'.toZ).set ⟨a, cls, d, rfl, rfl, rx⟩ (fun e => by cases e), ⟨?_, ks.rt, ?_, ?_, fun _ _ _ _ _ _ _ _ _ _ (h : False) => h.elim⟩, hq⟩
        · exact fun σ2 H2 Hf2 δ2 S2 st2 q2 => ks.nx _ H2 Hf2 _ S2 ((st2.gone i).ofZ q2.1) q2.2
        · exact fun σ2 H2 Hf2 δ2 S2 st2 q2 => ks.bk _ H2 Hf2 _ S2 ((st2.gone i).ofZ q2.1) q2.2
        · exact fun σ2 H2 Hf2 δ2 S2 st2 q2 => ks.ct _ H2 Hf2 _ S2 ((st2.gone i).ofZ q2.1) q2.2
      · rw [if_neg (by rw [hbf]; simp)] at hq
        exact h2 ks xd cls d σ' H' Hf' δ' S st' rx hq
theorem vs_tryN {X : Cx} {T : Tab} {W : WX} {me : Option Addr} {body : List Stmt} {sb : SW} {hd : ExceptHandler} {hs : List ExceptHandler} {ls : List Hc} {pos : Pos} (hst : X.stack = X.env :: X.outer) (hfr : X.env.frame = some X.env.locals) (hN : X.N.Nodup) (tk : Takes X W)
    (hb : ∀ (W : WX) (pn : List (Addr × Obj)) (xe : Value → Shared → Prop), Takes (X.tr pn xe) W → PassesOwn (model X.prog X.w) X.A X.env xe → VSs (X.tr pn xe) T W ⟨none, me⟩ body sb) (hh : VCls X T me (hd :: hs) ls) :
    VS X T W ⟨none, me⟩ (.Try body (hd :: hs) [] [] pos) (sTryN ls sb) := by
  obtain ⟨l, h1, h2⟩ := hh.to
  refine PS.imp (ps_tryN (tb := fun W => rdS T X.K W ⟨none, me⟩ sb) hst hfr hN tk (fun W pn xe tk' po => hb W pn xe tk' po) h1) fun En σ H ⟨H0, Hf0, Hf, δ, k, s0, st, ks, q⟩ => ?_
  exact ⟨H0, Hf0, Hf, δ, { k with xq := xMany ls k }, s0, st, ⟨ks.nx, ks.rt, ks.bk, ks.ct, fun xd cls d σ' H' Hf' δ' S st' rx hq => h2 ks xd cls d σ' H' Hf' δ' S st' rx hq⟩, q⟩
end VL
end
section
set_option linter.all false
/-! VLc4: < of lists of numbers. -/
namespace VL
open PySem
def lexI : List Int → List Int → Bool
  | [], [] => false
  | [], _ :: _ => true
  | _ :: _, [] => false
  | x :: xs, y :: ys => if x = y then lexI xs ys else decide (x < y)
/-- < of numbers, or of lists of numbers -/
def opLtF : Op2 := fun x y Q _ => match x, y with
  | .int i, .int j => Q (.fz (.bl (decide (i < j))))
  | .lst xs, .lst ys => (match intsOf xs with
    | some is => (match intsOf ys with
      | some js => Q (.fz (.bl (lexI is js)))
      | none => False)
    | none => False)
  | _, _ => False
/-- C.m(..) -/
def wCMeth (c0 : Nat) (sp : FS) (dv : List D) (t : EW) (ta : AW) : EW := fun δ Q X => t δ (fun r => match r.d with
  | .cls c => c = c0 ∧ ta δ (fun ds => sp (.cls c :: (ds ++ dv)) Q X) X
  | _ => False) X
/-- its items: the field j of the class c -/
def iObj (c0 j : Nat) (t : EW) : IW := fun δ Q X => t δ (fun r => match r.d with
  | .obj c xs => c = c0 ∧ (match xs[j]? with
    | some d => (match d with
      | .lst ds => Q ds
      | _ => False)
    | none => False)
  | _ => False) X
end VL
end
section
set_option Elab.async false
set_option linter.all false
set_option maxRecDepth 100000
set_option maxHeartbeats 4000000
/-! VLit: classmethods called; a walk over an instance whose __iter__ hands back iter(self.f). -/
namespace VL
open PySem PySem.Spec PyProof.Rows L2
section
variable {X : Cx} {T : Tab} {W : WX} {z : Hd} {k : Nat} {f : Addr} {ms : List Bool} {dv : List D} {sp : FS}
theorem callVc (F : FnV X.prog X.w X.K X.mg X.base T k f ms dv sp) (hr : Room k X.A) (tk : Takes X W) {pins : List (Addr × Obj)} {s : Shared} {σ : L2.St} {H Hf : Hp} {vs : List V} {us : List Value} {ds : List D} {Q : QR} {Xq : QX} {Qv : VK}
    (I : Inv X pins σ H s) (r : Vals vs us) (i : Ex Hf H) (ha : ArgsOk T X.K Hf H ms ds vs) (xo : XOk T X.K W σ Hf H Xq) (kt : ∀ v Hf' H' r, Step Hf H Hf' H' → Res T X.K Hf' H' H v r → Q r → Qv v H') (q : sp (ds ++ dv) Q Xq) :
    codeAny (model X.prog X.w) X.A (.call (.ref f) ⟨us, []⟩) (fun r s' => match r with | .ok (.ret v) => EP X pins σ Qv v s' | .ok _ => False | .error e => X.xe e s') s := by
  obtain ⟨fd, ps, des, dvs, G, b, rd, hd⟩ := F.ex
  have h : SpV T X.K (ms ++ List.replicate dv.length false) sp (vs ++ dvs) H Qv (L2.WE W σ) := ⟨Hf, ds ++ dv, Q, Xq, i, ha.append (ArgsOk.ofRep (hd Hf)), kt, fun x cls d Hf' H' S rx hx => xo x cls d Hf' H' S rx hx, q⟩
  have r2 : Vals (vs ++ dvs) (us ++ des) := r.append rd
  have hl : (us ++ des).length = ps.length := by rw [← r2.length]; exact G.len _ _ _ _ h
  refine codeAny_mono (G.run X.A X.stack s H ⟨us, []⟩ (us ++ des) (vs ++ dvs) Qv (L2.WE W σ) hr I.env0 (b s us I.kIn hl) r2 h) fun rr s' hq => ?_
  cases rr with
  | error e => exact passAt tk σ pins H s e s' I hq
  | ok fl =>
    cases fl with
    | ret u => exact I.after hq
    | next => exact False.elim hq
    | brk => exact False.elim hq
    | cont => exact False.elim hq
end
/-- C.m is a classmethod, its def at g -/
structure ClsMethF (T : Tab) (K : PySem.W.Frag) (c : Nat) (m : Str) (g : Addr) : Prop where
  ex : ∃ mc p, ClX.CRead K (T.cls c) mc ∧ ClX.CMet K (T.cls c) mc m p g
section
variable {X : Cx} {T : Tab} {W : WX} {z : Hd} {k c : Nat} {ms : List Bool} {dv : List D} {sp : FS} {o e : Expr} {es : List Expr} {t : EW} {ar : AW} {m : Str} {apos pos : Pos}
theorem ve_cmeth {g : Addr} {pl : Sem Bool} (ho : VE X T W z o t) (hm : ClsMethF T X.K c m g) (F : FnV X.prog X.w X.K X.mg X.base T k g (false :: ms) dv sp) (hr : Room k X.A) (tk : Takes X W) (ha : VA X T W z ms (e :: es) ar)
    (hst : starEach (e :: es) X.env = (false, eval e X.env) :: starEach es X.env := by rfl) (hpl : (backTo pos (starEach es X.env)).any (·.1) = false := by rfl)
    (ht : eval (.Call (.Attribute o m apos) (e :: es) [] pos) X.env = (do
      let ov ← eval o X.env
      standAt apos.atName
      let (f, first) ← holding [ov] (getMethod ov m pl)
      callWith pos f first (backTo pos (starEach (e :: es) X.env)) (backToKw pos (keywordEach [] X.env))) := by rfl) :
    VE X T W z (.Call (.Attribute o m apos) (e :: es) [] pos) (wCMeth c sp dv t ar) := by
  refine ⟨fun pins s σ H Qv I ⟨H0, Hf, δ, Q, Xq, st, xo, kt, q⟩ => ?_⟩
  refine PySem.W.methodCall_KW (pl := pl) (thn (ho.toD.one (Q2 := fun d => match d with | .cls c' => c' = c ∧ ar δ (fun ds => sp (.cls c' :: (ds ++ dv)) Q Xq) Xq | _ => False) I st xo q) fun va s1 ⟨w, H1, Hf1, d, I1, r1, S, rp, hq⟩ => ?_) ht
  cases d with
  | cls c' =>
    obtain ⟨rfl, hq⟩ := hq
    unfold Rep at rp
    subst rp
    obtain rfl : va = Value.ref (T.cls c') := r1
    obtain ⟨mc, p, rC, cM⟩ := hm.ex
    refine ClX.getmethcm_ok I1 rC cM fun s2 I2 => ?_
    refine ClX.callwith_cm I2 (ClX.base_none I1 (Nat.le_refl _)) cM.fi (thn (ha.run pos _ s2 σ H1 (fun vs H' => ∃ Hf' ds, Step Hf1 H1 Hf' H' ∧ ArgsOk T X.K Hf' H' ms ds vs ∧ sp (.cls c' :: (ds ++ dv)) Q Xq) I2
      ⟨H0, Hf1, δ, _, Xq, st.step S, xo.step S, fun vs Hf' H' ds S r q => ⟨Hf', ds, S, r, q⟩, hq⟩) fun us s3 ⟨vs, H2, I3, rv, Hf2, ds, S2, ra, q2⟩ => ⟨⟨ClX.pin_at I3, I3.kIn⟩, ?_⟩) hst hpl
    have rc : Rep T X.K Hf2 (.cls c') (.ref (T.cls c')) := by unfold Rep; rfl
    exact thn (wpAny_call (PySem.W.method_call (ClX.pin_at I3) (callVc F hr tk (us := .ref (T.cls c') :: us) (vs := .ref (T.cls c') :: vs) (ds := .cls c' :: ds) I3 (.cons rfl rv) S2.i ⟨_, _, _, _, rfl, rfl, rc, ra⟩ (xo.step (S.trans S2)) (kont kt (S.trans S2)) q2))) fun _ _ y => ClX.unpinE y
  | _ => exact hq.elim
end
/-! ### a walk over an instance -/
/-- class c's __iter__ hands back a new iterator over the list in its field j -/
structure ItV (P : Program) (w : World) (K : PySem.W.Frag) (mg : Str → Option Value) (base : Heap) (T : Tab) (c j : Nat) : Prop where
  ex : ∃ f : Addr, PySem.W.findIn K (.ref (T.cls c)) "__iter__" = some (some (.ref f)) ∧ PySem.W.isFn K (.ref f) = true ∧ ∀ (A : Around) (outer : List Env) (s : Shared) (H : Hp) (a dx l : Addr) (fs : List (Str × V)) (zs : List V) (fld : Str), Room 1 A → Env0 P w K mg base A outer s H →
    H a = some (.ins (T.cls c) dx fs) → (T.flds c)[j]? = some fld → fs.lookup fld = some (.ref l) → SqL K H l zs →
    codeAny (model P w) A (.call (.ref f) ⟨[.ref a], []⟩) (fun r s' => match r with
      | .ok (.ret u) => ∃ it, s.heap.objs.size ≤ it ∧ CE outer P w H s (fun v H' => v = .ref it ∧ H it = none ∧ H' = upd H it (ItO l it 0)) u s'
      | _ => False) s
section
variable {P : Program} {w : World} {K : PySem.W.Frag} {mg : Str → Option Value} {base : Heap} {T : Tab} {x qual : Str} {params : Arguments} {scope : Scope} {f : Addr} {fd : FuncData} {c j : Nat} {fld : Str} {p0 p1 p2 p3 p4 : Pos}
theorem mkIt (F : FunD K x qual params [.Return (some (.Call (.Name "iter" p0) [.Attribute (.Name "self" p1) fld p2] [] p3)) p4] scope [] [] f fd) (S : FnScope ["self"] ["self"] scope) (hg : scope.names.lookup ("iter" : Str) = some .globalImplicit) (hv : Vis scope "self") (hm : mg "iter" = none) (hfl : (T.flds c)[j]? = some fld) (lib : Lib T K) (hc : c < T.n)
    (h1 : PySem.W.findIn K (.ref (T.cls c)) "__iter__" = some (some (.ref f))) (h2 : PySem.W.isFn K (.ref f) = true)
    (h : ∀ (kV doc pm : Value) (an : Option Addr) (cdv ct : Value) (us : List Value), us.length = ([("self" : Str)]).length → bindArgs (PySem.W.fnOf x qual params [.Return (some (.Call (.Name "iter" p0) [.Attribute (.Name "self" p1) fld p2] [] p3)) p4] scope .none kV doc pm an cdv ct) ⟨us, []⟩ = pure ([("self" : Str)].zip us)) : ItV P w K mg base T c j := by
  have B := F.bindsN h
  refine ⟨⟨f, h1, h2, fun A outer s H a dx l fs zs fl hr e0 ha hf hlk hq => ?_⟩⟩
  rw [hfl] at hf
  cases hf
  obtain ⟨oc, od, dV, kV, doc, pm, an, cdv, ct, osl, rfl, lk, hcd, _, _⟩ := F.ex
  have kp0 : ∀ b o, base.get? b = some o → s.heap.get? b = some o := fun b o e => (e0.bs b o e).1
  have KX : K.In s.heap := e0.mod.kin.keeps kp0
  have bind := B s [.ref a] KX rfl
  rw [List.append_nil] at bind
  have kinds : ∀ y ∈ [("self" : Str)].zip [Value.ref a], scope.names.lookup y.1 = some .local ∨ (scope.names.lookup y.1 = some .cell ∧ ((cellsFrom (s.heap.objs.size + 1) scope.names []).lookup y.1).isSome = true) := fun ⟨n, v⟩ hy => by
    rcases S.par n (List.of_mem_zip hy).1 with q | q
    · exact .inl q
    · exact .inr ⟨q, PySem.W.cellsFrom_some _ _ _ (.inl q)⟩
  refine codeAny_call_function hr.depth (KX _ _ lk) rfl S.co S.gen rfl (PySem.W.codeRec_of KX hcd) (bind _ _ _ _ ?_)
  refine wpAny_newFunctionEnv_cells S.kind kinds fun env he s1 xx => ?_
  subst he
  refine ⟨(e0.mod.nolimit.keeps kp0).keeps xx.toInCall.keep, codeAny_func ?_⟩
  have I : Inv (cxOf (L2.CX P w) P w K mg base ["self"] qual scope f cdv A outer s H (fun _ _ _ => False)) [] (L2.start ["self"] [.ref a]) H s1 := inv_start S hr.hd e0 rfl (.cons rfl .nil) xx
  have body : PSs (cxOf (L2.CX P w) P w K mg base ["self"] qual scope f cdv A outer s H (fun _ _ _ => False)) [.Return (some (.Call (.Name "iter" p0) [.Attribute (.Name "self" p1) fld p2] [] p3)) p4] _ :=
    pss_one (ps_ret (pe_callB ItX.call_iterN hg hm (by decide +kernel) (pa_cons (pe_fld (pe_var (i := 0) rfl hv (by decide) (by decide)) rfl) pa_nil)))
  refine wpAny_mono (body.run [] s1 _ H { nx := fun _ _ => False, rt := fun v H' => ∃ it, s.heap.objs.size ≤ it ∧ v = .ref it ∧ H it = none ∧ H' = upd H it (ItO l it 0) } I ?_) (fun fl s' hs => ?_) fun e s' hs => ?_
  · exact ⟨.ref a, rfl, a, T.cls c, dx, fs, .ref l, rfl, ha, (lib.cl c hc).cl, lib.na c hc fld (List.mem_of_getElem? hfl), hlk, l, zs, rfl, hq, fun it hit hn => ⟨it, hn, rfl, hit, rfl⟩⟩
  · cases fl with
    | ret u =>
      obtain ⟨v, σ', H', J, rv, it, hn, ev, hit, eH⟩ := hs
      exact ⟨it, hn, v, H', J.os, J.bare, J.base, J.hok, rv, ev, hit, eH⟩
    | next =>
      obtain ⟨_, _, _, q⟩ := hs
      exact q.elim
    | brk =>
      obtain ⟨_, _, _, q⟩ := hs
      exact q.elim
    | cont =>
      obtain ⟨_, _, _, q⟩ := hs
      exact q.elim
  · refine wpAny_mono (show wpAny (model P w) _ (leaving _ e) _ _ s' from hs) (fun u s2 hc => ?_) fun u s2 hc => ?_
    · obtain ⟨_, _, _, _, _, _, _, _, _, _, _, _, hc⟩ := (show CX P w outer H s (fun _ _ _ => False) e s2 from hc)
      exact hc.elim
    · obtain ⟨_, _, _, _, _, _, _, _, _, _, _, _, hc⟩ := (show CX P w outer H s (fun _ _ _ => False) u s2 from hc)
      exact hc.elim
end
section
variable {X : Cx} {T : Tab} {W : WX} {z : Hd} {k c j : Nat} {e tg : Expr} {t : EW}
theorem vi_obj (F : ItV X.prog X.w X.K X.mg X.base T c j) (lib : Lib T X.K) (hr : Room 1 X.A) (he : VE X T W z e t) : VI X T W z tg e (iObj c j t) := by
  refine ⟨fun pins s σ H R I ⟨H0, Hf, δ, Q, Xq, st, xo, kt, q⟩ => ?_⟩
  refine thn (he.toD.one (Q2 := fun d => match d with | .obj c' xs => c' = c ∧ (match xs[j]? with | some d => (match d with | .lst ds => Q ds | _ => False) | none => False) | _ => False) I st xo q) fun v s1 ⟨w, H1, Hf1, d, I1, r1, S, rp, hq⟩ => ?_
  cases d with
  | obj c' xs =>
    obtain ⟨rfl, hq⟩ := hq
    cases ej : xs[j]? with
    | none => rw [ej] at hq; exact hq.elim
    | some dj =>
      rw [ej] at hq
      cases dj with
      | lst ds =>
        obtain ⟨a, dx, fs, rfl, hc, e1, e2, e3⟩ := rp.objU S.i
        obtain rfl : v = Value.ref a := r1
        obtain ⟨u, eu, ru⟩ := e3.getD ej
        unfold Rep at ru
        obtain ⟨l, zs, rfl, hl, hz⟩ := ru
        have hflen : j < (T.flds c').length := by
          have h1 := congrArg List.length e2
          rw [List.length_map] at h1
          have h2 : j < (fs.map (·.2)).length := by
            by_cases q : j < (fs.map (·.2)).length
            · exact q
            · rw [List.getElem?_eq_none (by omega)] at eu
              cases eu
          rw [List.length_map] at h2
          omega
        have hfl : (T.flds c')[j]? = some ((T.flds c')[j]) := List.getElem?_eq_getElem hflen
        have hlk : fs.lookup ((T.flds c')[j]) = some (.ref l) := lookup_of (by rw [e2]; exact lib.nd c' hc) (by rw [e2]; exact hfl) eu
        obtain ⟨f, g1, g2, run⟩ := F.ex
        obtain ⟨m, fr⟩ := I1.fr
        obtain ⟨od, J, _⟩ := inst_at I1 e1
        have sqL : SqL X.K H1 l zs := SqL.of (S.i _ _ hl)
        refine PySem.W.owit_iter fr I1.ok.mod.kin J g1 g2 (wpAny_call (codeAny_mono (run X.A X.stack s1 H1 a dx l fs zs _ hr I1.env0 e1 hfl hlk sqL) fun rr s2 hh => ?_))
        cases rr with
        | error e => exact hh.elim
        | ok fl =>
          cases fl with
          | ret u =>
            obtain ⟨it, hn, ce⟩ := hh
            obtain ⟨v, H2, I2, rv, ev, hit, eH⟩ := I1.after ce
            subst ev eH
            cases rv
            have e4 := upd_same (H := H1) (a := it) (o := ItO l it 0)
            have hobj := itO_get I2 e4
            have I3 := ItX.inv_drop I2 e4
            rw [ItX.dropH_upd hit] at I3
            have fp := ItX.inv_fp I2 e4 (Nat.le_trans I1.sz hn)
            rw [ItX.dropH_upd hit] at fp
            refine wpAny_specialOf ⟨_, hobj, rfl⟩ slot_listiter_next.lookup ?_
            refine ⟨it, [it], _, _, H1, rfl, I3, turn_list l it, ⟨_, hobj, rfl, rfl⟩, fun b hb => ?_, kt _ Hf1 H1 ds S (itl_ok hl hz) hq⟩
            rw [List.mem_singleton.mp hb]
            exact fp
          | next => exact hh.elim
          | brk => exact hh.elim
          | cont => exact hh.elim
      | _ => exact hq.elim
  | _ => exact hq.elim
end
end VL
end
section
set_option Elab.async false
set_option linter.all false
set_option maxRecDepth 100000
set_option maxHeartbeats 4000000
/-! VLlt: < of lists of numbers. -/
namespace VL
open PySem PySem.Spec PyProof.Rows L2
theorem lexI_eq : ∀ (is js : List Int), PySem.SeqAt.firstLt (fun j => is.getD j 0 == js.getD j 0) (fun j => decide (is.getD j 0 < js.getD j 0)) (decide (is.length < js.length)) (List.range (min is.length js.length)) = lexI is js
  | [], [] => rfl
  | [], y :: ys => by simp [PySem.SeqAt.firstLt, lexI]
  | x :: xs, [] => by simp [PySem.SeqAt.firstLt, lexI]
  | x :: xs, y :: ys => by
    have e : List.range (min (x :: xs).length (y :: ys).length) = 0 :: (List.range (min xs.length ys.length)).map Nat.succ := by
      rw [List.length_cons, List.length_cons, Nat.succ_min_succ, List.range_succ_eq_map]
    rw [e]
    unfold lexI
    by_cases h : x = y
    · subst h
      rw [PySem.SeqAt.firstLt_yes (by simp), PySem.W.firstLt_map, if_pos rfl, ← lexI_eq xs ys]
      congr 1
      simp
    · rw [PySem.SeqAt.firstLt_no (by simpa using h), if_neg h]
      simp
section
variable {X : Cx} {T : Tab} {W : WX}
theorem ints_atB {Hf H : Hp} {ds : List D} {is : List Int} {v : V} (e : intsOf ds = some is) (i : Ex Hf H) (h : BRep T X.K Hf H (.lst ds) v) : ∃ a, v = .ref a ∧ SqL X.K H a (is.map V.int) := by
  rcases h with h | ⟨_, _, _, _, _, e1, _⟩
  · exact ints_at (X := X) (T := T) e i h
  · cases e1
theorem op_ltL {pins : List (Addr × Obj)} {s : Shared} {σ : L2.St} {H : Hp} {a b : Addr} {is js : List Int} {Q : Value → Shared → Prop} {E : Value → Shared → Prop} (hu : X.A.units < cLine) (I : Inv X pins σ H s) (ha : SqL X.K H a (is.map V.int)) (hb : SqL X.K H b (js.map V.int)) (q : Q (.bool (lexI is js)) s) :
    wpAny (model X.prog X.w) X.A (compareOp .Lt (.ref a) (.ref b)) Q E s := by
  obtain ⟨its, r1, p1, _⟩ := I.list ha
  obtain ⟨its2, r2, p2, _⟩ := I.list hb
  have i1 : IntsAre its.toArray.toList is := intsAre_of r1
  have i2 : IntsAre its2.toArray.toList js := intsAre_of r2
  have l1 : its.toArray.size = is.length := by rw [List.size_toArray, ← r1.length, List.length_map]
  have l2 : its2.toArray.size = js.length := by rw [List.size_toArray, ← r2.length, List.length_map]
  have at_ : ∀ {l : List Value} {ns : List Int}, IntsAre l ns → ∀ j (h : j < l.length), ∃ t, l[j] = .int (ns.getD j 0) t := by
    intro l ns h
    induction h with
    | nil =>
      intro j h
      exact absurd h (Nat.not_lt_zero _)
    | cons n t h ih =>
      intro j hj
      cases j with
      | zero => exact ⟨t, rfl⟩
      | succ j =>
        obtain ⟨t', e⟩ := ih j (Nat.lt_of_succ_lt_succ hj)
        exact ⟨t', by simpa using e⟩
  have R := PySem.SeqAt.RcLt.lists (e := fun j => is.getD j 0 == js.getD j 0) (r := fun j => decide (is.getD j 0 < js.getD j 0)) p1.isList p2.isList hu (fun j h1 h2 => ?_) (fun j h1 h2 _ => ?_)
  · rw [l1, l2, lexI_eq] at R
    exact R X.prog X.w E Q q
  · obtain ⟨t1, e1⟩ := at_ i1 j h1
    obtain ⟨t2, e2⟩ := at_ i2 j h2
    rw [show its.toArray[j] = _ from e1, show its2.toArray[j] = _ from e2]
    exact PySem.SeqAt.EqAt.int_int _ t1 _ t2
  · obtain ⟨t1, e1⟩ := at_ i1 j h1
    obtain ⟨t2, e2⟩ := at_ i2 j h2
    rw [show its.toArray[j] = _ from e1, show its2.toArray[j] = _ from e2]
    exact fun prog w E Q h => HT.rcLt_int _ s _ t1 _ t2 prog w E Q h
theorem opb_ltF (hu : X.A.units < cLine) : OpB X T W (compareOp .Lt) opLtF := fun pins s σ H Hf x y u v dx dy Q Xq Qv I rx ry i hx hy xo kt q => by
  unfold opLtF at q
  split at q
  · rename_i a b
    rw [hx.int] at rx
    rw [hy.int] at ry
    exact useR op_lt I rx ry ⟨_, _, rfl, rfl, kt _ Hf H (.fz (.bl _)) (Step.refl i) (by unfold Res Rep; rfl) q⟩
  · rename_i xs ys
    cases e1 : intsOf xs with
    | none => rw [e1] at q; exact q.elim
    | some is =>
      rw [e1] at q
      cases e2 : intsOf ys with
      | none => rw [e2] at q; exact q.elim
      | some js =>
        rw [e2] at q
        obtain ⟨l, ex, hq⟩ := ints_atB e1 i hx
        obtain ⟨l2, ey, hq2⟩ := ints_atB e2 i hy
        subst ex ey
        cases rx
        cases ry
        exact op_ltL hu I hq hq2 ⟨.bl (lexI is js), H, I, rfl, kt _ Hf H (.fz (.bl _)) (Step.refl i) (by unfold Res Rep; rfl) q⟩
  · exact q.elim
end
end VL
end
section
set_option Elab.async false
set_option linter.all false
set_option maxRecDepth 100000
set_option maxHeartbeats 4000000
/-! VLasm: defs put together. -/
namespace VL
open PySem PySem.Spec PyProof.Rows L2 He
theorem chk_at {l : List Bool} (h : l.all id = true) (i : Nat) {b : Bool} (e : l[i]? = some b := by rfl) : b = true := List.all_eq_true.mp h b (List.mem_of_getElem? e)
section
variable {P : Program} {w : World} {K : PySem.W.Frag} {mg : Str → Option Value} {base : Heap} {T : Tab} {x qual : Str} {params : Arguments} {body : List Stmt} {scope : Scope} {dvs : List V} {kws : List (Str × V)} {f : Addr} {fd : FuncData} {N ps : List Str} {k : Nat} {sp : FS} {ms ms' : List Bool} {c : Nat} {dv : List D}
theorem mkFn0 (F : FunD K x qual params body scope [] [] f fd) (G : FnOk P w K mg base (L2.CX P w) k f fd ps (SpV T K ms sp))
    (h : ∀ (kV doc pm : Value) (an : Option Addr) (cdv ct : Value) (us : List Value), us.length = ps.length → bindArgs (PySem.W.fnOf x qual params body scope .none kV doc pm an cdv ct) ⟨us, []⟩ = pure (ps.zip us)) : FnV P w K mg base T k f ms [] sp :=
  ⟨⟨fd, ps, [], [], by rw [List.length_nil, List.replicate_zero, List.append_nil]; exact G, F.bindsN h, .nil, fun _ => RepL.nil⟩, F.kp⟩
theorem mkFnD (F : FunD K x qual params body scope dvs [] f fd) (G : FnOk P w K mg base (L2.CX P w) k f fd ps (SpV T K ms sp)) (n j : Nat) (hd : dvs ≠ []) (hn : n + (dvs.length - j) = ps.length)
    (h : ∀ (T : Addr) (kV doc pm : Value) (an : Option Addr) (cdv ct : Value) (us its : List Value), us.length = n → its.length = dvs.length →
      ∃ k, bindArgs (PySem.W.fnOf x qual params body scope (.ref T) kV doc pm an cdv ct) ⟨us, []⟩ = seqItems? (.ref T) >>= k ∧ k (some its.toArray) = pure (ps.zip (us ++ its.drop j)))
    (hm : ms = ms' ++ List.replicate dv.length false) (hr : ∀ H, RepL T K H dv (dvs.drop j)) : FnV P w K mg base T k f ms' dv sp := by
  obtain ⟨ds, h1, h2⟩ := F.binds1 n j hd hn h
  exact ⟨⟨fd, ps, ds, _, hm ▸ G, h2, h1, hr⟩, F.kp⟩
theorem mkMk0 (hlt : c < T.n) (M : Mk K (T.cls c) f) (F : FunD K x qual params body scope [] [] f fd) (G : FnOk P w K mg base (L2.CX P w) k f fd ps (SpI T K c ms sp))
    (h : ∀ (kV doc pm : Value) (an : Option Addr) (cdv ct : Value) (us : List Value), us.length = ps.length → bindArgs (PySem.W.fnOf x qual params body scope .none kV doc pm an cdv ct) ⟨us, []⟩ = pure (ps.zip us)) : MkV P w K mg base T k c ms [] sp :=
  ⟨⟨f, fd, ps, [], [], M, by rw [List.length_nil, List.replicate_zero, List.append_nil]; exact G, F.bindsN h, .nil, fun _ => RepL.nil⟩, hlt, M.kp⟩
theorem mkMkD (hlt : c < T.n) (M : Mk K (T.cls c) f) (F : FunD K x qual params body scope dvs [] f fd) (G : FnOk P w K mg base (L2.CX P w) k f fd ps (SpI T K c ms sp)) (n j : Nat) (hd : dvs ≠ []) (hn : n + (dvs.length - j) = ps.length)
    (h : ∀ (T : Addr) (kV doc pm : Value) (an : Option Addr) (cdv ct : Value) (us its : List Value), us.length = n → its.length = dvs.length →
      ∃ k, bindArgs (PySem.W.fnOf x qual params body scope (.ref T) kV doc pm an cdv ct) ⟨us, []⟩ = seqItems? (.ref T) >>= k ∧ k (some its.toArray) = pure (ps.zip (us ++ its.drop j)))
    (hm : ms = ms' ++ List.replicate dv.length false) (hr : ∀ H, RepL T K H dv (dvs.drop j)) : MkV P w K mg base T k c ms' dv sp := by
  obtain ⟨ds, h1, h2⟩ := F.binds1 n j hd hn h
  exact ⟨⟨f, fd, ps, ds, _, M, hm ▸ G, h2, h1, hr⟩, hlt, M.kp⟩
theorem MkV.mono {j : Nat} (F : MkV P w K mg base T j c ms dv sp) (h : j ≤ k) : MkV P w K mg base T k c ms dv sp := by
  obtain ⟨⟨f, fd, ps, ds, dvs, M, h1, h2⟩, h3, h4⟩ := F
  exact ⟨⟨f, fd, ps, ds, dvs, M, h1.mono h, h2⟩, h3, h4⟩
theorem DnOk.mk' {m : Dn} (M : MethF T K c m.nm f) (F : FnV P w K mg base T k f m.ms [] sp) : DnOk P w K mg base T k c m m.ms sp := ⟨⟨f, M.me.at_, M.me.fn, F⟩⟩
theorem DnOk.mono {m : Dn} {j : Nat} (F : DnOk P w K mg base T j c m ms sp) (h : j ≤ k) : DnOk P w K mg base T k c m ms sp := by
  obtain ⟨f, h1, h2, h3⟩ := F.ex
  exact ⟨⟨f, h1, h2, h3.mono h⟩⟩
theorem FunD.same {x' qual' : Str} {params' : Arguments} {body' : List Stmt} {scope' : Scope} {dvs' : List V} {kws' : List (Str × V)} {fd' : FuncData} (F : FunD K x qual params body scope dvs kws f fd) (F' : FunD K x' qual' params' body' scope' dvs' kws' f fd') : fd = fd' := by
  obtain ⟨_, _, _, _, _, _, _, _, _, _, _, h1, _⟩ := F.ex
  obtain ⟨_, _, _, _, _, _, _, _, _, _, _, h2, _⟩ := F'.ex
  rw [h1] at h2
  injection h2 with h2
  injection h2 with _ _ h2
  injection h2
end
/-- the law's end -/
theorem walk_V {l : PySem.W.OpenLaw} {k : Nat} {q : Program} {loose : List Str} {XP : (Str → Option Value) → Heap → Prop} {YP : World → Heap → Prop} {d : DefRec} (hn : l.most = some 63) (hdf : d.params.defaults = []) (hr : Room k callerA)
    (F : ∀ (w : World) (mg : Str → Option Value) (fa : Addr) (h : Heap), YP w h → h.Ns mainGlobals mg → mg d.name = some (.ref fa) → ∃ (K : PySem.W.Frag) (fd : FuncData) (T : Tab) (sp : FS), K.In h ∧ (∀ (s : Shared) (u : Value), BindsTo s fd ⟨[u], []⟩ [("script", u)]) ∧
      (∀ ns : List Int, ns.length ≤ 63 → (∀ z ∈ ns, Builtin.Int.intBits z ≤ 1048576) → sp [.scr ns] (fun r => r = .fz (.bl true)) fun _ => False) ∧ ∀ base : Heap, K.In base → base.Ns mainGlobals mg → FnOk l.prog w K mg base (L2.CX l.prog w) k fa fd ["script"] (SpV T K [false] sp)) :
    PySem.W.WalkO q loose XP YP l.row.toRowW d [] (fun f vs => PySem.call f vs) := by
  refine Att.attach_callB hn hdf fun w s₀ s₁ mg mb fa o pm cd doc a vs ns G Y ho hd hcd hmg hobj hints hlen hbits hg => ?_
  obtain ⟨K, fd, T, sp, KX, hb, hsp, hF⟩ := F w mg fa _ Y G.T.g hmg
  refine law_call KX G.T.g G.T.b G.T.builtins G.T.nolimit hg hobj hints (Nat.le_trans hlen (by decide)) hr hF hb (fun H _ hS => ?_) fun H e s' hc => ?_
  · refine ⟨H, [.scr ns], fun r => r = .fz (.bl true), fun _ => False, Ex.refl H, ⟨_, _, _, _, rfl, rfl, ?_, rfl, rfl⟩, fun v Hf' H' r S rs q => ?_, fun _ _ _ _ _ _ _ hx => hx.elim, hsp ns hlen hbits⟩
    · show Rep T K H (.scr ns) (.ref a)
      unfold Rep
      exact ⟨a, rfl, hS⟩
    · subst q
      unfold Res Rep at rs
      exact rs
  · obtain ⟨_, _, _, _, _, _, _, _, _, _, _, _, hc⟩ := hc
    exact hc
end VL
end
section
set_option Elab.async false
set_option linter.all false
set_option maxRecDepth 100000
set_option maxHeartbeats 4000000
/-! VLx: small things for the assembly. -/
namespace VL
open PySem PySem.Spec PyProof.Rows L2 He
section
variable {P : Program} {w : World} {K : PySem.W.Frag} {mg : Str → Option Value} {base : Heap} {T : Tab} {x qual : Str} {params : Arguments} {body : List Stmt} {scope : Scope} {f : Addr} {fd : FuncData} {ps : List Str} {k : Nat} {ms : List Bool}
theorem XkV.mono {j c n : Nat} {b : Bool} (F : XkV P w K mg base T j c n b) (h : j ≤ k) : XkV P w K mg base T k c n b := by
  obtain ⟨o, ⟨f, fd, ps, h1, h2, h3, h4⟩, nd, ln⟩ := F
  exact ⟨o, ⟨f, fd, ps, h1, h2, h3.mono h, h4⟩, nd, ln⟩
/-- a def that is never called -/
theorem fnNever (F : FunD K x qual params body scope [] [] f fd) (hp : ps.length = ms.length)
    (h : ∀ (kV doc pm : Value) (an : Option Addr) (cdv ct : Value) (us : List Value), us.length = ps.length → bindArgs (PySem.W.fnOf x qual params body scope .none kV doc pm an cdv ct) ⟨us, []⟩ = pure (ps.zip us)) : FnV P w K mg base T k f ms [] (fun _ _ _ => False) :=
  mkFn0 F ⟨fun _ _ _ _ ⟨_, _, _, _, _, _, _, _, h⟩ => h.elim, fun _ _ _ _ _ _ _ _ _ _ _ _ _ ⟨_, _, _, _, _, _, _, _, h⟩ => h.elim⟩ h
end
def xfsB (T : Tab) (K : PySem.W.Frag) (fld : Str) (tb : List (Nat × Nat)) : Bool := tb.all fun p => xfB K (T.cls p.1) && (eqO (PySem.W.findIn K (.ref (T.cls p.1)) fld) (some none) && decide ((T.flds p.1)[p.2]? = some fld))
theorem xfsB_ok {T : Tab} {K : PySem.W.Frag} {fld : Str} {tb : List (Nat × Nat)} (h : xfsB T K fld tb = true) : ∀ p ∈ tb, XfC K (T.cls p.1) ∧ PySem.W.findIn K (.ref (T.cls p.1)) fld = some none ∧ (T.flds p.1)[p.2]? = some fld := fun p hp => by
  obtain ⟨h1, h2⟩ := ba (List.all_eq_true.mp h p hp)
  obtain ⟨h3, h4⟩ := ba h2
  exact ⟨xfB_ok h1, eqO_ok h3, of_decide_eq_true h4⟩
end VL
end
section
set_option Elab.async false
set_option linter.all false
set_option maxRecDepth 100000
set_option maxHeartbeats 4000000
/-! VLy: checks for classmethods, class constants, own iterators. -/
namespace VL
open PySem PySem.Spec PyProof.Rows L2 He
def tyV : Value := .type "type"
def refOf : Value → Option Addr
  | .ref a => some a
  | _ => none
theorem refOf_ok {v : Value} {a : Addr} (h : refOf v = some a) : v = .ref a := by
  cases v <;> first | (cases h; rfl) | cases h
def getP : Option PySem.W.CFound → Option (Value × Value × Value × Value)
  | some (.get a b c d) => some (a, b, c, d)
  | _ => none
theorem getP_ok {o : Option PySem.W.CFound} {a b c d : Value} (h : getP o = some (a, b, c, d)) : o = some (.get a b c d) := by
  cases o with
  | none => cases h
  | some f =>
    cases f with
    | get x y z w => cases h; rfl
    | _ => cases h
def valP : Option PySem.W.CFound → Option Value
  | some (.val a) => some a
  | _ => none
theorem valP_ok {o : Option PySem.W.CFound} {a : Value} (h : valP o = some a) : o = some (.val a) := by
  cases o with
  | none => cases h
  | some f =>
    cases f with
    | val x => cases h; rfl
    | _ => cases h
def hdRef : Option (List Value) → Option Addr
  | some (v :: _) => refOf v
  | _ => none
theorem hdRef_ok {o : Option (List Value)} {a : Addr} (h : hdRef o = some a) : ∃ r, o = some (.ref a :: r) := by
  cases o with
  | none => cases h
  | some l =>
    cases l with
    | nil => cases h
    | cons v r => exact ⟨r, by rw [refOf_ok h]⟩
/-- the record of the classmethod m of C -/
def cmp (K : PySem.W.Frag) (C : Addr) (m : Str) : Addr := match getP (PySem.W.findCls K (.ref C) tyV m) with
  | some (_, b, _, _) => (refOf b).getD 0
  | none => 0
/-- its def -/
def cga (K : PySem.W.Frag) (C : Addr) (m : Str) : Addr := (hdRef (PySem.W.recIn K (cmp K C m) "classmethod")).getD 0
def creadB (K : PySem.W.Frag) (C : Addr) : Bool := PySem.W.readsIn K C tyV && eqO (PySem.W.specialIn K (.ref C) "__getattribute__") (some (some (.builtin "type.__getattribute__")))
theorem creadB_ok {K : PySem.W.Frag} {C : Addr} (h : creadB K C = true) : ClX.CRead K C tyV := by
  obtain ⟨h1, h2⟩ := ba h
  exact ⟨h1, eqO_ok h2⟩
def cmethB (T : Tab) (K : PySem.W.Frag) (c : Nat) (m : Str) : Bool := creadB K (T.cls c) && (decide (getP (PySem.W.findCls K (.ref (T.cls c)) tyV m) = some (.builtin "classmethod.__get__", .ref (cmp K (T.cls c) m), .none, .ref (T.cls c))) &&
  (decide (hdRef (PySem.W.recIn K (cmp K (T.cls c) m) "classmethod") = some (cga K (T.cls c) m)) && PySem.W.fnIn K (cga K (T.cls c) m)))
theorem cmethB_ok {T : Tab} {K : PySem.W.Frag} {c : Nat} {m : Str} (h : cmethB T K c m = true) : ClsMethF T K c m (cga K (T.cls c) m) := by
  obtain ⟨h1, h⟩ := ba h
  obtain ⟨h2, h⟩ := ba h
  obtain ⟨h3, h4⟩ := ba h
  exact ⟨tyV, cmp K (T.cls c) m, creadB_ok h1, getP_ok (of_decide_eq_true h2), hdRef_ok (of_decide_eq_true h3), h4⟩
def intV : Value → Option Int
  | .int i _ => some i
  | _ => none
def clsConB (T : Tab) (K : PySem.W.Frag) (f : Str) (c : Nat) (i : Int) : Bool := creadB K (T.cls c) && decide ((valP (PySem.W.findCls K (.ref (T.cls c)) tyV f)).bind intV = some i)
theorem clsConB_ok {T : Tab} {K : PySem.W.Frag} {f : Str} {c : Nat} {i : Int} (h : clsConB T K f c i = true) : ClsConF T K f (c, .int i) := by
  obtain ⟨h1, h2⟩ := ba h
  have h2 := of_decide_eq_true h2
  cases e : valP (PySem.W.findCls K (.ref (T.cls c)) tyV f) with
  | none => rw [e] at h2; cases h2
  | some v =>
    rw [e] at h2
    cases v with
    | int j t =>
      have : j = i := by
        have h3 : some j = some i := h2
        exact Option.some.inj h3
      subst this
      exact ⟨tyV, .int j, .int j t, creadB_ok h1, ⟨valP_ok e, ⟨t, rfl⟩⟩, fun Hf => by unfold Rep; rfl⟩
    | _ => cases h2
section
variable {P : Program} {w : World} {K : PySem.W.Frag} {mg : Str → Option Value} {base : Heap} {T : Tab} {c j : Nat}
theorem ItV.of {f : Addr} (M : MethF T K c "__iter__" f) (h : PySem.W.findIn K (.ref (T.cls c)) "__iter__" = some (some (.ref f)) → PySem.W.isFn K (.ref f) = true → ItV P w K mg base T c j) : ItV P w K mg base T c j := h M.me.at_ M.me.fn
end
end VL
end
section
set_option linter.all false
/-! VLk0: plain words that the laws' specs share. -/
namespace VL
open PySem
def Sz (n : Nat) (i : Int) : Prop := i.natAbs < 2 ^ n
def Inm (menu out : List Int) : Prop := out.length = menu.length ∧ ∀ (i : Nat) (m o : Int), menu[i]? = some m → out[i]? = some o → 0 ≤ o ∧ o < m
def FSCell : FS := fun ds Q X => ∃ ns k, ds = [.scr ns, .int k] ∧ 0 ≤ k ∧ ∀ c : Int, 0 ≤ c → Q (.fz (.int c))
def FSDraws : FS := fun ds Q X => ∃ cell salt menu, ds = [.int cell, .int salt, .lst (menu.map D.int)] ∧ 0 ≤ cell ∧ salt.natAbs < 100000 ∧ menu.length ≤ 1000 ∧ (∀ m ∈ menu, 0 < m ∧ m < 2 ^ 1000) ∧ ∀ out, Inm menu out → Q (.own (out.map D.int))
/-- any result that stands for d -/
def Any (Q : QR) (d : D) : Prop := ∀ r : R, r.d = d → Q r
/-- a list of numbers -/
def intsD (xs : List Int) : D := .lst (xs.map D.int)
def rgI (lo : Int) (n : Nat) : List Int := (List.range n).map fun (i : Nat) => lo + (i : Int)
/-- both sides one plain thing -/
def okN : Nat → D → Prop
  | 0, _ => False
  | n + 1, d => match d with
    | .non => True
    | .bl _ => True
    | .int _ => True
    | .str x => (x.cps.all fun c => decide (c < 1114112)) = true
    | .lst xs => (∀ x ∈ xs, okN n x) ∧ xs.length ≤ 16000000
    | .tup xs => (∀ x ∈ xs, okN n x) ∧ xs.length ≤ 16000000
    | _ => False
def FSSame (n : Nat) : FS := fun ds Q X => ∃ d, ds = [d, d] ∧ okN n d ∧ Q (.fz (.bl true))
def FSIsInt : FS := fun ds Q X => ∃ i, ds = [.int i] ∧ Q (.fz (.bl true))
end VL
end
section
set_option linter.all false
set_option maxRecDepth 100000
set_option maxHeartbeats 4000000
/-! VLk: plain lemmas that the laws share. -/
namespace VL
open PySem
theorem Sz.mono {m n : Nat} {i : Int} (h : Sz m i) (l : m ≤ n) : Sz n i := Nat.lt_of_lt_of_le h (Nat.pow_le_pow_right (by decide) l)
theorem Sz.log {n : Nat} {i : Int} (h : Sz n i) : i.natAbs.log2 ≤ n := by
  by_cases h0 : i.natAbs = 0
  · rw [h0]; simp
  · have := (Nat.log2_lt h0).mpr h
    omega
theorem Sz.mul {m n : Nat} {i j : Int} (h : Sz m i) (h' : Sz n j) : Sz (m + n) (i * j) := by
  unfold Sz at *
  rw [Int.natAbs_mul, Nat.pow_add]
  exact Nat.mul_lt_mul'' h h'
theorem Sz.add {n : Nat} {i j : Int} (h : Sz n i) (h' : Sz n j) : Sz (n + 1) (i + j) := by
  unfold Sz at *
  have := Int.natAbs_add_le i j
  rw [Nat.pow_succ]
  omega
theorem Sz.neg {n : Nat} {i : Int} (h : Sz n i) : Sz n (-i) := by
  unfold Sz at *
  rw [Int.natAbs_neg]
  exact h
theorem Sz.sub {n : Nat} {i j : Int} (h : Sz n i) (h' : Sz n j) : Sz (n + 1) (i - j) := by
  rw [Int.sub_eq_add_neg]
  exact h.add h'.neg
theorem Sz.le {n : Nat} {i j : Int} (h : Sz n i) (l : j.natAbs ≤ i.natAbs) : Sz n j := Nat.lt_of_le_of_lt l h
theorem sz_of {n : Nat} {i : Int} (h0 : 0 ≤ i) (h1 : i < 2 ^ n) : Sz n i := by
  unfold Sz
  have : ((i.natAbs : Int)) < ((2 ^ n : Nat) : Int) := by
    rw [Int.natAbs_of_nonneg h0]
    simpa using h1
  omega
theorem mul_ok {m n : Nat} {i j : Int} (h : Sz m i) (h' : Sz n j) (l : m + n < 1000000) : mulOk i j := by
  unfold mulOk
  have := h.log
  have := h'.log
  omega
theorem div_ok {n : Nat} {j : Int} (h : Sz n j) (l : n < 9000) (h0 : j ≠ 0) : divOk j := ⟨h0, by have := h.log; omega⟩
theorem fm {a b : Int} (h : 0 < b) : 0 ≤ a.fmod b ∧ a.fmod b < b := ⟨Int.fmod_nonneg_of_pos _ h, Int.fmod_lt_of_pos _ h⟩
theorem fmE {a b : Int} (h : 0 ≤ b) : a.fmod b = a % b := Int.fmod_eq_emod_of_nonneg _ h
theorem fdE {a b : Int} (h : 0 ≤ b) : a.fdiv b = a / b := Int.fdiv_eq_ediv_of_nonneg _ h
theorem s62 {i : Int} (h : -1000000000 ≤ i) (h' : i ≤ 1000000000) : small62 i := by
  unfold small62
  omega
/-! ### drawing -/
theorem use_cell {ns : List Int} {k : Int} {Q : QR} {X : QX} (k0 : 0 ≤ k) (h : ∀ c : Int, 0 ≤ c → Q (.fz (.int c))) : FSCell [.scr ns, .int k] Q X := ⟨ns, k, rfl, k0, h⟩
theorem use_draws {c s : Int} {menu : List Int} {ds : List D} {Q : QR} {X : QX} (e : ds = menu.map D.int) (c0 : 0 ≤ c) (hs : s.natAbs < 100000) (hl : menu.length ≤ 1000) (hm : ∀ m ∈ menu, 0 < m ∧ m < 2 ^ 1000) (h : ∀ out, Inm menu out → Q (.own (out.map D.int))) : FSDraws [.int c, .int s, .lst ds] Q X := ⟨c, s, menu, by rw [e], c0, hs, hl, hm, h⟩
def Inp (menu out : List Int) : Prop := ∀ (i : Nat) (m o : Int), menu[i]? = some m → out[i]? = some o → 0 ≤ o ∧ o < m
theorem Inp.push {menu out : List Int} {m o : Int} (h : Inp menu out) (e : menu[out.length]? = some m) (h0 : 0 ≤ o) (h1 : o < m) : Inp menu (out ++ [o]) := fun i m' o' em eo => by
  by_cases hi : i < out.length
  · rw [List.getElem?_append_left hi] at eo
    exact h i m' o' em eo
  · rw [List.getElem?_append_right (by omega)] at eo
    have : i = out.length := by
      by_cases hz : i - out.length = 0
      · omega
      · rw [List.getElem?_eq_none_iff.mpr (by simp; omega)] at eo
        cases eo
    subst this
    simp at eo
    subst eo
    rw [e] at em
    cases em
    exact ⟨h0, h1⟩
theorem ix_cell {ns : List Int} {k : Int} (k0 : 0 ≤ k) (hk : k < ns.length) : ixD (ns.map D.int) k = some (.int (ns[k.toNat]'(by omega))) := by
  unfold ixD ixOf
  rw [if_pos k0, List.length_map, if_pos hk]
  simp
theorem inm_at {menu out : List Int} (h : Inm menu out) {i : Nat} {m : Int} (e : menu[i]? = some m) : ∃ o, out[i]? = some o ∧ 0 ≤ o ∧ o < m := by
  have hi : i < out.length := by rw [h.1]; exact (List.getElem?_eq_some_iff.mp e).1
  exact ⟨out[i], List.getElem?_eq_getElem hi, h.2 i m _ e (List.getElem?_eq_getElem hi)⟩
/-- reading one's draws, one behind another -/
theorem Inm.cons {m : Int} {menu out : List Int} (h : Inm (m :: menu) out) : ∃ w ws, out = w :: ws ∧ (0 ≤ w ∧ w < m) ∧ Inm menu ws := by
  obtain ⟨hl, hi⟩ := h
  cases out with
  | nil => simp at hl
  | cons w ws => exact ⟨w, ws, rfl, hi 0 m w rfl rfl, by simpa using hl, fun i a b e1 e2 => hi (i + 1) a b (by simpa using e1) (by simpa using e2)⟩
theorem Inm.nil {out : List Int} (h : Inm [] out) : out = [] := List.eq_nil_of_length_eq_zero h.1
/-! ### comprehensions -/
theorem intsOf_map : ∀ is : List Int, intsOf (is.map D.int) = some is
  | [] => rfl
  | i :: is => by
    rw [List.map_cons]
    unfold intsOf
    rw [intsOf_map is]
theorem blsOf_map : ∀ is : List Bool, blsOf (is.map D.bl) = some is
  | [] => rfl
  | i :: is => by
    rw [List.map_cons]
    unfold blsOf
    rw [blsOf_map is]
theorem intsFrom_rg (lo : Int) (n : Nat) : intsFrom lo n = (rgI lo n).map D.int := by
  unfold intsFrom rgI
  rw [List.map_map]
  rfl
theorem mem_rg {lo x : Int} {n : Nat} : x ∈ rgI lo n ↔ lo ≤ x ∧ x < lo + n := by
  unfold rgI
  rw [List.mem_map]
  constructor
  · rintro ⟨i, hi, rfl⟩
    have := List.mem_range.mp hi
    omega
  · intro h
    exact ⟨(x - lo).toNat, List.mem_range.mpr (by omega), by omega⟩
theorem rg_len (lo : Int) (n : Nat) : (rgI lo n).length = n := by unfold rgI; simp
theorem rg_sorted (lo : Int) (n : Nat) : (rgI lo n).Pairwise (· < ·) := by
  unfold rgI
  rw [List.pairwise_map]
  exact List.pairwise_lt_range.imp fun h => by omega
/-- [g m for m in xs if p m], xs any data -/
theorem comp_fd {α : Type} {j : Nat} {cs : TW} {te : EW} {vs : List Nat} {xs : List α} {f : α → D} {δ : Fr} {Q : List D → Prop} (p : α → Bool) (g : α → D) (hl : xs.length ≤ 16777216)
    (hc : ∀ m ∈ xs, ∀ P : Bool → Prop, P (p m) → cs ((δ.wipe vs).set j (some (.fz (f m)))) P (fun _ => False))
    (he : ∀ m ∈ xs, p m = true → ∀ R' : QR, Any R' (g m) → te ((δ.wipe vs).set j (some (.fz (f m)))) R' (fun _ => False))
    (q : Q ((xs.filter p).map g)) : compI (.nm j) cs te vs (xs.map f) δ Q := by
  refine ⟨fun i acc => acc = ((xs.take i).filter p).map g, by simp, fun i d acc e w => ?_, fun acc w => ?_⟩
  · rw [List.getElem?_map] at e
    cases e1 : xs[i]? with
    | none => rw [e1] at e; cases e
    | some m =>
      rw [e1] at e
      cases e
      have hm := List.mem_of_getElem? e1
      have hi := (List.getElem?_eq_some_iff.mp e1).1
      have et : xs.take (i + 1) = xs.take i ++ [m] := by
        rw [List.take_succ, e1]
        rfl
      have hlen : acc.length < 16777216 := by
        rw [w, List.length_map]
        have h1 := List.length_filter_le p (xs.take i)
        rw [List.length_take] at h1
        omega
      show cs _ _ _
      refine hc m hm _ ?_
      cases hp : p m with
      | true =>
        rw [if_pos rfl]
        refine he m hm hp _ fun r hr => ⟨hlen, ?_⟩
        show acc ++ [r.d] = ((xs.take (i + 1)).filter p).map g
        rw [w, et, List.filter_append, List.map_append, hr]
        simp [hp]
      | false =>
        simp only [Bool.false_eq_true, if_false]
        show acc = ((xs.take (i + 1)).filter p).map g
        rw [w, et, List.filter_append, List.map_append]
        simp [hp]
  · rw [w, List.length_map, List.take_length]
    exact q
theorem comp_fm {j : Nat} {cs : TW} {te : EW} {vs : List Nat} {is : List Int} {δ : Fr} {Q : List D → Prop} (p : Int → Bool) (g : Int → D) (hl : is.length ≤ 16777216)
    (hc : ∀ m ∈ is, ∀ P : Bool → Prop, P (p m) → cs ((δ.wipe vs).set j (some (.fz (.int m)))) P (fun _ => False))
    (he : ∀ m ∈ is, p m = true → ∀ R' : QR, Any R' (g m) → te ((δ.wipe vs).set j (some (.fz (.int m)))) R' (fun _ => False))
    (q : Q ((is.filter p).map g)) : compI (.nm j) cs te vs (is.map D.int) δ Q := comp_fd p g hl hc he q
/-- no if -/
theorem comp_m {α : Type} {j : Nat} {te : EW} {vs : List Nat} {xs : List α} {f : α → D} {δ : Fr} {Q : List D → Prop} (g : α → D) (hl : xs.length ≤ 16777216)
    (he : ∀ m ∈ xs, ∀ R' : QR, Any R' (g m) → te ((δ.wipe vs).set j (some (.fz (f m)))) R' (fun _ => False))
    (q : Q (xs.map g)) : compI (.nm j) cYes te vs (xs.map f) δ Q :=
  comp_fd (fun _ => true) g hl (fun m hm P hp => hp) (fun m hm _ => he m hm) (by rw [List.filter_eq_self.mpr (by simp)]; exact q)
theorem x_lc {g : Tg} {ti : IW} {cs : TW} {te : EW} {vs : List Nat} {δ : Fr} {Q : QR} {X : QX} : wLc g ti cs te vs δ Q X = ti δ (fun items => compI g cs te vs items δ (fun acc => Q (.own acc))) X := rfl
@[simp] theorem x_raiseF {c n : Nat} {b : Bool} {ta : AW} {k : Ko} {δ : Fr} : sRaiseF c b n ta k δ = ta δ (fun ds => (ds.length = n ∧ (b = true → ∃ y : Str, ds[0]? = some (.str y) ∧ y.length ≤ 1000)) ∧ k.xq ⟨c, ds⟩ δ) (fun x => k.xq x δ) := rfl
@[simp] theorem x_lenSet {u : BW} {δ : Fr} {Q : QR} {X : QX} : wLenSet u δ Q X = u δ (fun d => match d with
  | .lst xs => (match intsOf xs with
    | some is => is.length ≤ 4000 ∧ Q (.fz (.int ((ddup is).length : Int)))
    | none => False)
  | _ => False) X := rfl
@[simp] theorem x_listRg1 {t : EW} {δ : Fr} {Q : QR} {X : QX} : wListRg1 t δ Q X = t δ (fun r => match r.d with
  | .int n => (small62 n ∧ small24 n) ∧ Q (.own (intsFrom 0 n.toNat))
  | _ => False) X := rfl
@[simp] theorem x_callS {sp : FS} {dv : List D} {ta : AW} {δ : Fr} {Q : QR} {X : QX} : wCallS sp dv ta δ Q X = ta δ (fun ds => sp (ds ++ dv) (fun r => match r with
  | .fz d => d.atom = true ∧ Q (.fz d)
  | _ => False) (fun _ => False)) X := rfl
@[simp] theorem x_xf {i : Nat} {tb : List (Nat × Nat)} {δ : Fr} {Q : QR} {X : QX} : wXf i tb δ Q X = (match δ[i]? with
  | some (some (.exc c xs)) => (match tb.lookup c with
    | some j => (match xs[j]? with
      | some d => Q (.fz d)
      | none => False)
    | none => False)
  | _ => False) := rfl
@[simp] theorem x_sl {u : BW} {lo hi : OW} {δ : Fr} {Q : QR} {X : QX} : wSl u lo hi δ Q X = u δ (fun d => lo δ (fun a => hi δ (fun b => match d with
  | .lst xs => Q (.own (cutD xs a b))
  | .tup xs => Q (.fz (.tup (cutD xs a b)))
  | .str z => z.length ≤ 16777216 ∧ Q (.fz (.str (cutT z a b)))
  | _ => False) X) X) X := rfl
@[simp] theorem x_oNone {δ : Fr} {P : Option Int → Prop} {X : QX} : oNone δ P X = P none := rfl
@[simp] theorem x_oSome {t : EW} {δ : Fr} {P : Option Int → Prop} {X : QX} : oSome t δ P X = t δ (fun r => match r.d with
  | .int i => P (some i)
  | _ => False) X := rfl
@[simp] theorem x_bSorted {is : List Int} {Q : QR} : bSorted [.lst (is.map D.int)] Q = ∀ os : List Int, os.Perm is → os.Pairwise (· ≤ ·) → Q (.own (os.map D.int)) := by
  unfold bSorted
  simp only [intsOf_map]
@[simp] theorem x_bList {xs : List D} {Q : QR} : bList [.lst xs] Q = Q (.own xs) := rfl
@[simp] theorem x_ltF_i {a b : Int} {Q : QR} {X : QX} : opLtF (.int a) (.int b) Q X = Q (.fz (.bl (decide (a < b)))) := rfl
@[simp] theorem x_ltF_l {a b : List Int} {Q : QR} {X : QX} : opLtF (.lst (a.map D.int)) (.lst (b.map D.int)) Q X = Q (.fz (.bl (lexI a b))) := by
  unfold opLtF
  simp only [intsOf_map]
@[simp] theorem x_bMin2 {a b : Int} {Q : QR} : bMin2 [.int a, .int b] Q = Q (.fz (.int (if b < a then b else a))) := rfl
@[simp] theorem x_setIx {i : Nat} {tj te : EW} {k : Ko} {δ : Fr} {xs : List D} (h : δ[i]? = some (some (.own xs))) : sSetIx i tj te k δ = te δ (fun r => tj δ (fun s => match s.d with
    | .int n => (match ixOf xs.length n with
      | some j => k.nx (δ.set i (some (.own (xs.set j r.d))))
      | none => False)
    | _ => False) (fun x => k.xq x δ)) (fun x => k.xq x δ) := by
  unfold sSetIx
  rw [h] <;> rfl
@[simp] theorem x_cYes {δ : Fr} {P : Bool → Prop} {X : QX} : cYes δ P X = P true := rfl
/-- for m in xs -/
theorem loop_fd {α : Type} {j : Nat} {tb : SW} {xs : List α} {f : α → D} {k : Ko} {δ : Fr} (W : Nat → Fr → Prop) (h0 : W 0 δ)
    (hs : ∀ (i : Nat) (m : α) δ', xs[i]? = some m → W i δ' → tb { k with nx := W (i + 1), ct := W (i + 1), bk := k.nx } (δ'.set j (some (.fz (f m))))) (hd : ∀ δ', W xs.length δ' → k.nx δ') : loopI (.nm j) tb (xs.map f) k δ := by
  refine ⟨W, h0, fun i d δ' e w => ?_, fun δ' w => hd δ' (by rw [List.length_map] at w; exact w)⟩
  rw [List.getElem?_map] at e
  cases e1 : xs[i]? with
  | none => rw [e1] at e; cases e
  | some m =>
    rw [e1] at e
    cases e
    exact hs i m δ' e1 w
theorem ixD_map {α : Type} {xs : List α} {f : α → D} {i : Nat} {m : α} (h : xs[i]? = some m) : ixD (xs.map f) (i : Int) = some (f m) := by
  have hi := (List.getElem?_eq_some_iff.mp h).1
  unfold ixD ixOf
  rw [if_pos (by omega), List.length_map, if_pos (by omega)]
  simp [h]
/-! ### data -/
theorem eqv_ints : ∀ (a b : List Int), D.eqvs (a.map D.int) (b.map D.int) = decide (a = b)
  | [], [] => rfl
  | [], y :: ys => rfl
  | x :: xs, [] => rfl
  | x :: xs, y :: ys => by
    rw [List.map_cons, List.map_cons]
    unfold D.eqvs D.eqv
    rw [eqv_ints xs ys]
    by_cases h : x = y
    · by_cases h2 : xs = ys
      · simp [h, h2]
      · simp [h, h2]
    · simp [h]
theorem flats_ints : ∀ a : List Int, D.flats (a.map D.int) = true
  | [] => rfl
  | x :: xs => by
    rw [List.map_cons]
    unfold D.flats D.flat
    rw [flats_ints xs]
    rfl
theorem deps_ints : ∀ a : List Int, D.deps (a.map D.int) = 0
  | [] => rfl
  | x :: xs => by
    rw [List.map_cons]
    unfold D.deps D.dep
    rw [deps_ints xs]
    rfl
theorem eq_ints {dn : Dun} {a b : List Int} {Q : QR} {X : QX} : opEq dn (.lst (a.map D.int)) (.lst (b.map D.int)) Q X = Q (.fz (.bl (decide (a = b)))) := by
  unfold opEq
  simp [D.flat, D.dep, D.eqv, eqv_ints, flats_ints, deps_ints]
theorem memD_ints (x : Int) (a : List Int) : memD (.int x) (a.map D.int) = decide (x ∈ a) := by
  unfold memD
  rw [List.any_map]
  induction a with
  | nil => rfl
  | cons y ys ih =>
    rw [List.any_cons, ih]
    by_cases h : x = y
    · simp [h, D.eqv]
    · have h' : ¬ y = x := fun e => h e.symm
      simp [h, h', D.eqv]
theorem atoms_ints (a : List Int) : (a.map D.int).all D.atom = true := by
  rw [List.all_map]
  exact List.all_eq_true.mpr fun x _ => rfl
theorem in_ints {dn : Dun} {x : Int} {a : List Int} {Q : QR} {X : QX} : opIn dn (.int x) (.lst (a.map D.int)) Q X = Q (.fz (.bl (decide (x ∈ a)))) := by
  unfold opIn
  simp only [memD_ints, atoms_ints]
  simp [D.atom]
theorem okN_mono {n : Nat} : ∀ {d : D}, okN n d → okN (n + 1) d := by
  induction n with
  | zero => exact fun h => h.elim
  | succ n ih =>
    intro d h
    cases d with
    | lst xs => exact ⟨fun x hx => ih (h.1 x hx), h.2⟩
    | tup xs => exact ⟨fun x hx => ih (h.1 x hx), h.2⟩
    | _ => exact h
theorem okN_ints {n : Nat} {a : List Int} (h : a.length ≤ 16000000) : okN (n + 2) (.lst (a.map D.int)) := ⟨fun x hx => by
  obtain ⟨i, _, rfl⟩ := List.mem_map.mp hx
  trivial, by rw [List.length_map]; exact h⟩
end VL
end
section
set_option linter.all false
set_option maxRecDepth 100000
set_option maxHeartbeats 0
namespace VL
open PySem
def ct_BadNumber : Nat → Option Bool
  | 1 => some false
  | 2 => some true
  | 3 => some false
  | 4 => some false
  | 5 => some false
  | 6 => some false
  | 7 => some false
  | 8 => some false
  | _ => none
def ct_RepeatedHour : Nat → Option Bool
  | 1 => some false
  | 2 => some false
  | 3 => some true
  | 4 => some false
  | 5 => some false
  | 6 => some false
  | 7 => some false
  | 8 => some false
  | _ => none
def ct_WatchError : Nat → Option Bool
  | 1 => some true
  | 2 => some true
  | 3 => some true
  | 4 => some true
  | 5 => some true
  | 6 => some true
  | 7 => some true
  | 8 => some true
  | _ => none
def ix_ValueError : Nat → Option Bool
  | 1 => some true
  | 2 => some true
  | 3 => some true
  | 4 => some true
  | 5 => some true
  | 6 => some true
  | 7 => some true
  | 8 => some true
  | _ => none
def ix_BadNumber : Nat → Option Bool
  | 1 => some false
  | 2 => some true
  | 3 => some false
  | 4 => some false
  | 5 => some false
  | 6 => some false
  | 7 => some false
  | 8 => some false
  | _ => none
def ix_RepeatedHour : Nat → Option Bool
  | 1 => some false
  | 2 => some false
  | 3 => some true
  | 4 => some false
  | 5 => some false
  | 6 => some false
  | 7 => some false
  | 8 => some false
  | _ => none
def ix_Meets : Nat → Option Bool
  | 1 => some false
  | 2 => some false
  | 3 => some false
  | 4 => some true
  | 5 => some false
  | 6 => some false
  | 7 => some false
  | 8 => some false
  | _ => none
def ix_Refused : Nat → Option Bool
  | 1 => some false
  | 2 => some false
  | 3 => some false
  | 4 => some false
  | 5 => some false
  | 6 => some false
  | 7 => some false
  | 8 => some true
  | _ => none
def ix_OtherHours : Nat → Option Bool
  | 1 => some false
  | 2 => some false
  | 3 => some false
  | 4 => some false
  | 5 => some true
  | 6 => some false
  | 7 => some false
  | 8 => some false
  | _ => none
def ix_OtherHouse : Nat → Option Bool
  | 1 => some false
  | 2 => some false
  | 3 => some false
  | 4 => some false
  | 5 => some false
  | 6 => some true
  | 7 => some false
  | 8 => some false
  | _ => none
def ix_NotADivisor : Nat → Option Bool
  | 1 => some false
  | 2 => some false
  | 3 => some false
  | 4 => some false
  | 5 => some false
  | 6 => some false
  | 7 => some true
  | 8 => some false
  | _ => none
/-! ### the specs -/
/-- the hours of a ring; a set of hours, ascending -/
def Rng (n : Int) : Prop := 1 ≤ n ∧ n ≤ 360
def SetL (n : Int) (ms : List Int) : Prop := ms.Pairwise (· < ·) ∧ ∀ m ∈ ms, 0 ≤ m ∧ m < n
/-- the hours with p -/
def sel (n : Int) (p : Int → Bool) : List Int := (rgI 0 n.toNat).filter p
def tn (n : Int) (ms : List Int) (b : Int) : List Int := sel n fun x => decide ((x - b) % n ∈ ms)
def ngL (n : Int) (ms : List Int) : List Int := sel n fun x => decide ((0 - x) % n ∈ ms)
def inL (n : Int) (ms : List Int) : List Int := sel n fun x => decide (x ∉ ms)
def orL (n : Int) (a b : List Int) : List Int := sel n fun x => decide (x ∈ a) || decide (x ∈ b)
def andL (a b : List Int) : List Int := a.filter fun x => decide (x ∈ b)
def lotD (n : Int) (ms : List Int) : D := .obj 0 [.int n, intsD ms]
def red (n : Int) (vs : List Int) : List Int := vs.map fun m => m % n
def badH (n : Int) : List D := [.str "hours", .int n]
/-- the first one that was there before -/
def FirstRep (rs : List Int) (x : Int) : Prop := ∃ k : Nat, rs[k]? = some x ∧ x ∈ rs.take k ∧ ∀ j : Nat, j < k → ∀ y, rs[j]? = some y → y ∉ rs.take j
def sp_hours_checked : FS := fun ds Q X => ∃ h m, ds = [.int h, .int m] ∧ (1 ≤ h ∧ h ≤ m → Q (.fz .non)) ∧ (¬ (1 ≤ h ∧ h ≤ m) → X ⟨2, badH h⟩)
def sp_rings_checked : FS := fun ds Q X => ∃ n a k b, ds = [lotD n a, lotD k b] ∧ (n = k → Q (.fz .non)) ∧ (n ≠ k → X ⟨5, []⟩)
def sp_first_repeated : FS := fun ds Q X => ∃ rs, ds = [intsD rs] ∧ rs.length ≤ 4000 ∧ ¬ rs.Nodup ∧ ∀ x, FirstRep rs x → Q (.fz (.int x))
def sp_Lot___init__ : FS := fun ds Q X => ∃ n vs, ds = [.int n, intsD vs] ∧ vs.length ≤ 4000 ∧ (¬ Rng n → X ⟨2, badH n⟩) ∧ (Rng n → (red n vs).Nodup → ∀ S, SetL n S → (∀ x, x ∈ S ↔ x ∈ red n vs) → Q (.fz (lotD n S))) ∧ (Rng n → ¬ (red n vs).Nodup → ∀ x, FirstRep (red n vs) x → X ⟨3, [.int x]⟩)
def sp_Lot_full : FS := fun ds Q X => ∃ n, ds = [.cls 0, .int n] ∧ (Rng n → Q (.fz (lotD n (rgI 0 n.toNat)))) ∧ (¬ Rng n → X ⟨2, badH n⟩)
def sp_Lot_members : FS := fun ds Q X => ∃ n ms, ds = [lotD n ms] ∧ Q (.own (ms.map D.int))
def sp_Lot___len__ : FS := fun ds Q X => ∃ n ms, ds = [lotD n ms] ∧ Q (.fz (.int (ms.length : Int)))
def sp_Lot___contains__ : FS := fun ds Q X => ∃ n ms x, ds = [lotD n ms, .int x] ∧ Rng n ∧ Q (.fz (.bl (decide (x % n ∈ ms))))
def eqLot (n : Int) (a : List Int) : D → Option Bool
  | .obj c [.int k, .lst xs] => if c = 0 then (match intsOf xs with
    | some b => some (decide (n = k) && decide (a = b))
    | none => none) else none
  | .obj _ _ => none
  | .cls _ => none
  | .scr _ => none
  | _ => some false
def sp_Lot___eq__ : FS := fun ds Q X => ∃ n a d b, ds = [lotD n a, d] ∧ eqLot n a d = some b ∧ Q (.fz (.bl b))
def sp_Lot___lshift__ : FS := fun ds Q X => ∃ n ms b, ds = [lotD n ms, .int b] ∧ Rng n ∧ SetL n ms ∧ Q (.fz (lotD n (tn n ms b)))
def sp_Lot___rshift__ : FS := fun ds Q X => ∃ n ms b, ds = [lotD n ms, .int b] ∧ Rng n ∧ SetL n ms ∧ Q (.fz (lotD n (tn n ms (-b))))
def sp_Lot___neg__ : FS := fun ds Q X => ∃ n ms, ds = [lotD n ms] ∧ Rng n ∧ SetL n ms ∧ Q (.fz (lotD n (ngL n ms)))
def sp_Lot___invert__ : FS := fun ds Q X => ∃ n ms, ds = [lotD n ms] ∧ Rng n ∧ SetL n ms ∧ Q (.fz (lotD n (inL n ms)))
def sp_Lot___or__ : FS := fun ds Q X => ∃ n a k b, ds = [lotD n a, lotD k b] ∧ Rng n ∧ SetL n a ∧ SetL k b ∧ (n = k → Q (.fz (lotD n (orL n a b)))) ∧ (n ≠ k → X ⟨5, []⟩)
def sp_Lot___and__ : FS := fun ds Q X => ∃ n a k b, ds = [lotD n a, lotD k b] ∧ Rng n ∧ SetL n a ∧ SetL k b ∧ (n = k → Q (.fz (lotD n (andL a b)))) ∧ (n ≠ k → X ⟨5, []⟩)
def sp__law_cell : FS := FSCell
def sp__law_draws : FS := FSDraws
def sp__law_is_int : FS := FSIsInt
def sp__law_same_n : Nat → FS
  | 0 => fun _ _ _ => False
  | n + 1 => FSSame (n + 1)
def sp__law_same : FS := sp__law_same_n 2
def sp__law_digits : FS := fun ds Q X => ∃ c s, ds = [.int c, .int s] ∧ 0 ≤ c ∧ s.natAbs < 100000 ∧ ∀ n : Int, 0 ≤ n → n < 10 ^ 60 → Q (.fz (.int n))
def zz (z : Int) : Int := if z % 2 = 1 then 0 - (z + 1) / 2 else z / 2
def sp__law_zigzag : FS := fun ds Q X => ∃ z, ds = [.int z] ∧ 0 ≤ z ∧ Q (.fz (.int (zz z)))
/-- some set of hours -/
def AnySet (n : Int) (Q : QR) : Prop := ∀ ms, SetL n ms → Any Q (intsD ms)
def sp__law_bits : FS := fun ds Q X => ∃ z, ds = [.int 25, .int z] ∧ AnySet 25 Q
def sp__law_subset : FS := fun ds Q X => ∃ c s n, ds = [.int c, .int s, .int n] ∧ 0 ≤ c ∧ s.natAbs < 100000 ∧ Rng n ∧ AnySet n Q
def sp__law_hours : FS := fun ds Q X => ∃ ns, ds = [.scr ns] ∧ ∀ h : Int, Q (.fz (.int h))
def sp__law_values : FS := fun ds Q X => ∃ ns n, ds = [.scr ns, .int n] ∧ Rng n ∧ ∀ vs : List Int, vs.length ≤ 400 → Any Q (intsD vs)
def sp__law_first_repeated : FS := fun ds Q X => ∃ rs, ds = [intsD rs] ∧ rs.length ≤ 4000 ∧ (rs.Nodup → Q (.fz (.int (-1)))) ∧ (¬ rs.Nodup → ∀ x, FirstRep rs x → Q (.fz (.int x)))
def sp__law_told_lot : FS := fun ds Q X => ∃ n vs, ds = [.int n, intsD vs] ∧ vs.length ≤ 4000 ∧ (¬ Rng n → Q (.fz (.tup (.str "BadNumber" :: badH n)))) ∧ (Rng n → (red n vs).Nodup → ∀ S, SetL n S → (∀ x, x ∈ S ↔ x ∈ red n vs) → Q (.fz (lotD n S))) ∧ (Rng n → ¬ (red n vs).Nodup → ∀ x, FirstRep (red n vs) x → Q (.fz (.tup [.str "RepeatedHour", .int x])))
def sp__law_told_full : FS := fun ds Q X => ∃ n, ds = [.int n] ∧ ¬ Rng n ∧ Q (.fz (.tup (.str "BadNumber" :: badH n)))
def blsD (l : List Bool) : D := .lst (l.map D.bl)
def sp__law_kinds : FS := fun ds Q X => ∃ n vs, ds = [.int n, intsD vs] ∧ vs.length ≤ 4000 ∧ (¬ Rng n → Any Q (blsD [true, true, false, false, false])) ∧ (Rng n → ¬ (red n vs).Nodup → Any Q (blsD [true, false, true, false, false])) ∧ ¬ (Rng n ∧ (red n vs).Nodup)
def sp__law_is_lot : FS := fun ds Q X => ∃ n ms, ds = [lotD n ms, .int n, intsD ms] ∧ ms.length ≤ 4000 ∧ Q (.fz (.bl true))
def sp__law_equalities : FS := fun ds Q X => ∃ n ms, ds = [lotD n ms, .int n, intsD ms] ∧ Rng n ∧ SetL n ms ∧ Q (.fz (.bl true))
def sp__law_membership : FS := fun ds Q X => ∃ n ms far, ds = [lotD n ms, .int n, intsD ms, .int far] ∧ Rng n ∧ SetL n ms ∧ Sz 300 far ∧ Q (.fz (.bl true))
def sp__law_part_a : FS := fun ds Q X => ∃ ns, ds = [.scr ns] ∧ Q (.fz (.bl true))
def sp__law_drawn_lot : FS := fun ds Q X => ∃ c s n way, ds = [.int c, .int s, .int n, .int way] ∧ 0 ≤ c ∧ s.natAbs < 100000 ∧ Rng n ∧ AnySet n Q
def sp__law_other_ring : FS := fun ds Q X => ∃ n way, ds = [.int n, .int way] ∧ Rng n ∧ ∀ k, Rng k → Q (.fz (.int k))
def sp__law_turn : FS := fun ds Q X => ∃ ns n way sign, ds = [.scr ns, .int n, .int way, .int sign] ∧ 0 ≤ way ∧ ∀ b : Int, Q (.fz (.int b))
def sp__law_is_lot_b : FS := fun ds Q X => ∃ n ms, ds = [lotD n ms, .int n, intsD ms] ∧ ms.length ≤ 4000 ∧ Q (.fz (.bl true))
def sp__law_moved : FS := fun ds Q X => ∃ n ms b, ds = [lotD n ms, .int n, intsD ms, .int b] ∧ Rng n ∧ SetL n ms ∧ Q (.fz (.bl true))
def sp__law_joined : FS := fun ds Q X => ∃ n a b, ds = [lotD n a, lotD n b, .int n, intsD a, intsD b] ∧ Rng n ∧ SetL n a ∧ SetL n b ∧ Q (.fz (.bl true))
def sp__law_kept_apart : FS := fun ds Q X => ∃ n a k b way, ds = [lotD n a, lotD k b, .int way] ∧ Rng n ∧ SetL n a ∧ SetL k b ∧ n ≠ k ∧ Q (.fz (.bl true))
def sp__law_part_b : FS := fun ds Q X => ∃ ns, ds = [.scr ns] ∧ Q (.fz (.bl true))
def sp_law : FS := fun ds Q X => ∃ ns, ds = [.scr ns] ∧ Q (.fz (.bl true))

def dnN : Dun := fun _ _ => none
def dnL : Dun
  | 0, .len => some sp_Lot___len__
  | 0, .eq => some sp_Lot___eq__
  | 0, .lsh => some sp_Lot___lshift__
  | 0, .rsh => some sp_Lot___rshift__
  | 0, .neg => some sp_Lot___neg__
  | 0, .inv => some sp_Lot___invert__
  | 0, .bor => some sp_Lot___or__
  | 0, .band => some sp_Lot___and__
  | 0, .contains => some sp_Lot___contains__
  | _, _ => none
@[simp] theorem dnL_Lot___len__ : dnL 0 .len = some sp_Lot___len__ := rfl
@[simp] theorem dnL_Lot___eq__ : dnL 0 .eq = some sp_Lot___eq__ := rfl
@[simp] theorem dnL_Lot___lshift__ : dnL 0 .lsh = some sp_Lot___lshift__ := rfl
@[simp] theorem dnL_Lot___rshift__ : dnL 0 .rsh = some sp_Lot___rshift__ := rfl
@[simp] theorem dnL_Lot___neg__ : dnL 0 .neg = some sp_Lot___neg__ := rfl
@[simp] theorem dnL_Lot___invert__ : dnL 0 .inv = some sp_Lot___invert__ := rfl
@[simp] theorem dnL_Lot___or__ : dnL 0 .bor = some sp_Lot___or__ := rfl
@[simp] theorem dnL_Lot___and__ : dnL 0 .band = some sp_Lot___and__ := rfl
@[simp] theorem dnL_Lot___contains__ : dnL 0 .contains = some sp_Lot___contains__ := rfl
/-! ### the readings -/
def t_hours_checked : SW := sIf (cNot (cBl (wChain (opLe dnN) (opLe dnN) (wLit (.int 1)) (wVar 0) (wVar 1)))) (sRaiseF 2 true 2 (aCons (wLit (.str "hours")) (aCons (wVar 0) (aNil)))) (sNext)
def t_rings_checked : SW := sIf (cBl (wBin (opNe dnN) (wFld [(0, 0)] (bVar 0)) (wFld [(0, 0)] (bVar 1)))) (sRaise 5 aNil) (sNext)
def t_first_repeated : SW := sSeq (sFor (.nm 1) (iRng2 (wLit (.int 1)) (wBlt (bLen dnN) (aConsR (lVar 0) (aNil))))
  (sIf (cBl (wBin (opIn dnN) (wBinB opIx (lVar 0) (bOf (wVar 1))) (wSl (lVar 0) oNone (oSome (wVar 1))))) (sRet (wBinB opIx (lVar 0) (bOf (wVar 1)))) (sNext)))
  (sRet (wLit .non))
def t_Lot___init__ : SW := sSeq (sDrop (wCall sp_hours_checked [] (aCons (wVar 1) (aCons (wCon [(0, .int 360)] (bVar 0)) (aNil)))))
  (sSeq (sSet 3 (wLc (.nm 4) (iName 2) (cYes) (wBin (opMod dnN) (wVar 4) (wVar 1)) [4]))
  (sSeq (sIf (cBl (wBin (opLt dnN) (wLenSet (lVar 3)) (wBlt (bLen dnN) (aConsR (lVar 3) (aNil))))) (sRaiseF 3 false 1 (aCons (wCall sp_first_repeated [] (aCons (wVar 3) (aNil))) (aNil))) (sNext))
  (sSeq (sFldI 0 0 0 (wVar 1))
  (sFldI 0 0 1 (wBlt (bSorted) (aConsR (bOf (wLc (.nm 5) (iSeq (wVar 3)) (cYes) (wBlt (bInt) (aConsR (lVar 5) (aNil))) [5])) (aNil)))))))
def t_Lot_full : SW := sSeq (sDrop (wCall sp_hours_checked [] (aCons (wVar 1) (aCons (wClsCon [(0, .int 360)] (wVar 0)) (aNil)))))
  (sRet (wMakeV 0 0 sp_Lot___init__ [] (aCons (wVar 1) (aConsB (bOf (wListRg1 (wVar 1))) (aNil)))))
def t_Lot_members : SW := sRet (wBlt (bList) (aConsR (bOf (wFld [(0, 1)] (bVar 0))) (aNil)))
def t_Lot___len__ : SW := sRet (wBlt (bLen dnN) (aConsR (bOf (wFld [(0, 1)] (bVar 0))) (aNil)))
def t_Lot___contains__ : SW := sRet (wBin (opIn dnN) (wBin (opMod dnN) (wVar 1) (wFld [(0, 0)] (bVar 0))) (wFld [(0, 1)] (bVar 0)))
def t_Lot___eq__ : SW := sRet (wAnd (wIsC 0 (lVar 1)) (wAnd (wBin (opEq dnN) (wFld [(0, 0)] (bVar 0)) (wFld [(0, 0)] (bVar 1))) (wBin (opEq dnN) (wFld [(0, 1)] (bVar 0)) (wFld [(0, 1)] (bVar 1)))))
def t_Lot___lshift__ : SW := sRet (wCall sp_Lot___init__ [] (aCons (wFld [(0, 0)] (bVar 0)) (aConsB (bOf (wLc (.nm 2) (iSeq (wFld [(0, 1)] (bVar 0))) (cYes) (wBin (opAdd dnN) (wVar 2) (wVar 1)) [2])) (aNil))))
def t_Lot___rshift__ : SW := sRet (wCall sp_Lot___init__ [] (aCons (wFld [(0, 0)] (bVar 0)) (aConsB (bOf (wLc (.nm 2) (iSeq (wFld [(0, 1)] (bVar 0))) (cYes) (wBin (opSub dnN) (wVar 2) (wVar 1)) [2])) (aNil))))
def t_Lot___neg__ : SW := sRet (wCall sp_Lot___init__ [] (aCons (wFld [(0, 0)] (bVar 0)) (aConsB (bOf (wLc (.nm 1) (iSeq (wFld [(0, 1)] (bVar 0))) (cYes) (wUn (opNeg dnN) (wVar 1)) [1])) (aNil))))
def t_Lot___invert__ : SW := sRet (wCall sp_Lot___init__ [] (aCons (wFld [(0, 0)] (bVar 0)) (aConsB (bOf (wLc (.nm 1) (iRng1 (wFld [(0, 0)] (bVar 0))) (cBl (wBin (opNotIn dnN) (wVar 1) (wFld [(0, 1)] (bVar 0)))) (wVar 1) [1])) (aNil))))
def t_Lot___or__ : SW := sSeq (sDrop (wCall sp_rings_checked [] (aCons (wVar 0) (aCons (wVar 1) (aNil)))))
  (sRet (wCall sp_Lot___init__ [] (aCons (wFld [(0, 0)] (bVar 0)) (aConsB (bOf (wBin (opAdd dnN) (wFld [(0, 1)] (bVar 0)) (wLc (.nm 2) (iSeq (wFld [(0, 1)] (bVar 1))) (cBl (wBin (opNotIn dnN) (wVar 2) (wFld [(0, 1)] (bVar 0)))) (wVar 2) [2]))) (aNil)))))
def t_Lot___and__ : SW := sSeq (sDrop (wCall sp_rings_checked [] (aCons (wVar 0) (aCons (wVar 1) (aNil)))))
  (sRet (wCall sp_Lot___init__ [] (aCons (wFld [(0, 0)] (bVar 0)) (aConsB (bOf (wLc (.nm 2) (iSeq (wFld [(0, 1)] (bVar 0))) (cBl (wBin (opIn dnN) (wVar 2) (wFld [(0, 1)] (bVar 1)))) (wVar 2) [2])) (aNil)))))
def t__law_cell : SW := sSeq (sIf (cBl (wBin (opLt dnL) (wVar 1) (wBlt (bLen dnL) (aConsR (lVar 0) (aNil))))) (sRet (wBlt (bAbs dnL) (aConsR (bOf (wBinB opIx (lVar 0) (bOf (wVar 1)))) (aNil)))) (sNext))
  (sRet (wLit (.int 0)))
def t__law_draws : SW := sSeq (sOwn 3 (wLst (aNil)))
  (sSeq (sSet 4 (wBin (opSub dnL) (wVar 0) (wBin (opPow dnL) (wLit (.int 10)) (wLit (.int 18)))))
  (sSeq (sSet 5 (wBin (opAdd dnL) (wVar 0) (wBin (opMul dnL) (wLit (.int 7919)) (wVar 1))))
  (sSeq (sFor (.nm 6) (iRng1 (wBlt (bLen dnL) (aConsR (lVar 2) (aNil))))
  (sIf (cBl (wBin (opGe dnL) (wVar 4) (wLit (.int 0)))) (sSeq (sMeth 3 mAppend (aCons (wBin (opMod dnL) (wBlt (bInt) (aConsR (lVar 4) (aNil))) (wBinB opIx (lVar 2) (bOf (wVar 6)))) (aNil)))
  (sSet 4 (wBin (opFdiv dnL) (wVar 4) (wBinB opIx (lVar 2) (bOf (wVar 6)))))) (sSeq (sSet 5 (wBin (opMod dnL) (wBlt (bInt) (aConsR (bOf (wBin (opAdd dnL) (wBin (opAdd dnL) (wBin (opMul dnL) (wVar 5) (wVar 5)) (wBin (opMul dnL) (wLit (.int 3571)) (wBin (opAdd dnL) (wVar 6) (wLit (.int 1))))) (wLit (.int 40692)))) (aNil))) (wLit (.int 2147483399))))
  (sSeq (sSet 5 (wBin (opMod dnL) (wBlt (bInt) (aConsR (bOf (wBin (opAdd dnL) (wBin (opMul dnL) (wVar 5) (wVar 5)) (wBin (opFdiv dnL) (wVar 5) (wLit (.int 97))))) (aNil))) (wLit (.int 2147483629))))
  (sMeth 3 mAppend (aCons (wBin (opMod dnL) (wBlt (bInt) (aConsR (bOf (wBin (opFdiv dnL) (wVar 5) (wLit (.int 8)))) (aNil))) (wBinB opIx (lVar 2) (bOf (wVar 6)))) (aNil)))))))
  (sRetO 3))))
def t__law_is_int : SW := sRet (wAnd (wIsT .int (lVar 0)) (wNot (wIsT .bool (lVar 0))))
def t__law_same (sp : FS) : SW := sSeq (sIf (cBl (wBinB opIs (bVar 1) (bOf (wLit .non)))) (sRet (wBinB opIs (bVar 0) (bOf (wLit .non)))) (sNext))
  (sSeq (sIf (cBl (wBinB opIs (bVar 1) (bOf (wLit (.bl true))))) (sRet (wBinB opIs (bVar 0) (bOf (wLit (.bl true))))) (sNext))
  (sSeq (sIf (cBl (wBinB opIs (bVar 1) (bOf (wLit (.bl false))))) (sRet (wBinB opIs (bVar 0) (bOf (wLit (.bl false))))) (sNext))
  (sSeq (sIf (cOfB (bOf (wIsT .int (lVar 1)))) (sRet (wAnd (wCall sp__law_is_int [] (aCons (wVar 0) (aNil))) (wBin (opEq dnL) (wVar 0) (wVar 1)))) (sNext))
  (sSeq (sIf (cOfB (bOf (wIsT .str (lVar 1)))) (sRet (wAnd (wIsT .str (lVar 0)) (wBin (opEq dnL) (wVar 0) (wVar 1)))) (sNext))
  (sSeq (sIf (cOfB (bOf (wIsT .tuple (lVar 1)))) (sIf (cOr (cNot (cOfB (bOf (wIsT .tuple (lVar 0))))) (cBl (wBin (opNe dnL) (wBlt (bLen dnL) (aConsR (lVar 0) (aNil))) (wBlt (bLen dnL) (aConsR (lVar 1) (aNil)))))) (sRet (wLit (.bl false))) (sNext)) (sIf (cOr (cNot (cOfB (bOf (wIsT .list (lVar 0))))) (cBl (wBin (opNe dnL) (wBlt (bLen dnL) (aConsR (lVar 0) (aNil))) (wBlt (bLen dnL) (aConsR (lVar 1) (aNil)))))) (sRet (wLit (.bl false))) (sNext)))
  (sSeq (sFor (.nm 2) (iRng1 (wBlt (bLen dnL) (aConsR (lVar 1) (aNil))))
  (sIf (cNot (cOfB (bOf (wCall sp [] (aCons (wBinB opIx (lVar 0) (bOf (wVar 2))) (aCons (wBinB opIx (lVar 1) (bOf (wVar 2))) (aNil))))))) (sRet (wLit (.bl false))) (sNext)))
  (sRet (wLit (.bl true)))))))))
def t__law_digits : SW := sSeq (sSet 2 (wLit (.int 0)))
  (sSeq (sFor (.nm 3) (iSeq (wCall sp__law_draws [] (aCons (wVar 0) (aCons (wVar 1) (aCons (wBin (opMul dnL) (wLst (aCons (wBin (opPow dnL) (wLit (.int 10)) (wLit (.int 10))) (aNil))) (wLit (.int 6))) (aNil))))))
  (sSet 2 (wBin (opAdd dnL) (wBin (opMul dnL) (wVar 2) (wBin (opPow dnL) (wLit (.int 10)) (wLit (.int 10)))) (wVar 3))))
  (sRet (wVar 2)))
def t__law_zigzag : SW := sSeq (sIf (cBl (wBin (opEq dnL) (wBin (opMod dnL) (wBlt (bInt) (aConsR (lVar 0) (aNil))) (wLit (.int 2))) (wLit (.int 1)))) (sRet (wBin (opSub dnL) (wLit (.int 0)) (wBin (opFdiv dnL) (wBin (opAdd dnL) (wVar 0) (wLit (.int 1))) (wLit (.int 2))))) (sNext))
  (sRet (wBin (opFdiv dnL) (wVar 0) (wLit (.int 2))))
def t__law_bits : SW := sSeq (sOwn 2 (wLst (aNil)))
  (sSeq (sFor (.nm 3) (iRng1 (wVar 0))
  (sSeq (sIf (cBl (wBin (opEq dnL) (wBin (opMod dnL) (wBlt (bInt) (aConsR (lVar 1) (aNil))) (wLit (.int 2))) (wLit (.int 1)))) (sMeth 2 mAppend (aCons (wVar 3) (aNil))) (sNext))
  (sSet 1 (wBin (opFdiv dnL) (wVar 1) (wLit (.int 2))))))
  (sRetO 2))
def t__law_subset : SW := sSeq (sSet 3 (wLst (aNil)))
  (sSeq (sSet 4 (wCall sp__law_draws [] (aCons (wVar 0) (aCons (wVar 1) (aCons (wBin (opMul dnL) (wLst (aCons (wBin (opPow dnL) (wLit (.int 2)) (wLit (.int 25))) (aNil))) (wBin (opAdd dnL) (wLit (.int 1)) (wBin (opFdiv dnL) (wBin (opSub dnL) (wVar 2) (wLit (.int 1))) (wLit (.int 25))))) (aNil))))))
  (sSeq (sFor (.nm 5) (iRng1 (wBlt (bLen dnL) (aConsR (lVar 4) (aNil))))
  (sSet 3 (wBin (opAdd dnL) (wVar 3) (wLc (.nm 6) (iSeq (wCall sp__law_bits [] (aCons (wLit (.int 25)) (aCons (wBinB opIx (lVar 4) (bOf (wVar 5))) (aNil))))) (cBl (wBin (opLt dnL) (wBin (opAdd dnL) (wBin (opMul dnL) (wLit (.int 25)) (wVar 5)) (wVar 6)) (wVar 2))) (wBin (opAdd dnL) (wBin (opMul dnL) (wLit (.int 25)) (wVar 5)) (wVar 6)) [6]))))
  (sRet (wVar 3))))
def t__law_hours_s3 : SW := sSeq (sIf (cOr (cBl (wBin (opEq dnL) (wBinB opIx (lVar 1) (bOf (wLit (.int 0)))) (wLit (.int 1)))) (cBl (wBin (opEq dnL) (wBinB opIx (lVar 1) (bOf (wLit (.int 0)))) (wLit (.int 7))))) (sRet (wBin (opAdd dnL) (wLit (.int 1)) (wBinB opIx (lVar 1) (bOf (wLit (.int 2)))))) (sNext))
  (sRet (wBin (opAdd dnL) (wLit (.int 1)) (wBinB opIx (lVar 1) (bOf (wLit (.int 1))))))
def t__law_hours_s2 : SW := sSeq (sIf (cBl (wBin (opEq dnL) (wBinB opIx (lVar 1) (bOf (wLit (.int 0)))) (wLit (.int 0)))) (sRet (wBinB opIx (bOf (wLst (aCons (wLit (.int 0)) (aCons (wBin (opSub dnL) (wBin (opSub dnL) (wLit (.int 0)) (wLit (.int 1))) (wVar 2)) (aCons (wLit (.int 361)) (aCons (wBin (opAdd dnL) (wLit (.int 361)) (wVar 2)) (aNil))))))) (bOf (wBinB opIx (lVar 1) (bOf (wLit (.int 3))))))) (sNext))
  (t__law_hours_s3)
def t__law_hours_s1 : SW := sSeq (sSet 2 (wBin (opMod dnL) (wBlt (bInt) (aConsR (bOf (wCall sp__law_digits [] (aCons (wCall sp__law_cell [] (aCons (wVar 0) (aCons (wLit (.int 4)) (aNil)))) (aCons (wLit (.int 33)) (aNil))))) (aNil))) (wBin (opPow dnL) (wLit (.int 10)) (wLit (.int 59)))))
  (t__law_hours_s2)
def t__law_hours : SW := sSeq (sSet 1 (wCall sp__law_draws [] (aCons (wCall sp__law_cell [] (aCons (wVar 0) (aCons (wLit (.int 0)) (aNil)))) (aCons (wLit (.int 46)) (aCons (wLst (aCons (wLit (.int 8)) (aCons (wLit (.int 24)) (aCons (wLit (.int 360)) (aCons (wLit (.int 4)) (aNil)))))) (aNil))))))
  (t__law_hours_s1)
def t__law_values_s8 : SW := sSeq (sIf (cAnd (cBl (wBin (opEq dnL) (wBinB opIx (lVar 2) (bOf (wLit (.int 0)))) (wLit (.int 1)))) (cBl (wBin (opGt dnL) (wBlt (bLen dnL) (aConsR (lVar 6) (aNil))) (wLit (.int 0))))) (sSeq (sSet 9 (wBin (opMod dnL) (wBlt (bInt) (aConsR (bOf (wBinB opIx (lVar 2) (bOf (wLit (.int 1))))) (aNil))) (wBlt (bLen dnL) (aConsR (lVar 6) (aNil)))))
  (sSeq (sSet 10 (wBin (opAdd dnL) (wBinB opIx (lVar 6) (bOf (wVar 9))) (wBin (opMul dnL) (wVar 1) (wCall sp__law_zigzag [] (aCons (wBinB opIx (lVar 2) (bOf (wLit (.int 3)))) (aNil))))))
  (sMeth 6 mInsert (aCons (wBin (opAdd dnL) (wBin (opAdd dnL) (wVar 9) (wLit (.int 1))) (wBin (opMod dnL) (wBlt (bInt) (aConsR (bOf (wBinB opIx (lVar 2) (bOf (wLit (.int 2))))) (aNil))) (wBin (opSub dnL) (wBlt (bLen dnL) (aConsR (lVar 6) (aNil))) (wVar 9)))) (aCons (wVar 10) (aNil)))))) (sNext))
  (sRetO 6)
def t__law_values_s7 : SW := sSeq (sFor (.nm 8) (iSeq (wVar 5))
  (sIf (cBl (wBinB opNotInF (bOf (wBin (opMod dnL) (wBlt (bInt) (aConsR (lVar 8) (aNil))) (wVar 1))) (bVar 7))) (sSeq (sMeth 6 mAppend (aCons (wVar 8) (aNil)))
  (sMeth 7 mAppend (aCons (wBin (opMod dnL) (wBlt (bInt) (aConsR (lVar 8) (aNil))) (wVar 1)) (aNil)))) (sNext)))
  (t__law_values_s8)
def t__law_values_s6 : SW := sSeq (sOwn 7 (wLst (aNil)))
  (t__law_values_s7)
def t__law_values_s5 : SW := sSeq (sOwn 6 (wLst (aNil)))
  (t__law_values_s6)
def t__law_values_s4 : SW := sSeq (sIf (cBl (wBin (opEq dnL) (wBinB opIx (lVar 2) (bOf (wLit (.int 0)))) (wLit (.int 0)))) (sRet (wVar 5)) (sNext))
  (t__law_values_s5)
def t__law_values_s3 : SW := sSeq (sSet 5 (wLc (.nm 11) (iSeq (wSl (lVar 4) (oSome (wLit (.int 1))) (oSome (wBin (opAdd dnL) (wLit (.int 1)) (wBlt (bMax2) (aConsR (bOf (wLit (.int 0))) (aConsR (bOf (wBin (opSub dnL) (wBinB opIx (lVar 4) (bOf (wLit (.int 0)))) (wLit (.int 9)))) (aNil)))))))) (cYes) (wCall sp__law_zigzag [] (aCons (wVar 11) (aNil))) [11]))
  (t__law_values_s4)
def t__law_values_s2 : SW := sSeq (sSet 4 (wCall sp__law_draws [] (aCons (wCall sp__law_cell [] (aCons (wVar 0) (aCons (wLit (.int 1)) (aNil)))) (aCons (wLit (.int 160)) (aCons (wBin (opAdd dnL) (wLst (aCons (wLit (.int 60)) (aNil))) (wBin (opMul dnL) (wLst (aCons (wBin (opMul dnL) (wLit (.int 2)) (wBin (opPow dnL) (wLit (.int 10)) (wLit (.int 59)))) (aNil))) (wLit (.int 50)))) (aNil))))))
  (t__law_values_s3)
def t__law_values_s1 : SW := sSeq (sIf (cBl (wBin (opEq dnL) (wBinB opIx (lVar 2) (bOf (wLit (.int 0)))) (wLit (.int 5)))) (sSeq (sSet 3 (wCall sp__law_subset [] (aCons (wCall sp__law_cell [] (aCons (wVar 0) (aCons (wLit (.int 3)) (aNil)))) (aCons (wLit (.int 34)) (aCons (wVar 1) (aNil))))))
  (sRet (wLc (.nm 12) (iSeq (wRevL (lVar 3))) (cYes) (wBin (opAdd dnL) (wVar 12) (wBin (opMul dnL) (wVar 1) (wBin (opSub dnL) (wBin (opMul dnL) (wVar 12) (wVar 12)) (wLit (.int 50))))) [12]))) (sNext))
  (t__law_values_s2)
def t__law_values : SW := sSeq (sSet 2 (wCall sp__law_draws [] (aCons (wCall sp__law_cell [] (aCons (wVar 0) (aCons (wLit (.int 2)) (aNil)))) (aCons (wLit (.int 25)) (aCons (wLst (aCons (wLit (.int 6)) (aCons (wLit (.int 50)) (aCons (wLit (.int 50)) (aCons (wBin (opPow dnL) (wLit (.int 10)) (wLit (.int 50))) (aNil)))))) (aNil))))))
  (t__law_values_s1)
def t__law_first_repeated : SW := sSeq (sFor (.nm 1) (iRng1 (wBlt (bLen dnL) (aConsR (lVar 0) (aNil))))
  (sIf (cBl (wBin (opIn dnL) (wBinB opIx (lVar 0) (bOf (wVar 1))) (wSl (lVar 0) oNone (oSome (wVar 1))))) (sRet (wBinB opIx (lVar 0) (bOf (wVar 1)))) (sNext)))
  (sRet (wBin (opSub dnL) (wLit (.int 0)) (wLit (.int 1))))
def t__law_told_lot : SW := sSeq (sSet 2 (wLit .non))
  (sSeq (sTryN [⟨some 3, ct_BadNumber, sSet 2 (wTup (aCons (wLit (.str "BadNumber")) (aCons (wXf 3 [(2, 0)]) (aCons (wXf 3 [(2, 1)]) (aNil)))))⟩, ⟨some 3, ct_RepeatedHour, sSet 2 (wTup (aCons (wLit (.str "RepeatedHour")) (aCons (wXf 3 [(3, 0), (4, 0)]) (aNil))))⟩] (sSet 2 (wCall sp_Lot___init__ [] (aCons (wVar 0) (aConsB (bVar 1) (aNil))))))
  (sRet (wVar 2)))
def t__law_told_full : SW := sSeq (sSet 1 (wLit .non))
  (sSeq (sTryAs 2 ct_BadNumber (sSet 1 (wCMeth 0 sp_Lot_full [] (wLit (.cls 0)) (aCons (wVar 0) (aNil))))
  (sSet 1 (wTup (aCons (wLit (.str "BadNumber")) (aCons (wXf 2 [(2, 0)]) (aCons (wXf 2 [(2, 1)]) (aNil)))))))
  (sRet (wVar 1)))
def t__law_kinds : SW := sSeq (sSet 2 (wLst (aNil)))
  (sSeq (sTryAs 3 ct_WatchError (sDrop (wCall sp_Lot___init__ [] (aCons (wVar 0) (aConsB (bVar 1) (aNil)))))
  (sSeq (sSet 2 (wLst (aCons (wIsX 3 ix_ValueError) (aCons (wIsX 3 ix_BadNumber) (aCons (wIsX 3 ix_RepeatedHour) (aCons (wIsX 3 ix_Meets) (aNil)))))))
  (sSet 2 (wBinB opAddF (bVar 2) (bOf (wLst (aCons (wIsX 3 ix_Refused) (aNil))))))))
  (sRet (wVar 2)))
def t__law_is_lot : SW := sSeq (sIf (cOr (cNot (cOfB (bOf (wIsC 0 (lVar 0))))) (cOr (cNot (cOfB (bOf (wCall sp__law_same [] (aCons (wFld [(0, 0)] (bVar 0)) (aCons (wVar 1) (aNil))))))) (cNot (cOfB (bOf (wCall sp__law_same [] (aCons (wProp 0 sp_Lot_members (wVar 0)) (aCons (wVar 2) (aNil))))))))) (sRet (wLit (.bl false))) (sNext))
  (sRet (wAnd (wBin (opEq dnL) (wBlt (bLen dnL) (aConsR (lVar 0) (aNil))) (wBlt (bLen dnL) (aConsR (lVar 2) (aNil)))) (wCall sp__law_same [] (aCons (wLc (.nm 3) (iObj 0 1 (wVar 0)) (cYes) (wVar 3) [3]) (aCons (wVar 2) (aNil))))))
def t__law_equalities_s6 : SW := sSeq (sFor (.nm 4) (iSeq (wLst (aCons (wBlt (bList) (aConsR (lVar 2) (aNil))) (aCons (wLit .non) (aCons (wVar 1) (aCons (wLit (.str "lot")) (aNil)))))))
  (sIf (cOr (cBl (wBinB opIsNot (bOf (wBin (opEq dnL) (wVar 0) (wVar 4))) (bOf (wLit (.bl false))))) (cBl (wBinB opIsNot (bOf (wBin (opNe dnL) (wVar 0) (wVar 4))) (bOf (wLit (.bl true)))))) (sRet (wLit (.bl false))) (sNext)))
  (sRet (wLit (.bl true)))
def t__law_equalities_s5 : SW := sSeq (sIf (cAnd (cBl (wBin (opLt dnL) (wVar 1) (wLit (.int 360)))) (cBl (wBinB opIsNot (bOf (wBin (opNe dnL) (wVar 0) (wCall sp_Lot___init__ [] (aCons (wBin (opAdd dnL) (wVar 1) (wLit (.int 1))) (aConsB (bOf (wBlt (bList) (aConsR (lVar 2) (aNil)))) (aNil)))))) (bOf (wLit (.bl true)))))) (sRet (wLit (.bl false))) (sNext))
  (t__law_equalities_s6)
def t__law_equalities_s4 : SW := sSeq (sIf (cOr (cBl (wBinB opIsNot (bOf (wBin (opNe dnL) (wVar 0) (wCall sp_Lot___init__ [] (aCons (wVar 1) (aConsB (bOf (wRevL (lVar 2))) (aNil)))))) (bOf (wLit (.bl false))))) (cBl (wBinB opIsNot (bOf (wBin (opNe dnL) (wVar 0) (wCall sp_Lot___init__ [] (aCons (wVar 1) (aConsB (bOf (wBlt (bList) (aConsR (lVar 3) (aNil)))) (aNil)))))) (bOf (wLit (.bl true)))))) (sRet (wLit (.bl false))) (sNext))
  (t__law_equalities_s5)
def t__law_equalities_s3 : SW := sSeq (sIf (cOr (cBl (wBinB opIsNot (bOf (wBin (opEq dnL) (wCall sp_Lot___init__ [] (aCons (wVar 1) (aConsB (bOf (wBlt (bList) (aConsR (lVar 3) (aNil)))) (aNil)))) (wVar 0))) (bOf (wLit (.bl false))))) (cAnd (cBl (wBin (opLt dnL) (wVar 1) (wLit (.int 360)))) (cBl (wBinB opIsNot (bOf (wBin (opEq dnL) (wVar 0) (wCall sp_Lot___init__ [] (aCons (wBin (opAdd dnL) (wVar 1) (wLit (.int 1))) (aConsB (bOf (wBlt (bList) (aConsR (lVar 2) (aNil)))) (aNil)))))) (bOf (wLit (.bl false))))))) (sRet (wLit (.bl false))) (sNext))
  (t__law_equalities_s4)
def t__law_equalities_s2 : SW := sSeq (sIf (cOr (cBl (wBinB opIsNot (bOf (wBin (opEq dnL) (wVar 0) (wCall sp_Lot___init__ [] (aCons (wVar 1) (aConsB (bOf (wRevL (lVar 2))) (aNil)))))) (bOf (wLit (.bl true))))) (cBl (wBinB opIsNot (bOf (wBin (opEq dnL) (wVar 0) (wCall sp_Lot___init__ [] (aCons (wVar 1) (aConsB (bOf (wBlt (bList) (aConsR (lVar 3) (aNil)))) (aNil)))))) (bOf (wLit (.bl false)))))) (sRet (wLit (.bl false))) (sNext))
  (t__law_equalities_s3)
def t__law_equalities_s1 : SW := sSeq (sIf (cBl (wBin (opNotIn dnL) (wLit (.int 0)) (wVar 2))) (sSet 3 (wBin (opAdd dnL) (wLst (aCons (wLit (.int 0)) (aNil))) (wVar 2))) (sNext))
  (t__law_equalities_s2)
def t__law_equalities : SW := sSeq (sSet 3 (wSl (lVar 2) (oSome (wLit (.int 1))) oNone))
  (t__law_equalities_s1)
def t__law_membership : SW := sSeq (sFor (.nm 4) (iRng1 (wVar 1))
  (sIf (cOr (cBl (wBin (opNe dnL) (wBin (opIn dnL) (wVar 4) (wVar 0)) (wBin (opIn dnL) (wVar 4) (wVar 2)))) (cBl (wBin (opNe dnL) (wBin (opIn dnL) (wBin (opAdd dnL) (wVar 4) (wBin (opMul dnL) (wVar 1) (wVar 3))) (wVar 0)) (wBin (opIn dnL) (wVar 4) (wVar 2))))) (sRet (wLit (.bl false))) (sNext)))
  (sRet (wLit (.bl true)))
def t__law_part_a_b0 : SW := sSeq (sSet 2 (wCall sp__law_values [] (aCons (wVar 0) (aCons (wLit (.int 24)) (aNil)))))
  (sSeq (sSet 3 (wTup (aCons (wLit (.str "BadNumber")) (aCons (wLit (.str "hours")) (aCons (wVar 1) (aNil))))))
  (sSeq (sIf (cOr (cNot (cOfB (bOf (wCall sp__law_same [] (aCons (wCall sp__law_told_lot [] (aCons (wVar 1) (aConsB (bOf (wBlt (bList) (aConsR (lVar 2) (aNil)))) (aNil)))) (aCons (wVar 3) (aNil))))))) (cNot (cOfB (bOf (wCall sp__law_same [] (aCons (wCall sp__law_told_full [] (aCons (wVar 1) (aNil))) (aCons (wVar 3) (aNil)))))))) (sRet (wLit (.bl false))) (sNext))
  (sRet (wBin (opEq dnL) (wCall sp__law_kinds [] (aCons (wVar 1) (aCons (wBlt (bList) (aConsR (lVar 2) (aNil))) (aNil)))) (wLst (aCons (wLit (.bl true)) (aCons (wLit (.bl true)) (aCons (wLit (.bl false)) (aCons (wLit (.bl false)) (aCons (wLit (.bl false)) (aNil)))))))))))
def t__law_part_a_b1 : SW := sSeq (sIf (cNot (cOfB (bOf (wCall sp__law_same [] (aCons (wVar 7) (aCons (wTup (aCons (wLit (.str "RepeatedHour")) (aCons (wVar 5) (aNil)))) (aNil))))))) (sRet (wLit (.bl false))) (sNext))
  (sRet (wBin (opEq dnL) (wCall sp__law_kinds [] (aCons (wVar 1) (aCons (wBlt (bList) (aConsR (lVar 2) (aNil))) (aNil)))) (wLst (aCons (wLit (.bl true)) (aCons (wLit (.bl false)) (aCons (wLit (.bl true)) (aCons (wLit (.bl false)) (aCons (wLit (.bl false)) (aNil)))))))))
def t__law_part_a_s16 : SW := sSeq (sMeth 9 mAppend (aCons (wVar 1) (aNil)))
  (sRet (wAnd (wCall sp__law_is_lot [] (aCons (wVar 7) (aCons (wVar 1) (aCons (wVar 3) (aNil))))) (wCall sp__law_same [] (aCons (wClsCon [(0, .int 360)] (wLit (.cls 0))) (aCons (wLit (.int 360)) (aNil))))))
def t__law_part_a_s15 : SW := sSeq (sOwn 9 (wProp 0 sp_Lot_members (wVar 7)))
  (t__law_part_a_s16)
def t__law_part_a_s14 : SW := sSeq (sSetIx 6 (wLit (.int 0)) (wBin (opAdd dnL) (wBinB opIx (lVar 6) (bOf (wLit (.int 0)))) (wLit (.int 1))))
  (t__law_part_a_s15)
def t__law_part_a_s13 : SW := sSeq (sMeth 6 mAppend (aCons (wLit (.int 0)) (aNil)))
  (t__law_part_a_s14)
def t__law_part_a_s12 : SW := sSeq (sIf (cOr (cNot (cOfB (bOf (wCall sp__law_membership [] (aCons (wVar 7) (aCons (wVar 1) (aCons (wVar 3) (aCons (wVar 8) (aNil))))))))) (cNot (cOfB (bOf (wCall sp__law_is_lot [] (aCons (wCMeth 0 sp_Lot_full [] (wLit (.cls 0)) (aCons (wVar 1) (aNil))) (aCons (wVar 1) (aCons (wListRg1 (wVar 1)) (aNil))))))))) (sRet (wLit (.bl false))) (sNext))
  (t__law_part_a_s13)
def t__law_part_a_s11 : SW := sSeq (sSet 8 (wCall sp__law_zigzag [] (aCons (wBinB opIx (bOf (wCall sp__law_draws [] (aCons (wCall sp__law_cell [] (aCons (wVar 0) (aCons (wLit (.int 2)) (aNil)))) (aCons (wLit (.int 25)) (aCons (wLst (aCons (wLit (.int 6)) (aCons (wLit (.int 50)) (aCons (wLit (.int 50)) (aCons (wBin (opPow dnL) (wLit (.int 10)) (wLit (.int 50))) (aNil)))))) (aNil)))))) (bOf (wLit (.int 3)))) (aNil))))
  (t__law_part_a_s12)
def t__law_part_a_s10 : SW := sSeq (sIf (cOr (cNot (cOfB (bOf (wCall sp__law_is_lot [] (aCons (wVar 7) (aCons (wVar 1) (aCons (wVar 3) (aNil)))))))) (cNot (cOfB (bOf (wCall sp__law_equalities [] (aCons (wVar 7) (aCons (wVar 1) (aCons (wVar 3) (aNil))))))))) (sRet (wLit (.bl false))) (sNext))
  (t__law_part_a_s11)
def t__law_part_a_s9 : SW := sSeq (sSet 3 (wLc (.nm 11) (iRng1 (wVar 1)) (cBl (wBin (opIn dnL) (wVar 11) (wVar 4))) (wVar 11) [11]))
  (t__law_part_a_s10)
def t__law_part_a_s8 : SW := sSeq (sIf (cBl (wBin (opGe dnL) (wVar 5) (wLit (.int 0)))) (t__law_part_a_b1) (sNext))
  (t__law_part_a_s9)
def t__law_part_a_s7 : SW := sSeq (sIf (cNot (cOfB (bOf (wCallS sp__law_same [] (aConsR (lVar 6) (aConsR (lVar 2) (aNil))))))) (sRet (wLit (.bl false))) (sNext))
  (t__law_part_a_s8)
def t__law_part_a_s6 : SW := sSeq (sSet 7 (wCall sp__law_told_lot [] (aCons (wVar 1) (aConsB (bVar 6) (aNil)))))
  (t__law_part_a_s7)
def t__law_part_a_s5 : SW := sSeq (sOwn 6 (wBlt (bList) (aConsR (lVar 2) (aNil))))
  (t__law_part_a_s6)
def t__law_part_a_s4 : SW := sSeq (sSet 5 (wCall sp__law_first_repeated [] (aCons (wVar 4) (aNil))))
  (t__law_part_a_s5)
def t__law_part_a_s3 : SW := sSeq (sSet 4 (wLc (.nm 10) (iSeq (wVar 2)) (cYes) (wBin (opMod dnL) (wBlt (bInt) (aConsR (lVar 10) (aNil))) (wVar 1)) [10]))
  (t__law_part_a_s4)
def t__law_part_a_s2 : SW := sSeq (sSet 2 (wCall sp__law_values [] (aCons (wVar 0) (aCons (wVar 1) (aNil)))))
  (t__law_part_a_s3)
def t__law_part_a_s1 : SW := sSeq (sIf (cOr (cBl (wBin (opLt dnL) (wVar 1) (wLit (.int 1)))) (cBl (wBin (opGt dnL) (wVar 1) (wLit (.int 360))))) (t__law_part_a_b0) (sNext))
  (t__law_part_a_s2)
def t__law_part_a : SW := sSeq (sSet 1 (wCall sp__law_hours [] (aCons (wVar 0) (aNil))))
  (t__law_part_a_s1)
def t__law_drawn_lot : SW := sSeq (sIf (cBl (wBin (opEq dnL) (wVar 3) (wLit (.int 0)))) (sRet (wLst (aNil))) (sNext))
  (sSeq (sIf (cBl (wBin (opEq dnL) (wVar 3) (wLit (.int 1)))) (sRet (wListRg1 (wVar 2))) (sNext))
  (sSeq (sSet 4 (wCall sp__law_subset [] (aCons (wVar 0) (aCons (wVar 1) (aCons (wVar 2) (aNil))))))
  (sSeq (sIf (cBl (wBin (opEq dnL) (wVar 3) (wLit (.int 2)))) (sRet (wSl (lVar 4) oNone (oSome (wLit (.int 1))))) (sNext))
  (sRet (wVar 4)))))
def t__law_other_ring : SW := sSeq (sIf (cAnd (cBl (wBin (opEq dnL) (wVar 1) (wLit (.int 1)))) (cBl (wBin (opLe dnL) (wBin (opMul dnL) (wLit (.int 2)) (wVar 0)) (wLit (.int 360))))) (sRet (wBin (opMul dnL) (wLit (.int 2)) (wVar 0))) (sNext))
  (sSeq (sIf (cBl (wBin (opLe dnL) (wVar 1) (wLit (.int 1)))) (sRet (wBin (opAdd dnL) (wBin (opMod dnL) (wBlt (bInt) (aConsR (lVar 0) (aNil))) (wLit (.int 360))) (wLit (.int 1)))) (sNext))
  (sRet (wVar 0)))
def t__law_turn : SW := sSeq (sSet 4 (wCall sp__law_digits [] (aCons (wCall sp__law_cell [] (aCons (wVar 0) (aCons (wLit (.int 3)) (aNil)))) (aCons (wLit (.int 41)) (aNil)))))
  (sSeq (sIf (cBl (wBin (opLe dnL) (wVar 2) (wLit (.int 2)))) (sSet 4 (wBinB opIx (bOf (wLst (aCons (wLit (.int 0)) (aCons (wVar 1) (aCons (wLit (.int 1)) (aNil)))))) (bOf (wVar 2)))) (sNext))
  (sSeq (sIf (cBl (wBin (opEq dnL) (wVar 3) (wLit (.int 1)))) (sSet 4 (wBin (opSub dnL) (wLit (.int 0)) (wVar 4))) (sNext))
  (sRet (wVar 4))))
def t__law_is_lot_b : SW := sSeq (sIf (cOr (cNot (cOfB (bOf (wIsC 0 (lVar 0))))) (cOr (cNot (cOfB (bOf (wCall sp__law_same [] (aCons (wFld [(0, 0)] (bVar 0)) (aCons (wVar 1) (aNil))))))) (cNot (cOfB (bOf (wCall sp__law_same [] (aCons (wProp 0 sp_Lot_members (wVar 0)) (aCons (wVar 2) (aNil))))))))) (sRet (wLit (.bl false))) (sNext))
  (sRet (wBin (opEq dnL) (wBlt (bLen dnL) (aConsR (lVar 0) (aNil))) (wBlt (bLen dnL) (aConsR (lVar 2) (aNil)))))
def t__law_moved_s5 : SW := sSeq (sIf (cOr (cBl (wBinB opIsNot (bOf (wBin (opEq dnL) (wBin (opObj dnL .rsh) (wBin (opObj dnL .lsh) (wVar 0) (wVar 3)) (wVar 3)) (wVar 0))) (bOf (wLit (.bl true))))) (cBl (wBinB opIsNot (bOf (wBin (opEq dnL) (wUn (opNeg dnL) (wUn (opNeg dnL) (wVar 0))) (wVar 0))) (bOf (wLit (.bl true)))))) (sRet (wLit (.bl false))) (sNext))
  (sRet (wBinB opIs (bOf (wBin (opEq dnL) (wUn (opInv dnL) (wUn (opInv dnL) (wVar 0))) (wVar 0))) (bOf (wLit (.bl true)))))
def t__law_moved_s4 : SW := sSeq (sIf (cNot (cOfB (bOf (wCall sp__law_is_lot_b [] (aCons (wUn (opInv dnL) (wVar 0)) (aCons (wVar 1) (aCons (wLc (.nm 5) (iRng1 (wVar 1)) (cNot (cOfB (bOf (wBinB opIx (lVar 4) (bOf (wVar 5)))))) (wVar 5) [5]) (aNil)))))))) (sRet (wLit (.bl false))) (sNext))
  (t__law_moved_s5)
def t__law_moved_s3 : SW := sSeq (sIf (cNot (cOfB (bOf (wCall sp__law_is_lot_b [] (aCons (wUn (opNeg dnL) (wVar 0)) (aCons (wVar 1) (aCons (wLc (.nm 5) (iRng1 (wVar 1)) (cOfB (bOf (wBinB opIx (lVar 4) (bOf (wBin (opMod dnL) (wBlt (bInt) (aConsR (bOf (wBin (opSub dnL) (wLit (.int 0)) (wVar 5))) (aNil))) (wVar 1)))))) (wVar 5) [5]) (aNil)))))))) (sRet (wLit (.bl false))) (sNext))
  (t__law_moved_s4)
def t__law_moved_s2 : SW := sSeq (sIf (cNot (cOfB (bOf (wCall sp__law_is_lot_b [] (aCons (wBin (opObj dnL .rsh) (wVar 0) (wVar 3)) (aCons (wVar 1) (aCons (wLc (.nm 5) (iRng1 (wVar 1)) (cOfB (bOf (wBinB opIx (lVar 4) (bOf (wBin (opMod dnL) (wBlt (bInt) (aConsR (bOf (wBin (opAdd dnL) (wVar 5) (wVar 3))) (aNil))) (wVar 1)))))) (wVar 5) [5]) (aNil)))))))) (sRet (wLit (.bl false))) (sNext))
  (t__law_moved_s3)
def t__law_moved_s1 : SW := sSeq (sIf (cNot (cOfB (bOf (wCall sp__law_is_lot_b [] (aCons (wBin (opObj dnL .lsh) (wVar 0) (wVar 3)) (aCons (wVar 1) (aCons (wLc (.nm 5) (iRng1 (wVar 1)) (cOfB (bOf (wBinB opIx (lVar 4) (bOf (wBin (opMod dnL) (wBlt (bInt) (aConsR (bOf (wBin (opSub dnL) (wVar 5) (wVar 3))) (aNil))) (wVar 1)))))) (wVar 5) [5]) (aNil)))))))) (sRet (wLit (.bl false))) (sNext))
  (t__law_moved_s2)
def t__law_moved : SW := sSeq (sSet 4 (wLc (.nm 5) (iRng1 (wVar 1)) (cYes) (wBin (opIn dnL) (wVar 5) (wVar 2)) [5]))
  (t__law_moved_s1)
def t__law_joined : SW := sSeq (sSet 5 (wLc (.nm 7) (iRng1 (wVar 2)) (cOr (cBl (wBin (opIn dnL) (wVar 7) (wVar 3))) (cBl (wBin (opIn dnL) (wVar 7) (wVar 4)))) (wVar 7) [7]))
  (sSeq (sSet 6 (wLc (.nm 7) (iSeq (wVar 3)) (cBl (wBin (opIn dnL) (wVar 7) (wVar 4))) (wVar 7) [7]))
  (sSeq (sIf (cOr (cNot (cOfB (bOf (wCall sp__law_is_lot_b [] (aCons (wBin (opObj dnL .bor) (wVar 0) (wVar 1)) (aCons (wVar 2) (aCons (wVar 5) (aNil)))))))) (cNot (cOfB (bOf (wCall sp__law_is_lot_b [] (aCons (wBin (opObj dnL .bor) (wVar 1) (wVar 0)) (aCons (wVar 2) (aCons (wVar 5) (aNil))))))))) (sRet (wLit (.bl false))) (sNext))
  (sRet (wAnd (wCall sp__law_is_lot_b [] (aCons (wBin (opObj dnL .band) (wVar 0) (wVar 1)) (aCons (wVar 2) (aCons (wVar 6) (aNil))))) (wCall sp__law_is_lot_b [] (aCons (wBin (opObj dnL .band) (wVar 1) (wVar 0)) (aCons (wVar 2) (aCons (wVar 6) (aNil)))))))))
def t__law_kept_apart : SW := sSeq (sSet 3 (wLst (aNil)))
  (sSeq (sSet 4 (wLit .non))
  (sSeq (sTryAs 5 ct_WatchError (sIf (cBl (wBin (opEq dnL) (wVar 2) (wLit (.int 0)))) (sSet 4 (wBin (opObj dnL .bor) (wVar 0) (wVar 1))) (sSet 4 (wBin (opObj dnL .band) (wVar 0) (wVar 1))))
  (sSeq (sSet 3 (wLst (aCons (wIsX 5 ix_OtherHours) (aCons (wIsX 5 ix_ValueError) (aCons (wIsX 5 ix_OtherHouse) (aCons (wIsX 5 ix_Meets) (aNil)))))))
  (sSet 3 (wBinB opAddF (bVar 3) (bOf (wLst (aCons (wIsX 5 ix_NotADivisor) (aNil))))))))
  (sRet (wAnd (wBinB opIs (bVar 4) (bOf (wLit .non))) (wBin (opEq dnL) (wVar 3) (wLst (aCons (wLit (.bl true)) (aCons (wLit (.bl true)) (aCons (wLit (.bl false)) (aCons (wLit (.bl false)) (aCons (wLit (.bl false)) (aNil))))))))))))
def t__law_part_b_b0 : SW := sSeq (sIf (cOr (cNot (cOfB (bOf (wCall sp__law_kept_apart [] (aCons (wVar 7) (aCons (wVar 8) (aCons (wLit (.int 0)) (aNil)))))))) (cNot (cOfB (bOf (wCall sp__law_kept_apart [] (aCons (wVar 8) (aCons (wVar 7) (aCons (wLit (.int 0)) (aNil))))))))) (sRet (wLit (.bl false))) (sNext))
  (sIf (cOr (cNot (cOfB (bOf (wCall sp__law_kept_apart [] (aCons (wVar 7) (aCons (wVar 8) (aCons (wLit (.int 1)) (aNil)))))))) (cNot (cOfB (bOf (wCall sp__law_kept_apart [] (aCons (wVar 8) (aCons (wVar 7) (aCons (wLit (.int 1)) (aNil))))))))) (sRet (wLit (.bl false))) (sNext))
def t__law_part_b_b1 : SW := sSeq (sSet 9 (wVar 7))
  (sSeq (sAug 9 (opObj dnL .bor) (wVar 8))
  (sSeq (sIf (cNot (cOfB (bOf (wCall sp__law_is_lot_b [] (aCons (wVar 9) (aCons (wVar 2) (aCons (wLc (.nm 10) (iRng1 (wVar 2)) (cOr (cBl (wBin (opIn dnL) (wVar 10) (wVar 3))) (cBl (wBin (opIn dnL) (wVar 10) (wVar 5)))) (wVar 10) [10]) (aNil)))))))) (sRet (wLit (.bl false))) (sNext))
  (sSeq (sSet 9 (wVar 7))
  (sSeq (sAug 9 (opObj dnL .band) (wVar 8))
  (sIf (cNot (cOfB (bOf (wCall sp__law_is_lot_b [] (aCons (wVar 9) (aCons (wVar 2) (aCons (wLc (.nm 10) (iSeq (wVar 3)) (cBl (wBin (opIn dnL) (wVar 10) (wVar 5))) (wVar 10) [10]) (aNil)))))))) (sRet (wLit (.bl false))) (sNext))))))
def t__law_part_b_s20 : SW := sSeq (sIf (cBl (wBin (opEq dnL) (wVar 2) (wVar 4))) (t__law_part_b_b1) (sNext))
  (sRet (wAnd (wCall sp__law_is_lot_b [] (aCons (wVar 7) (aCons (wVar 2) (aCons (wVar 3) (aNil))))) (wCall sp__law_is_lot_b [] (aCons (wVar 8) (aCons (wVar 4) (aCons (wVar 5) (aNil)))))))
def t__law_part_b_s19 : SW := sSeq (sIf (cOr (cNot (cOfB (bOf (wCall sp__law_is_lot_b [] (aCons (wVar 9) (aCons (wVar 2) (aCons (wBlt (bSorted) (aConsR (bOf (wLc (.nm 10) (iSeq (wVar 3)) (cYes) (wBlt (bInt) (aConsR (bOf (wBin (opMod dnL) (wBlt (bInt) (aConsR (bOf (wBin (opSub dnL) (wVar 10) (wVar 6))) (aNil))) (wVar 2))) (aNil))) [10])) (aNil))) (aNil)))))))) (cNot (cOfB (bOf (wCall sp__law_is_lot_b [] (aCons (wVar 7) (aCons (wVar 2) (aCons (wVar 3) (aNil))))))))) (sRet (wLit (.bl false))) (sNext))
  (t__law_part_b_s20)
def t__law_part_b_s18 : SW := sSeq (sAug 9 (opObj dnL .rsh) (wVar 6))
  (t__law_part_b_s19)
def t__law_part_b_s17 : SW := sSeq (sSet 9 (wVar 7))
  (t__law_part_b_s18)
def t__law_part_b_s16 : SW := sSeq (sIf (cOr (cNot (cOfB (bOf (wCall sp__law_is_lot_b [] (aCons (wVar 9) (aCons (wVar 2) (aCons (wBlt (bSorted) (aConsR (bOf (wLc (.nm 10) (iSeq (wVar 3)) (cYes) (wBlt (bInt) (aConsR (bOf (wBin (opMod dnL) (wBlt (bInt) (aConsR (bOf (wBin (opAdd dnL) (wVar 10) (wVar 6))) (aNil))) (wVar 2))) (aNil))) [10])) (aNil))) (aNil)))))))) (cNot (cOfB (bOf (wCall sp__law_is_lot_b [] (aCons (wVar 7) (aCons (wVar 2) (aCons (wVar 3) (aNil))))))))) (sRet (wLit (.bl false))) (sNext))
  (t__law_part_b_s17)
def t__law_part_b_s15 : SW := sSeq (sAug 9 (opObj dnL .lsh) (wVar 6))
  (t__law_part_b_s16)
def t__law_part_b_s14 : SW := sSeq (sSet 9 (wVar 7))
  (t__law_part_b_s15)
def t__law_part_b_s13 : SW := sSeq (sIf (cBl (wBin (opNe dnL) (wVar 2) (wVar 4))) (t__law_part_b_b0) (sNext))
  (t__law_part_b_s14)
def t__law_part_b_s12 : SW := sSeq (sIf (cAnd (cBl (wBin (opEq dnL) (wVar 2) (wVar 4))) (cNot (cOfB (bOf (wCall sp__law_joined [] (aCons (wVar 7) (aCons (wVar 8) (aCons (wVar 2) (aCons (wVar 3) (aCons (wVar 5) (aNil))))))))))) (sRet (wLit (.bl false))) (sNext))
  (t__law_part_b_s13)
def t__law_part_b_s11 : SW := sSeq (sIf (cOr (cNot (cOfB (bOf (wCall sp__law_moved [] (aCons (wVar 7) (aCons (wVar 2) (aCons (wVar 3) (aCons (wVar 6) (aNil))))))))) (cNot (cOfB (bOf (wCall sp__law_moved [] (aCons (wVar 8) (aCons (wVar 4) (aCons (wVar 5) (aCons (wVar 6) (aNil)))))))))) (sRet (wLit (.bl false))) (sNext))
  (t__law_part_b_s12)
def t__law_part_b_s10 : SW := sSeq (sSet 8 (wCall sp_Lot___init__ [] (aCons (wVar 4) (aConsB (bOf (wBlt (bList) (aConsR (lVar 5) (aNil)))) (aNil)))))
  (t__law_part_b_s11)
def t__law_part_b_s9 : SW := sSeq (sSet 7 (wCall sp_Lot___init__ [] (aCons (wVar 2) (aConsB (bOf (wBlt (bList) (aConsR (lVar 3) (aNil)))) (aNil)))))
  (t__law_part_b_s10)
def t__law_part_b_s8 : SW := sSeq (sSet 6 (wCall sp__law_turn [] (aCons (wVar 0) (aCons (wVar 2) (aCons (wBinB opIx (lVar 1) (bOf (wLit (.int 6)))) (aCons (wBinB opIx (lVar 1) (bOf (wLit (.int 7)))) (aNil)))))))
  (t__law_part_b_s9)
def t__law_part_b_s7 : SW := sSeq (sIf (cBl (wBin (opEq dnL) (wBinB opIx (lVar 1) (bOf (wLit (.int 5)))) (wLit (.int 4)))) (sSet 5 (wLc (.nm 10) (iRng1 (wVar 4)) (cBl (wBin (opNotIn dnL) (wVar 10) (wVar 3))) (wVar 10) [10])) (sNext))
  (t__law_part_b_s8)
def t__law_part_b_s6 : SW := sSeq (sIf (cBl (wBin (opEq dnL) (wBinB opIx (lVar 1) (bOf (wLit (.int 5)))) (wLit (.int 3)))) (sSet 5 (wLc (.nm 10) (iSeq (wVar 3)) (cBl (wBin (opLt dnL) (wVar 10) (wVar 4))) (wVar 10) [10])) (sNext))
  (t__law_part_b_s7)
def t__law_part_b_s5 : SW := sSeq (sSet 5 (wCall sp__law_drawn_lot [] (aCons (wCall sp__law_cell [] (aCons (wVar 0) (aCons (wLit (.int 2)) (aNil)))) (aCons (wLit (.int 40)) (aCons (wVar 4) (aCons (wBinB opIx (lVar 1) (bOf (wLit (.int 5)))) (aNil)))))))
  (t__law_part_b_s6)
def t__law_part_b_s4 : SW := sSeq (sSet 4 (wCall sp__law_other_ring [] (aCons (wVar 2) (aCons (wBinB opIx (lVar 1) (bOf (wLit (.int 3)))) (aNil)))))
  (t__law_part_b_s5)
def t__law_part_b_s3 : SW := sSeq (sSet 3 (wCall sp__law_drawn_lot [] (aCons (wCall sp__law_cell [] (aCons (wVar 0) (aCons (wLit (.int 1)) (aNil)))) (aCons (wLit (.int 26)) (aCons (wVar 2) (aCons (wBinB opIx (lVar 1) (bOf (wLit (.int 4)))) (aNil)))))))
  (t__law_part_b_s4)
def t__law_part_b_s2 : SW := sSeq (sIf (cBl (wBin (opEq dnL) (wBinB opIx (lVar 1) (bOf (wLit (.int 0)))) (wLit (.int 0)))) (sSet 2 (wBin (opAdd dnL) (wLit (.int 1)) (wBinB opIx (lVar 1) (bOf (wLit (.int 2)))))) (sNext))
  (t__law_part_b_s3)
def t__law_part_b_s1 : SW := sSeq (sSet 2 (wBin (opAdd dnL) (wLit (.int 1)) (wBinB opIx (lVar 1) (bOf (wLit (.int 1))))))
  (t__law_part_b_s2)
def t__law_part_b : SW := sSeq (sSet 1 (wCall sp__law_draws [] (aCons (wCall sp__law_cell [] (aCons (wVar 0) (aCons (wLit (.int 0)) (aNil)))) (aCons (wLit (.int 5992)) (aCons (wLst (aCons (wLit (.int 8)) (aCons (wLit (.int 24)) (aCons (wLit (.int 360)) (aCons (wLit (.int 8)) (aCons (wLit (.int 8)) (aCons (wLit (.int 8)) (aCons (wLit (.int 6)) (aCons (wLit (.int 2)) (aNil)))))))))) (aNil))))))
  (t__law_part_b_s1)
def t_law : SW := sSeq (sIf (cNot (cOfB (bOf (wCall sp__law_part_a [] (aCons (wVar 0) (aNil)))))) (sRet (wLit (.bl false))) (sNext))
  (sRet (wCall sp__law_part_b [] (aCons (wVar 0) (aNil))))
end VL
end
section
set_option linter.all false
set_option maxRecDepth 100000
set_option maxHeartbeats 4000000
set_option exponentiation.threshold 2000
namespace VL
open PySem
/-! ### sets of hours -/
theorem sorted_ext : ∀ {a b : List Int}, a.Pairwise (· < ·) → b.Pairwise (· < ·) → (∀ x, x ∈ a ↔ x ∈ b) → a = b
  | [], [], _, _, _ => rfl
  | [], y :: ys, _, _, h => absurd ((h y).mpr List.mem_cons_self) (by simp)
  | x :: xs, [], _, _, h => absurd ((h x).mp List.mem_cons_self) (by simp)
  | x :: xs, y :: ys, ha, hb, h => by
    obtain ⟨a1, a2⟩ := List.pairwise_cons.mp ha
    obtain ⟨b1, b2⟩ := List.pairwise_cons.mp hb
    have e : x = y := by
      have h1 := (h x).mp List.mem_cons_self
      have h2 := (h y).mpr List.mem_cons_self
      rcases List.mem_cons.mp h1 with e | h1
      · exact e
      · rcases List.mem_cons.mp h2 with e | h2
        · exact e.symm
        · have := a1 y h2
          have := b1 x h1
          omega
    subst e
    congr 1
    refine sorted_ext a2 b2 fun z => ⟨fun hz => ?_, fun hz => ?_⟩
    · rcases List.mem_cons.mp ((h z).mp (List.mem_cons_of_mem _ hz)) with e | q
      · have := a1 z hz
        omega
      · exact q
    · rcases List.mem_cons.mp ((h z).mpr (List.mem_cons_of_mem _ hz)) with e | q
      · have := b1 z hz
        omega
      · exact q
theorem SetL.ext {n : Int} {a b : List Int} (ha : SetL n a) (hb : SetL n b) (h : ∀ x, 0 ≤ x → x < n → (x ∈ a ↔ x ∈ b)) : a = b :=
  sorted_ext ha.1 hb.1 fun x => ⟨fun q => (h x (ha.2 x q).1 (ha.2 x q).2).mp q, fun q => (h x (hb.2 x q).1 (hb.2 x q).2).mpr q⟩
theorem SetL.filt {n : Int} (p : Int → Bool) : SetL n ((rgI 0 n.toNat).filter p) := ⟨(rg_sorted 0 _).filter p, fun m hm => by
  have := mem_rg.mp (List.mem_filter.mp hm).1
  omega⟩
theorem SetL.len {n : Int} {ms : List Int} (h : SetL n ms) : ms.length ≤ n.toNat := by
  have key : ∀ (ms : List Int) (lo : Int), ms.Pairwise (· < ·) → (∀ m ∈ ms, lo ≤ m ∧ m < n) → ms.length ≤ (n - lo).toNat := by
    intro ms
    induction ms with
    | nil => intro lo _ _; simp
    | cons m ms ih =>
      intro lo hp hr
      obtain ⟨h1, h2⟩ := List.pairwise_cons.mp hp
      have := ih (m + 1) h2 fun y hy => ⟨by have := h1 y hy; omega, (hr y (List.mem_cons_of_mem _ hy)).2⟩
      have := hr m List.mem_cons_self
      simp only [List.length_cons]
      omega
  have := key ms 0 h.1 h.2
  simpa using this
theorem SetL.lt {n : Int} {ms : List Int} (r : Rng n) (h : SetL n ms) : ms.length ≤ 360 := by
  have := h.len
  have := r.2
  omega
theorem SetL.nil {n : Int} : SetL n [] := ⟨.nil, fun _ h => by cases h⟩
theorem SetL.push {n m x : Int} {ms : List Int} (h : SetL m ms) (hx : 0 ≤ x) (hm : m ≤ x) (hn : x < n) : SetL n (ms ++ [x]) := by
  refine ⟨List.pairwise_append.mpr ⟨h.1, by simp, fun a ha b hb => ?_⟩, fun a ha => ?_⟩
  · rw [List.mem_singleton.mp hb]
    have := (h.2 a ha).2
    omega
  · rcases List.mem_append.mp ha with z | z
    · have := h.2 a z
      omega
    · rw [List.mem_singleton.mp z]
      omega
theorem SetL.mono {n m : Int} {ms : List Int} (h : SetL m ms) (l : m ≤ n) : SetL n ms := ⟨h.1, fun a ha => by have := h.2 a ha; omega⟩
theorem cutD_map {α β : Type} (f : α → β) (xs : List α) (a b : Option Int) : cutD (xs.map f) a b = (cutD xs a b).map f := by
  unfold cutD
  rw [List.length_map, List.map_take, List.map_drop]
theorem cut_len {α : Type} (xs : List α) (a b : Option Int) : (cutD xs a b).length ≤ xs.length := by
  unfold cutD
  rw [List.length_take, List.length_drop]
  omega
theorem cut_sub {α : Type} (xs : List α) (a b : Option Int) : (cutD xs a b).Sublist xs := (List.take_sublist _ _).trans (List.drop_sublist _ _)

theorem r_pos {n : Int} (r : Rng n) : 0 < n := by have := r.1; omega
theorem sel_set {n : Int} {p : Int → Bool} : SetL n (sel n p) := SetL.filt p
theorem mem_sel {n x : Int} {p : Int → Bool} : x ∈ sel n p ↔ (0 ≤ x ∧ x < n) ∧ p x = true := by
  unfold sel
  rw [List.mem_filter, mem_rg]
  constructor
  · exact fun h => ⟨by omega, h.2⟩
  · exact fun h => ⟨by omega, h.2⟩
theorem rg_set {n : Int} : SetL n (rgI 0 n.toNat) := ⟨rg_sorted _ _, fun m hm => by have := mem_rg.mp hm; omega⟩
theorem SetL.nd {n : Int} {ms : List Int} (h : SetL n ms) : ms.Nodup := h.1.imp fun a => by omega
theorem SetL.rd {n : Int} {ms : List Int} (h : SetL n ms) : VL.red n ms = ms := by
  have : VL.red n ms = ms.map id := List.map_congr_left fun m hm => Int.emod_eq_of_lt (h.2 m hm).1 (h.2 m hm).2
  rw [this, List.map_id]
theorem SetL.eqv {n : Int} {a b : List Int} (ha : SetL n a) (hb : SetL n b) (h : ∀ x, x ∈ a ↔ x ∈ b) : a = b := sorted_ext ha.1 hb.1 h
theorem os_set {n : Int} {xs os : List Int} (nd : xs.Nodup) (hr : ∀ x ∈ xs, 0 ≤ x ∧ x < n) (hp : os.Perm xs) (hs : os.Pairwise (· ≤ ·)) : SetL n os :=
  ⟨hs.imp₂ (fun _ _ h1 h2 => Int.lt_iff_le_and_ne.mpr ⟨h1, h2⟩) (hp.nodup_iff.mpr nd), fun x hx => hr x (hp.mem_iff.mp hx)⟩
theorem red_rng {n : Int} (r : Rng n) {vs : List Int} : ∀ x ∈ red n vs, 0 ≤ x ∧ x < n := fun x hx => by
  obtain ⟨m, _, rfl⟩ := List.mem_map.mp hx
  exact ⟨Int.emod_nonneg _ (by have := r.1; omega), Int.emod_lt_of_pos _ (r_pos r)⟩
/-- a Lot of vs -/
theorem use_lot {n : Int} {vs S : List Int} {Q : QR} {X : QX} (r : Rng n) (hl : vs.length ≤ 4000) (hs : SetL n S) (nd : (red n vs).Nodup) (hm : ∀ x, x ∈ S ↔ x ∈ red n vs) (q : Q (.fz (lotD n S))) : sp_Lot___init__ [.int n, .lst (vs.map D.int)] Q X :=
  ⟨n, vs, rfl, hl, fun z => absurd r z, fun _ _ S' h1 h2 => by
    rw [SetL.eqv h1 hs fun x => (h2 x).trans (hm x).symm]
    exact q, fun _ z => absurd nd z⟩
theorem use_lotS {n : Int} {S : List Int} {Q : QR} {X : QX} (r : Rng n) (hs : SetL n S) (q : Q (.fz (lotD n S))) : sp_Lot___init__ [.int n, .lst (S.map D.int)] Q X :=
  use_lot r (by have := hs.lt r; omega) hs (by rw [hs.rd]; exact hs.nd) (by rw [hs.rd]; exact fun x => Iff.rfl) q
/-- members moved by f, back by g -/
theorem moved {n : Int} (r : Rng n) {ms : List Int} (h : SetL n ms) (f g : Int → Int) (h1 : ∀ m, 0 ≤ m → m < n → g (f m % n) % n = m) (h2 : ∀ x, 0 ≤ x → x < n → f (g x % n) % n = x) :
    (red n (ms.map f)).Nodup ∧ ∀ x, x ∈ sel n (fun x => decide (g x % n ∈ ms)) ↔ x ∈ red n (ms.map f) := by
  have e : red n (ms.map f) = ms.map fun m => f m % n := by
    unfold red
    rw [List.map_map]
    rfl
  rw [e]
  refine ⟨List.pairwise_map.mpr (h.1.imp_of_mem fun {x y} hx hy hxy e => ?_), fun x => ?_⟩
  · have hx := h.2 x hx
    have hy := h.2 y hy
    have a := h1 x hx.1 hx.2
    rw [e, h1 y hy.1 hy.2] at a
    omega
  · rw [mem_sel, List.mem_map]
    constructor
    · rintro ⟨⟨x0, x1⟩, hm⟩
      exact ⟨_, of_decide_eq_true hm, h2 x x0 x1⟩
    · rintro ⟨m, hm, rfl⟩
      have hr := h.2 m hm
      refine ⟨⟨Int.emod_nonneg _ (by have := r.1; omega), Int.emod_lt_of_pos _ (r_pos r)⟩, decide_eq_true ?_⟩
      rw [h1 m hr.1 hr.2]
      exact hm
theorem mv_add {n : Int} (r : Rng n) (b : Int) : (∀ m, 0 ≤ m → m < n → ((m + b) % n - b) % n = m) ∧ ∀ x, 0 ≤ x → x < n → ((x - b) % n + b) % n = x := by
  refine ⟨fun m m0 m1 => ?_, fun x x0 x1 => ?_⟩
  · rw [Int.sub_emod, Int.emod_emod_of_dvd _ (Int.dvd_refl n), ← Int.sub_emod, Int.add_sub_cancel]
    exact Int.emod_eq_of_lt m0 m1
  · rw [Int.add_emod, Int.emod_emod_of_dvd _ (Int.dvd_refl n), ← Int.add_emod, Int.sub_add_cancel]
    exact Int.emod_eq_of_lt x0 x1
theorem mv_neg {n : Int} (r : Rng n) : (∀ m, 0 ≤ m → m < n → (0 - (-m) % n) % n = m) ∧ ∀ x, 0 ≤ x → x < n → (-((0 - x) % n)) % n = x := by
  have key : ∀ m, 0 ≤ m → m < n → (0 - (0 - m) % n) % n = m := fun m m0 m1 => by
    rw [Int.sub_emod, Int.emod_emod_of_dvd _ (Int.dvd_refl n), ← Int.sub_emod, show 0 - (0 - m) = m by omega]
    exact Int.emod_eq_of_lt m0 m1
  refine ⟨fun m m0 m1 => ?_, fun x x0 x1 => ?_⟩
  · rw [show -m = 0 - m by omega]
    exact key m m0 m1
  · rw [show -((0 - x) % n) = 0 - (0 - x) % n by omega]
    exact key x x0 x1
/-! ### the first repeated one -/
theorem FirstRep.uniq {rs : List Int} {x y : Int} (h : FirstRep rs x) (h' : FirstRep rs y) : x = y := by
  obtain ⟨k, e1, e2, e3⟩ := h
  obtain ⟨k', f1, f2, f3⟩ := h'
  by_cases q : k < k'
  · exact absurd e2 (f3 k q x e1)
  · by_cases q2 : k' < k
    · exact absurd f2 (e3 k' q2 y f1)
    · have : k = k' := by omega
      subst this
      rw [e1] at f1
      exact Option.some.inj f1
theorem nodup_of {rs : List Int} (h : ∀ j : Nat, j < rs.length → ∀ y, rs[j]? = some y → y ∉ rs.take j) : rs.Nodup := by
  unfold List.Nodup
  rw [List.pairwise_iff_getElem]
  intro i j hi hj hij e
  refine h j hj rs[j] (List.getElem?_eq_getElem hj) ?_
  rw [← e]
  rw [List.mem_take_iff_getElem]
  exact ⟨i, by omega, rfl⟩
theorem FirstRep.mem {rs : List Int} {x : Int} (h : FirstRep rs x) : x ∈ rs := by
  obtain ⟨k, e1, _⟩ := h
  exact List.mem_of_getElem? e1
theorem FirstRep.nn {rs : List Int} {x : Int} (h : FirstRep rs x) : ¬ rs.Nodup := fun nd => by
  obtain ⟨k, e1, e2, _⟩ := h
  obtain ⟨i, hi, e⟩ := List.mem_take_iff_getElem.mp e2
  have hk := (List.getElem?_eq_some_iff.mp e1)
  obtain ⟨hk, e3⟩ := hk
  have := List.pairwise_iff_getElem.mp nd i k (by omega) hk (by omega)
  exact this (by rw [e, e3])
theorem cutD_take {α : Type} (xs : List α) (k : Nat) : cutD xs none (some (k : Int)) = xs.take k := by
  have e : cutD xs none (some (k : Int)) = (xs.drop 0).take ((if (k : Int) < 0 then ((k : Int) + (xs.length : Int)).toNat else min (k : Int).toNat xs.length) - 0) := rfl
  rw [e, if_neg (by omega)]
  simp only [List.drop_zero, Int.toNat_natCast, Nat.sub_zero]
  rw [List.take_eq_take_iff]
  omega
theorem ddup_len {is : List Int} : (ddup is).length ≤ is.length ∧ ((ddup is).length = is.length ↔ is.Nodup) := by
  have key : ∀ (xs acc : List Int), acc.Nodup → (xs.foldl (fun acc x => if acc.any (· == x) then acc else acc ++ [x]) acc).length ≤ acc.length + xs.length ∧ ((xs.foldl (fun acc x => if acc.any (· == x) then acc else acc ++ [x]) acc).length = acc.length + xs.length ↔ (acc ++ xs).Nodup) := by
    intro xs
    induction xs with
    | nil => intro acc hn; simp [hn]
    | cons x xs ih =>
      intro acc hn
      rw [List.foldl_cons]
      by_cases hx : x ∈ acc
      · have : acc.any (· == x) = true := List.any_eq_true.mpr ⟨x, hx, by simp⟩
        rw [this]
        simp only [if_true]
        have i := (ih acc hn).1
        refine ⟨by simp only [List.length_cons]; omega, fun e => ?_, fun e => ?_⟩
        · simp only [List.length_cons] at e
          omega
        · exact absurd rfl ((List.nodup_append.mp e).2.2 x hx x List.mem_cons_self)
      · have : acc.any (· == x) = false := by
          rw [List.any_eq_false]
          intro y hy e
          have : y = x := by simpa using e
          subst this
          exact hx hy
        rw [this]
        simp only [Bool.false_eq_true, if_false]
        have i := ih (acc ++ [x]) (List.nodup_append.mpr ⟨hn, by simp, fun a ha b hb e => by rw [List.mem_singleton.mp hb] at e; exact hx (e ▸ ha)⟩)
        simp only [List.length_append, List.length_cons, List.length_nil, List.append_assoc, List.cons_append, List.nil_append] at i ⊢
        refine ⟨by omega, fun e => i.2.mp (by omega), fun e => ?_⟩
        have := i.2.mpr e
        omega
  have := key is [] (by simp)
  rw [List.length_nil, Nat.zero_add, List.nil_append] at this
  exact this
end VL
end
section
set_option linter.all false
set_option maxRecDepth 100000
set_option maxHeartbeats 4000000
set_option exponentiation.threshold 2000
namespace VL
open PySem
theorem p__law_cell (ds : List D) (Q : QR) (X : QX) (h : sp__law_cell ds Q X) : runBody t__law_cell (startD 2 [false, false] ds) Q X := by
  obtain ⟨ns, k, rfl, k0, q⟩ := h
  simp [runBody, t__law_cell, startD, slotsOf, slotOf]
  split
  · rename_i hk
    rw [ix_cell k0 hk]
    simp
    exact q _ (by split <;> omega)
  · exact q 0 (by decide)
theorem p__law_draws (ds : List D) (Q : QR) (X : QX) (h : sp__law_draws ds Q X) : runBody t__law_draws (startD 7 [false, false, false] ds) Q X := by
  obtain ⟨cell, salt, menu, rfl, c0, hs, hl, hm, q⟩ := h
  simp [runBody, t__law_draws, startD, slotsOf, slotOf]
  refine ⟨⟨by decide, by decide, by decide⟩, ?_, s62 (by omega) (by omega), ?_⟩
  · exact mul_ok (m := 20) (n := 17) (by unfold Sz; decide) (Nat.lt_of_lt_of_le hs (by decide)) (by decide)
  refine loop_ints (fun i δ' => ∃ (out : List Int) (rest mixed : Int) (o : Option Sl), δ' = [some (.fz (.int cell)), some (.fz (.int salt)), some (.fz (.lst (menu.map D.int))), some (.own (out.map D.int)), some (.fz (.int rest)), some (.fz (.int mixed)), o] ∧ out.length = i ∧ Inp menu out ∧ (0 ≤ rest ∨ Sz 62 mixed))
    ⟨[], _, _, none, rfl, rfl, fun i m o _ e => by simp at e, ?_⟩ (fun i δ' hi ⟨out, rest, mixed, o, e, el, hp, hr⟩ => ?_) (fun δ' ⟨out, rest, mixed, o, e, el, hp, hr⟩ => ?_)
  · by_cases h1 : (1000000000000000000 : Int) ≤ cell
    · left; omega
    · right
      unfold Sz
      omega
  · subst e el
    have hi2 : out.length < menu.length := by omega
    obtain ⟨m, em⟩ : ∃ m, menu[out.length]? = some m := ⟨_, List.getElem?_eq_getElem hi2⟩
    have hmm := hm m (List.mem_of_getElem? em)
    have ix : ixD (menu.map D.int) ((out.length : Nat) : Int) = some (.int m) := ix_map em
    simp [ix]
    split
    · rename_i hr0
      refine ⟨by omega, by omega, div_ok (n := 1000) (sz_of (by omega) hmm.2) (by decide) (by omega), out ++ [rest.fmod m], rest.fdiv m, mixed, ⟨by simp, rfl, rfl⟩, by simp, hp.push em (Int.fmod_nonneg_of_pos _ hmm.1) (Int.fmod_lt_of_pos _ hmm.1), .inl (Int.fdiv_nonneg hr0 (by omega))⟩
    · rename_i hr0
      have sm : Sz 62 mixed := by rcases hr with h | h; omega; exact h
      generalize e1 : (mixed * mixed + 3571 * ((out.length : Int) + 1) + 40692).fmod 2147483399 = m1
      have b1 : 0 ≤ m1 ∧ m1 < 2147483399 := by rw [← e1]; exact ⟨Int.fmod_nonneg_of_pos _ (by decide), Int.fmod_lt_of_pos _ (by decide)⟩
      generalize e2 : (m1 * m1 + m1.fdiv 97).fmod 2147483629 = m2
      have b2 : 0 ≤ m2 ∧ m2 < 2147483629 := by rw [← e2]; exact ⟨Int.fmod_nonneg_of_pos _ (by decide), Int.fmod_lt_of_pos _ (by decide)⟩
      have s1 : Sz 32 m1 := sz_of b1.1 (by omega)
      have s2 : Sz 62 m2 := sz_of b2.1 (by omega)
      refine ⟨mul_ok sm sm (by decide), mul_ok (m := 20) (n := 20) (by unfold Sz; decide) (sz_of (by omega) (by omega)) (by decide), mul_ok s1 s1 (by decide), div_ok (n := 10) (by unfold Sz; decide) (by decide) (by decide), div_ok (n := 10) (by unfold Sz; decide) (by decide) (by decide), by omega, by omega, out ++ [(m2.fdiv 8).fmod m], rest, m2, ⟨by simp, rfl, rfl⟩, by simp, hp.push em (Int.fmod_nonneg_of_pos _ hmm.1) (Int.fmod_lt_of_pos _ hmm.1), .inr s2⟩
  · subst e
    simp
    exact q out ⟨by simpa using el, hp⟩
theorem p__law_is_int (ds : List D) (Q : QR) (X : QX) (h : sp__law_is_int ds Q X) : runBody t__law_is_int (startD 1 [false] ds) Q X := by
  obtain ⟨i, rfl, q⟩ := h
  simp [runBody, t__law_is_int, startD, slotsOf, slotOf, isT]
  exact q
theorem use_same {n : Nat} {d : D} {Q : QR} {X : QX} (h : okN n d) (q : Q (.fz (.bl true))) : sp__law_same_n n [d, d] Q X := by
  cases n with
  | zero => exact h.elim
  | succ n => exact ⟨d, rfl, h, q⟩
theorem p__law_same (n : Nat) (ds : List D) (Q : QR) (X : QX) (h : sp__law_same_n (n + 1) ds Q X) : runBody (t__law_same (sp__law_same_n n)) (startD 3 [false, false] ds) Q X := by
  obtain ⟨d, rfl, hd, q⟩ := h
  have go : ∀ (xs : List D) (d : D), (∀ x ∈ xs, okN n x) → xs.length ≤ 16000000 → (∀ i : Int, ∀ P : QR, ∀ X : QX, opIx d (.int i) P X = (match ixD xs i with
      | some v => P (.fz v)
      | none => False)) → loopI (.nm 2) (sIf (cNot (cOfB (bOf (wCall (sp__law_same_n n) [] (aCons (wBinB opIx (lVar 0) (bOf (wVar 2))) (aCons (wBinB opIx (lVar 1) (bOf (wVar 2))) (aNil))))))) (sRet (wLit (.bl false))) (sNext)) (intsFrom 0 xs.length) { nx := fun δ' => Q (.fz (.bl true)), rt := Q, xq := fun x _ => X x } [some (.fz d), some (.fz d), none] := by
    intro xs d hx hl hix
    refine loop_ints (fun i δ => ∃ o, δ = [some (.fz d), some (.fz d), o]) ⟨_, rfl⟩ (fun i δ' hi ⟨o, e⟩ => ?_) (fun δ' ⟨o, e⟩ => q)
    subst e
    have ei := List.getElem?_eq_getElem hi
    have ex : ixD xs (i : Int) = some xs[i] := by
      have := ixD_map (f := fun x : D => x) ei
      rwa [List.map_id'] at this
    simp [hix, ex]
    exact use_same (hx _ (List.getElem_mem hi)) (by simp)
  cases d with
  | non => simp [runBody, t__law_same, startD, slotsOf, slotOf]; exact q
  | bl b =>
    cases b with
    | true => simp [runBody, t__law_same, startD, slotsOf, slotOf, opIs]; exact q
    | false => simp [runBody, t__law_same, startD, slotsOf, slotOf, opIs]; exact q
  | int i =>
    simp [runBody, t__law_same, startD, slotsOf, slotOf, opIs, isT]
    refine ⟨i, rfl, ?_⟩
    simp
    exact q
  | str x =>
    have hf : (x.cps.all fun c => decide (c < 1114112)) = true := hd
    simp [runBody, t__law_same, startD, slotsOf, slotOf, opIs, isT, D.nocls]
    have : opEq dnL (.str x) (.str x) Q X = Q (.fz (.bl true)) := by
      unfold opEq
      simp only [D.flat, hf, D.dep, D.eqv]
      simp
    have hq : opEq dnL (.str x) (.str x) Q (fun x => X x) := by
      show opEq dnL (.str x) (.str x) Q X
      rw [this]
      exact q
    exact hq
  | tup xs =>
    obtain ⟨h1, h2⟩ := hd
    simp [runBody, t__law_same, startD, slotsOf, slotOf, opIs, isT, D.nocls]
    refine ⟨s62 (by omega) (by omega), ?_⟩
    exact go xs _ h1 h2 fun _ _ _ => rfl
  | lst xs =>
    obtain ⟨h1, h2⟩ := hd
    simp [runBody, t__law_same, startD, slotsOf, slotOf, opIs, isT, D.nocls]
    refine ⟨s62 (by omega) (by omega), ?_⟩
    exact go xs _ h1 h2 fun _ _ _ => rfl
  | _ => exact hd.elim
theorem p__law_bits (ds : List D) (Q : QR) (X : QX) (h : sp__law_bits ds Q X) : runBody t__law_bits (startD 4 [false, false] ds) Q X := by
  obtain ⟨z, rfl, q⟩ := h
  simp [runBody, t__law_bits, startD, slotsOf, slotOf]
  refine ⟨s62 (by decide) (by decide), ?_⟩
  refine loop_ints (fun i δ => ∃ (num : Int) (out : List Int) (o : Option Sl), δ = [some (.fz (.int 25)), some (.fz (.int num)), some (.own (out.map D.int)), o] ∧ SetL i out) ⟨z, [], none, rfl, SetL.nil⟩ (fun i δ' hi ⟨num, out, o, e, hs⟩ => ?_) (fun δ' ⟨num, out, o, e, hs⟩ => ?_)
  · subst e
    have hl := hs.len
    simp
    have d2 : divOk 2 := ⟨by decide, by decide⟩
    split
    · refine ⟨by omega, d2, _, out ++ [(i : Int)], ⟨rfl, by simp⟩, ?_⟩
      exact hs.push (by omega) (Int.le_refl _) (by omega)
    · exact ⟨d2, _, out, ⟨rfl, rfl⟩, hs.mono (by omega)⟩
  · subst e
    simp
    exact q out hs _ rfl
theorem p__law_subset (ds : List D) (Q : QR) (X : QX) (h : sp__law_subset ds Q X) : runBody t__law_subset (startD 7 [false, false, false] ds) Q X := by
  obtain ⟨c, s, n, rfl, c0, hs, r, q⟩ := h
  have n0 := r_pos r
  have n1 := r.2
  simp [runBody, t__law_subset, startD, slotsOf, slotOf, repN]
  have d25 : divOk 25 := ⟨by decide, by decide⟩
  have fe : (n - 1).fdiv 25 = (n - 1) / 25 := fdE (by decide)
  rw [fe]
  have n1' := r.2
  have k0 : 0 ≤ (n - 1) / 25 := by omega
  have k1 : (n - 1) / 25 ≤ 14 := by omega
  refine ⟨⟨by decide, by decide, by decide⟩, d25, ⟨by omega, by omega, by omega⟩, ?_⟩
  refine use_draws (menu := List.replicate (1 + (n - 1) / 25).toNat 33554432) (by simp) c0 hs (by simp; omega) (fun m hm => ?_) fun out ho => ?_
  · have := (List.mem_replicate.mp hm).2
    subst this
    exact ⟨by decide, by decide⟩
  have hol : out.length ≤ 15 := by rw [ho.1, List.length_replicate]; omega
  simp
  refine ⟨s62 (by omega) (by omega), ?_⟩
  refine loop_ints (fun i δ => ∃ (fs : List Int) (o5 o6 : Option Sl), δ = [some (.fz (.int c)), some (.fz (.int s)), some (.fz (.int n)), some (.fz (.lst (fs.map D.int))), some (.fz (.lst (out.map D.int))), o5, o6] ∧ SetL n fs ∧ SetL (25 * i) fs) ⟨[], none, none, rfl, SetL.nil, SetL.nil⟩ (fun i δ' hi ⟨fs, o5, o6, e, h1, h2⟩ => ?_) (fun δ' ⟨fs, o5, o6, e, h1, h2⟩ => ?_)
  · subst e
    have ei := List.getElem?_eq_getElem hi
    have ex := ix_map ei
    have fl := h1.lt r
    simp [x_lc, ex]
    refine ⟨_, rfl, fun bs hb rr er => ?_⟩
    show (match seqOf rr.d with | some ds => _ | none => False)
    rw [er]
    show compI _ _ _ _ _ _ _
    have bl := hb.len
    have m1 : mulOk 25 (i : Int) := mul_ok (m := 20) (n := 20) (by unfold Sz; decide) (by unfold Sz; omega) (by decide)
    refine comp_fm (fun m => decide (25 * (i : Int) + m < n)) (fun m => .int (25 * (i : Int) + m)) (by omega) (fun m hm P hp => ?_) (fun m hm _ R' hr => ?_) ?_
    · simp [Fr.wipe, m1]
      exact hp
    · simp [Fr.wipe, m1]
      exact hr _ rfl
    · have lf := List.length_filter_le (fun m => decide (25 * (i : Int) + m < n)) bs
      simp
      refine ⟨by omega, fs ++ (bs.filter (fun m => decide (25 * (i : Int) + m < n))).map (fun m => 25 * (i : Int) + m), ?_, ?_, ?_⟩
      · simp
      all_goals
        refine ⟨List.pairwise_append.mpr ⟨h1.1, List.pairwise_map.mpr ((hb.1.filter _).imp fun hh => by omega), fun a ha b hb' => ?_⟩, fun a ha => ?_⟩
        · obtain ⟨m, hm, rfl⟩ := List.mem_map.mp hb'
          have := (hb.2 m (List.mem_filter.mp hm).1).1
          have := (h2.2 a ha).2
          omega
        · rcases List.mem_append.mp ha with z | z
          · have := h1.2 a z
            have := h2.2 a z
            omega
          · obtain ⟨m, hm, rfl⟩ := List.mem_map.mp z
            have := hb.2 m (List.mem_filter.mp hm).1
            have := (List.mem_filter.mp hm).2
            simp at this
            omega
  · subst e
    simp
    exact q fs h1 _ rfl
theorem p__law_digits (ds : List D) (Q : QR) (X : QX) (h : sp__law_digits ds Q X) : runBody t__law_digits (startD 4 [false, false] ds) Q X := by
  obtain ⟨cell, salt, rfl, c0, hs, q⟩ := h
  simp [runBody, t__law_digits, startD, slotsOf, slotOf, repN]
  refine ⟨⟨by decide, by decide, by decide⟩, ?_⟩
  refine use_draws (menu := List.replicate 6 (10 ^ 10)) (by simp) c0 hs (by simp) (fun m hm => ?_) fun out ⟨ol, oi⟩ => ?_
  · have := (List.mem_replicate.mp hm).2
    subst this
    exact ⟨by decide, by decide⟩
  · simp at ol
    simp
    refine loop_map (fun i δ' => ∃ (n : Int) (o : Option Sl), δ' = [some (.fz (.int cell)), some (.fz (.int salt)), some (.fz (.int n)), o] ∧ 0 ≤ n ∧ n < 10 ^ (10 * i)) ⟨0, none, rfl, by decide, by decide⟩ (fun i m δ' em ⟨n, o, e, n0, n1⟩ => ?_) (fun δ' ⟨n, o, e, n0, n1⟩ => ?_)
    · subst e
      have hi : i < 6 := by have := (List.getElem?_eq_some_iff.mp em).1; omega
      obtain ⟨m0, m1⟩ := oi i (10 ^ 10) m (by rw [List.getElem?_replicate, if_pos hi]) em
      simp
      refine ⟨⟨by decide, by decide, by decide⟩, ?_, ?_⟩
      · refine mul_ok (m := 200) (n := 40) ?_ (by unfold Sz; decide) (by decide)
        refine sz_of n0 (Int.lt_of_lt_of_le n1 ?_)
        have : i = 0 ∨ i = 1 ∨ i = 2 ∨ i = 3 ∨ i = 4 ∨ i = 5 := by omega
        rcases this with rfl | rfl | rfl | rfl | rfl | rfl <;> decide
      · have : i = 0 ∨ i = 1 ∨ i = 2 ∨ i = 3 ∨ i = 4 ∨ i = 5 := by omega
        rcases this with rfl | rfl | rfl | rfl | rfl | rfl <;> (simp at n1 m1 ⊢; omega)
    · subst e
      simp
      rw [ol] at n1
      exact q n n0 n1
theorem zz_le {z : Int} (h : 0 ≤ z) : (zz z).natAbs ≤ z.natAbs := by
  unfold zz
  split <;> omega
theorem p__law_zigzag (ds : List D) (Q : QR) (X : QX) (h : sp__law_zigzag ds Q X) : runBody t__law_zigzag (startD 1 [false] ds) Q X := by
  obtain ⟨z, rfl, z0, q⟩ := h
  simp [runBody, t__law_zigzag, startD, slotsOf, slotOf]
  have d2 : divOk 2 := ⟨by decide, by decide⟩
  have e1 : (z + 1).fdiv 2 = (z + 1) / 2 := fdE (by decide)
  have e2 : z.fdiv 2 = z / 2 := fdE (by decide)
  have e3 : z.fmod 2 = z % 2 := fmE (by decide)
  rw [e1, e2, e3]
  unfold zz at q
  split
  · rename_i h
    rw [if_pos h] at q
    exact ⟨d2, by simpa using q⟩
  · rename_i h
    rw [if_neg h] at q
    exact ⟨d2, q⟩
end VL
end
section
set_option linter.all false
set_option maxRecDepth 100000
set_option maxHeartbeats 4000000
set_option exponentiation.threshold 2000
namespace VL
open PySem
@[simp] theorem x_iName_l {i : Nat} {δ : Fr} {xs : List D} {P : List D → Prop} {X : QX} (h : δ[i]? = some (some (.lent xs))) : iName i δ P X = P xs := by unfold iName; rw [h]
theorem p_hours_checked (ds : List D) (Q : QR) (X : QX) (h : sp_hours_checked ds Q X) : runBody t_hours_checked (startD 2 [false, false] ds) Q X := by
  obtain ⟨a, m, rfl, h1, h2⟩ := h
  simp [runBody, t_hours_checked, startD, slotsOf, slotOf]
  by_cases p : 1 ≤ a
  · by_cases q : a ≤ m
    · simp [p, q]
      exact h1 ⟨p, q⟩
    · simp [p, q]
      exact ⟨by decide, h2 fun z => q z.2⟩
  · simp [p]
    exact ⟨by decide, h2 fun z => p z.1⟩
theorem p_rings_checked (ds : List D) (Q : QR) (X : QX) (h : sp_rings_checked ds Q X) : runBody t_rings_checked (startD 2 [false, false] ds) Q X := by
  obtain ⟨n, a, k, b, rfl, h1, h2⟩ := h
  simp [runBody, t_rings_checked, startD, slotsOf, slotOf, lotD]
  by_cases p : n = k
  · simp [p]
    exact h1 p
  · simp [p]
    exact h2 p
theorem p_first_repeated (ds : List D) (Q : QR) (X : QX) (h : sp_first_repeated ds Q X) : runBody t_first_repeated (startD 2 [false] ds) Q X := by
  obtain ⟨rs, rfl, hl, nn, q⟩ := h
  simp [runBody, t_first_repeated, startD, slotsOf, slotOf, intsD]
  refine ⟨⟨s62 (by decide) (by decide), s62 (by omega) (by omega)⟩, ?_⟩
  refine loop_ints (fun i δ => ∃ o, δ = [some (.fz (intsD rs)), o] ∧ ∀ j : Nat, j < 1 + i → ∀ y, rs[j]? = some y → y ∉ rs.take j) ⟨none, rfl, fun j hj y _ => ?_⟩ (fun i δ' hi ⟨o, e, hm⟩ => ?_) (fun δ' ⟨o, e, hm⟩ => ?_)
  · have : j = 0 := by omega
    subst this
    simp
  · subst e
    have hi2 : i + 1 < rs.length := by omega
    have ei := List.getElem?_eq_getElem hi2
    have ex := ix_map ei
    rw [show ((i + 1 : Nat) : Int) = 1 + (i : Int) by omega] at ex
    have ec : cutD (rs.map D.int) none (some (1 + (i : Int))) = (rs.take (i + 1)).map D.int := by
      rw [cutD_map, show (1 + (i : Int)) = ((i + 1 : Nat) : Int) by omega, cutD_take]
    simp [intsD, ex, ec, -List.map_take, in_ints]
    split
    · rename_i hin
      exact q _ ⟨i + 1, ei, hin, fun j hj y ey => hm j (by omega) y ey⟩
    · rename_i hin
      intro j hj y ey
      by_cases hb : j = i + 1
      · subst hb
        rw [ei] at ey
        cases ey
        exact hin
      · exact hm j (by omega) y ey
  · exact absurd (nodup_of fun j hj y ey => hm j (by omega) y ey) nn
theorem p_Lot___init__ (ds : List D) (Q : QR) (X : QX) (h : sp_Lot___init__ ds Q X) : runInit t_Lot___init__ 0 2 (startI 6 0 [false, true] ds) Q X := by
  obtain ⟨n, ms, rfl, hl, q1, q2, q3⟩ := h
  unfold runInit t_Lot___init__ startI
  simp [slotsOf, slotOf, intsD, x_lc]
  refine ⟨n, 360, rfl, fun r => ?_, fun r => q1 r⟩
  have r : Rng n := r
  have n0 := r_pos r
  simp [x_lc]
  refine comp_m (fun m => D.int (m % n)) (by omega) (fun m hm R' hr => ?_) ?_
  · simp [Fr.wipe]
    refine ⟨by omega, ?_⟩
    rw [fmE (by omega)]
    exact hr _ rfl
  have e : ms.map (fun m => D.int (m % n)) = (red n ms).map D.int := by unfold red; rw [List.map_map]; rfl
  rw [e]
  have rr := red_rng r (vs := ms)
  have hrl : (red n ms).length = ms.length := by unfold red; rw [List.length_map]
  generalize red n ms = rs at *
  obtain ⟨d1, d2⟩ := ddup_len (is := rs)
  simp [x_lc, intsOf_map]
  refine ⟨by omega, ?_⟩
  by_cases nd : rs.Nodup
  · rw [if_neg (by have := d2.mpr nd; omega)]
    refine comp_m (fun m => D.int m) (by omega) (fun m hm R' hr => ?_) ?_
    · simp [Fr.wipe]
      exact hr _ rfl
    · simp
      intro os hp hs
      show (0 = 0 ∧ 2 = 2) ∧ _
      exact ⟨⟨rfl, rfl⟩, q2 r nd os (os_set nd rr hp hs) fun x => hp.mem_iff⟩
  · have : (ddup rs).length < rs.length := by
      rcases Nat.lt_or_eq_of_le d1 with z | z
      · exact z
      · exact absurd (d2.mp z) nd
    rw [if_pos this]
    exact ⟨rs, rfl, by omega, nd, fun x hx => q3 r nd x hx⟩
theorem p_Lot_full (ds : List D) (Q : QR) (X : QX) (h : sp_Lot_full ds Q X) : runBody t_Lot_full (startD 2 [false, false] ds) Q X := by
  obtain ⟨n, rfl, q1, q2⟩ := h
  simp [runBody, t_Lot_full, startD, slotsOf, slotOf, wClsCon, wMakeV, List.lookup]
  refine ⟨n, 360, rfl, fun r => ?_, fun r => q2 r⟩
  have r : Rng n := r
  simp [wMakeV]
  refine ⟨⟨s62 (by have := r.1; omega) (by have := r.2; omega), by have := r.2; unfold small24; omega⟩, ?_⟩
  rw [intsFrom_rg]
  exact use_lotS r rg_set (q1 r)
theorem p_Lot_members (ds : List D) (Q : QR) (X : QX) (h : sp_Lot_members ds Q X) : runBody t_Lot_members (startD 1 [false] ds) Q X := by
  obtain ⟨n, ms, rfl, q⟩ := h
  simp [runBody, t_Lot_members, startD, slotsOf, slotOf, lotD, intsD]
  exact q
theorem p_Lot___len__ (ds : List D) (Q : QR) (X : QX) (h : sp_Lot___len__ ds Q X) : runBody t_Lot___len__ (startD 1 [false] ds) Q X := by
  obtain ⟨n, ms, rfl, q⟩ := h
  simp [runBody, t_Lot___len__, startD, slotsOf, slotOf, lotD, intsD]
  exact q
theorem p_Lot___contains__ (ds : List D) (Q : QR) (X : QX) (h : sp_Lot___contains__ ds Q X) : runBody t_Lot___contains__ (startD 2 [false, false] ds) Q X := by
  obtain ⟨n, ms, x, rfl, r, q⟩ := h
  have n0 := r_pos r
  simp [runBody, t_Lot___contains__, startD, slotsOf, slotOf, lotD, intsD, in_ints]
  refine ⟨by omega, ?_⟩
  rw [fmE (by omega)]
  exact q
theorem intsOf_back : ∀ {xs : List D} {b : List Int}, intsOf xs = some b → xs = b.map D.int
  | [], b, h => by cases h; rfl
  | x :: xs, b, h => by
    cases x with
    | int i =>
      unfold intsOf at h
      cases e : intsOf xs with
      | none => rw [e] at h; cases h
      | some c =>
        rw [e] at h
        cases h
        rw [List.map_cons, ← intsOf_back e]
    | _ => cases h
theorem p_Lot___eq__ (ds : List D) (Q : QR) (X : QX) (h : sp_Lot___eq__ ds Q X) : runBody t_Lot___eq__ (startD 2 [false, false] ds) Q X := by
  obtain ⟨n, a, d, b, rfl, e, q⟩ := h
  have no : ∀ d : D, d.nocls = true → isC 0 d = false → Q (.fz (.bl false)) → runBody t_Lot___eq__ (startD 2 [false, false] [lotD n a, d]) Q X := fun d h1 h2 h3 => by
    simp [runBody, t_Lot___eq__, startD, slotsOf, slotOf, h1, h2]
    exact h3
  cases d with
  | obj c xs =>
    unfold eqLot at e
    split at e
    · rename_i c k xs heq
      split at e
      · rename_i hc
        subst hc
        cases heq
        cases e2 : intsOf xs with
        | none => rw [e2] at e; cases e
        | some bs =>
          rw [e2] at e
          cases e
          rw [intsOf_back e2]
          simp [runBody, t_Lot___eq__, startD, slotsOf, slotOf, lotD, intsD, isC, eq_ints]
          by_cases hn : n = k
          · simp [hn] at q ⊢
            exact q
          · simp [hn] at q ⊢
            exact q
      · cases e
    all_goals first | (cases e; done) | (exfalso; rename_i z _ _; exact z _ _ rfl)
  | cls c => cases e
  | scr c => cases e
  | _ =>
    cases e
    exact no _ rfl rfl q
theorem mapD {ms : List Int} (f : Int → Int) : ms.map (fun m => D.int (f m)) = (ms.map f).map D.int := by rw [List.map_map]; rfl
theorem p_Lot___lshift__ (ds : List D) (Q : QR) (X : QX) (h : sp_Lot___lshift__ ds Q X) : runBody t_Lot___lshift__ (startD 3 [false, false] ds) Q X := by
  obtain ⟨n, ms, b, rfl, r, hs, q⟩ := h
  have hl := hs.lt r
  simp [runBody, t_Lot___lshift__, startD, slotsOf, slotOf, intsD, lotD, x_lc]
  refine comp_m (fun m => D.int (m + b)) (by omega) (fun m hm R' hr => ?_) ?_
  · simp [Fr.wipe]
    exact hr _ rfl
  · obtain ⟨h1, h2⟩ := moved r hs (fun m => m + b) (fun x => x - b) (mv_add r b).1 (mv_add r b).2
    rw [mapD]
    exact use_lot r (by rw [List.length_map]; omega) sel_set h1 h2 q
theorem p_Lot___rshift__ (ds : List D) (Q : QR) (X : QX) (h : sp_Lot___rshift__ ds Q X) : runBody t_Lot___rshift__ (startD 3 [false, false] ds) Q X := by
  obtain ⟨n, ms, b, rfl, r, hs, q⟩ := h
  have hl := hs.lt r
  simp [runBody, t_Lot___rshift__, startD, slotsOf, slotOf, intsD, lotD, x_lc]
  refine comp_m (fun m => D.int (m - b)) (by omega) (fun m hm R' hr => ?_) ?_
  · simp [Fr.wipe]
    exact hr _ rfl
  · obtain ⟨h1, h2⟩ := moved r hs (fun m => m + -b) (fun x => x - -b) (mv_add r (-b)).1 (mv_add r (-b)).2
    have e : ms.map (fun m => D.int (m - b)) = ms.map (fun m => D.int (m + -b)) := rfl
    rw [e, mapD]
    exact use_lot r (by rw [List.length_map]; omega) sel_set h1 h2 q
theorem p_Lot___neg__ (ds : List D) (Q : QR) (X : QX) (h : sp_Lot___neg__ ds Q X) : runBody t_Lot___neg__ (startD 2 [false] ds) Q X := by
  obtain ⟨n, ms, rfl, r, hs, q⟩ := h
  have hl := hs.lt r
  simp [runBody, t_Lot___neg__, startD, slotsOf, slotOf, intsD, lotD, x_lc]
  refine comp_m (fun m => D.int (-m)) (by omega) (fun m hm R' hr => ?_) ?_
  · simp [Fr.wipe]
    exact hr _ rfl
  · obtain ⟨h1, h2⟩ := moved r hs (fun m => -m) (fun x => 0 - x) (mv_neg r).1 (mv_neg r).2
    rw [mapD]
    exact use_lot r (by rw [List.length_map]; omega) sel_set h1 h2 q
end VL
end
section
set_option linter.all false
set_option maxRecDepth 100000
set_option maxHeartbeats 4000000
set_option exponentiation.threshold 2000
namespace VL
open PySem
@[simp] theorem x_tryN {hs : List Hc} {tb : SW} {k : Ko} {δ : Fr} : sTryN hs tb k δ = tb { k with xq := xMany hs k } δ := rfl
@[simp] theorem x_many_nil {k : Ko} {x : Xd} {δ : Fr} : xMany [] k x δ = k.xq x δ := rfl
@[simp] theorem x_many_cons {h : Hc} {hs : List Hc} {k : Ko} {x : Xd} {δ : Fr} : xMany (h :: hs) k x δ = (match h.ct x.c with
    | some b => if b = true then (match h.i with
      | some i => h.ts (kSuite i k) (δ.set i (some (.exc x.c x.xs)))
      | none => h.ts (kQuiet k) δ) else xMany hs k x δ
    | none => False) := rfl
theorem notIn_ints {dn : Dun} {x : Int} {a : List Int} {Q : QR} {X : QX} : opNotIn dn (.int x) (.lst (a.map D.int)) Q X = Q (.fz (.bl (decide (x ∉ a)))) := by
  unfold opNotIn
  rw [in_ints, decide_not]
  rfl
theorem p_Lot___invert__ (ds : List D) (Q : QR) (X : QX) (h : sp_Lot___invert__ ds Q X) : runBody t_Lot___invert__ (startD 2 [false] ds) Q X := by
  obtain ⟨n, ms, rfl, r, hs, q⟩ := h
  have n1 := r.2
  simp [runBody, t_Lot___invert__, startD, slotsOf, slotOf, intsD, lotD, x_lc]
  refine ⟨s62 (by have := r.1; omega) (by omega), ?_⟩
  rw [intsFrom_rg]
  refine comp_fm (fun x => decide (x ∉ ms)) D.int (by rw [rg_len]; omega) (fun m hm P hp => ?_) (fun m hm _ R' hr => ?_) ?_
  · simp only [x_cBl, x_bin, x_fld, x_bVar, Fr.wipe]
    simp [notIn_ints]
    simpa using hp
  · simp [Fr.wipe]
    exact hr _ rfl
  · exact use_lotS r sel_set q
theorem p_Lot___or__ (ds : List D) (Q : QR) (X : QX) (h : sp_Lot___or__ ds Q X) : runBody t_Lot___or__ (startD 3 [false, false] ds) Q X := by
  obtain ⟨n, a, k, b, rfl, r, ha, hb, q1, q2⟩ := h
  simp [runBody, t_Lot___or__, startD, slotsOf, slotOf, lotD]
  refine ⟨n, a, k, b, rfl, fun e => ?_, fun e => q2 e⟩
  subst e
  have la := ha.lt r
  have lb := hb.lt r
  simp [x_lc, intsD]
  refine comp_fm (fun x => decide (x ∉ a)) D.int (by omega) (fun m hm P hp => ?_) (fun m hm _ R' hr => ?_) ?_
  · simp only [x_cBl, x_bin, x_fld, x_bVar, Fr.wipe]
    simp [notIn_ints]
    simpa using hp
  · simp [Fr.wipe]
    exact hr _ rfl
  · have lf := List.length_filter_le (fun x => decide (x ∉ a)) b
    rw [← List.map_append]
    refine ⟨by rw [List.length_map]; omega, ?_⟩
    have hr : ∀ x ∈ a ++ b.filter (fun x => decide (x ∉ a)), 0 ≤ x ∧ x < n := fun x hx => by
      rcases List.mem_append.mp hx with z | z
      · exact ha.2 x z
      · exact hb.2 x (List.mem_filter.mp z).1
    have nd : (a ++ b.filter (fun x => decide (x ∉ a))).Nodup := List.nodup_append.mpr ⟨ha.nd, List.Pairwise.filter _ hb.nd, fun x hx y hy e => by
      have := of_decide_eq_true (List.mem_filter.mp hy).2
      exact this (e ▸ hx)⟩
    have rd : red n (a ++ b.filter (fun x => decide (x ∉ a))) = a ++ b.filter (fun x => decide (x ∉ a)) := by
      have : red n (a ++ b.filter (fun x => decide (x ∉ a))) = (a ++ b.filter (fun x => decide (x ∉ a))).map id := List.map_congr_left fun m hm => Int.emod_eq_of_lt (hr m hm).1 (hr m hm).2
      rw [this, List.map_id]
    refine use_lot (S := orL n a b) r (by rw [List.length_append]; omega) sel_set (by rw [rd]; exact nd) (fun x => ?_) (q1 rfl)
    rw [rd]
    unfold orL
    rw [mem_sel, List.mem_append, List.mem_filter]
    simp
    constructor
    · rintro ⟨_, z | z⟩
      · exact .inl z
      · by_cases w : x ∈ a
        · exact .inl w
        · exact .inr ⟨z, w⟩
    · rintro (z | z)
      · exact ⟨ha.2 x z, .inl z⟩
      · exact ⟨hb.2 x z.1, .inr z.1⟩
theorem and_set {n : Int} {a b : List Int} (ha : SetL n a) : SetL n (andL a b) := ⟨ha.1.filter _, fun x hx => ha.2 x (List.mem_filter.mp hx).1⟩
theorem p_Lot___and__ (ds : List D) (Q : QR) (X : QX) (h : sp_Lot___and__ ds Q X) : runBody t_Lot___and__ (startD 3 [false, false] ds) Q X := by
  obtain ⟨n, a, k, b, rfl, r, ha, hb, q1, q2⟩ := h
  simp [runBody, t_Lot___and__, startD, slotsOf, slotOf, lotD]
  refine ⟨n, a, k, b, rfl, fun e => ?_, fun e => q2 e⟩
  subst e
  have la := ha.lt r
  simp [x_lc, intsD]
  refine comp_fm (fun x => decide (x ∈ b)) D.int (by omega) (fun m hm P hp => ?_) (fun m hm _ R' hr => ?_) ?_
  · simp [Fr.wipe, in_ints]
    exact hp
  · simp [Fr.wipe]
    exact hr _ rfl
  · exact use_lotS r (and_set ha) (q1 rfl)
theorem p__law_first_repeated (ds : List D) (Q : QR) (X : QX) (h : sp__law_first_repeated ds Q X) : runBody t__law_first_repeated (startD 2 [false] ds) Q X := by
  obtain ⟨rs, rfl, hl, q1, q2⟩ := h
  simp [runBody, t__law_first_repeated, startD, slotsOf, slotOf, intsD]
  refine ⟨s62 (by omega) (by omega), ?_⟩
  refine loop_ints (fun i δ => ∃ o, δ = [some (.fz (intsD rs)), o] ∧ ∀ j : Nat, j < i → ∀ y, rs[j]? = some y → y ∉ rs.take j) ⟨none, rfl, fun j hj y _ => by omega⟩ (fun i δ' hi ⟨o, e, hm⟩ => ?_) (fun δ' ⟨o, e, hm⟩ => ?_)
  · subst e
    have ei := List.getElem?_eq_getElem hi
    have ex := ix_map ei
    have ec : cutD (rs.map D.int) none (some (i : Int)) = (rs.take i).map D.int := by rw [cutD_map, cutD_take]
    simp [intsD, ex, ec, -List.map_take, in_ints]
    split
    · rename_i hin
      have fr : FirstRep rs rs[i] := ⟨i, ei, hin, fun j hj y ey => hm j hj y ey⟩
      exact q2 fr.nn _ fr
    · rename_i hin
      intro j hj y ey
      by_cases hb : j = i
      · subst hb
        rw [ei] at ey
        cases ey
        exact hin
      · exact hm j (by omega) y ey
  · subst e
    simp
    exact q1 (nodup_of hm)
theorem p__law_told_lot (ds : List D) (Q : QR) (X : QX) (h : sp__law_told_lot ds Q X) : runBody t__law_told_lot (startD 4 [false, true] ds) Q X := by
  obtain ⟨n, vs, rfl, hl, q1, q2, q3⟩ := h
  simp [runBody, t__law_told_lot, startD, slotsOf, slotOf, intsD]
  refine ⟨n, vs, rfl, hl, fun r => ?_, fun r nd S h1 h2 => ?_, fun r nd x hx => ?_⟩
  · simp [ct_BadNumber, badH, noExc]
    exact q1 r
  · simp
    exact q2 r nd S h1 h2
  · simp [ct_BadNumber, ct_RepeatedHour, noExc]
    exact q3 r nd x hx
theorem p__law_told_full (ds : List D) (Q : QR) (X : QX) (h : sp__law_told_full ds Q X) : runBody t__law_told_full (startD 3 [false] ds) Q X := by
  obtain ⟨n, rfl, r, q⟩ := h
  simp [runBody, t__law_told_full, startD, slotsOf, slotOf, wCMeth]
  refine ⟨n, rfl, fun r' => absurd r' r, fun _ => ?_⟩
  simp [ct_BadNumber, badH, noExc]
  exact q
theorem p__law_kinds (ds : List D) (Q : QR) (X : QX) (h : sp__law_kinds ds Q X) : runBody t__law_kinds (startD 4 [false, false] ds) Q X := by
  obtain ⟨n, vs, rfl, hl, q1, q2, q3⟩ := h
  simp [runBody, t__law_kinds, startD, slotsOf, slotOf, intsD]
  refine ⟨n, vs, rfl, hl, fun r => ?_, fun r nd => absurd ⟨r, nd⟩ q3, fun r nd x hx => ?_⟩
  · simp [ct_WatchError, ix_ValueError, ix_BadNumber, ix_RepeatedHour, ix_Meets, ix_Refused, badH, noExc, opAddF]
    exact q1 r _ rfl
  · simp [ct_WatchError, ix_ValueError, ix_BadNumber, ix_RepeatedHour, ix_Meets, ix_Refused, noExc, opAddF]
    exact q2 r nd _ rfl
theorem p__law_is_lot (ds : List D) (Q : QR) (X : QX) (h : sp__law_is_lot ds Q X) : runBody t__law_is_lot (startD 4 [false, false, false] ds) Q X := by
  obtain ⟨n, ms, rfl, hl, q⟩ := h
  simp [runBody, t__law_is_lot, startD, slotsOf, slotOf, lotD, intsD, isC]
  refine use_same (n := 2) trivial ?_
  simp
  refine ⟨n, ms, rfl, ?_⟩
  refine use_same (n := 2) (d := .lst (ms.map D.int)) (okN_ints (n := 0) (by omega)) ?_
  simp
  refine ⟨n, ms, rfl, ?_⟩
  simp [x_lc, iObj]
  refine ⟨by omega, ?_⟩
  refine comp_m (fun m => D.int m) (by omega) (fun m hm R' hr => ?_) ?_
  · simp [Fr.wipe]
    exact hr _ rfl
  · exact use_same (n := 2) (d := .lst (ms.map D.int)) (okN_ints (n := 0) (by omega)) q
theorem p__law_is_lot_b (ds : List D) (Q : QR) (X : QX) (h : sp__law_is_lot_b ds Q X) : runBody t__law_is_lot_b (startD 3 [false, false, false] ds) Q X := by
  obtain ⟨n, ms, rfl, hl, q⟩ := h
  simp [runBody, t__law_is_lot_b, startD, slotsOf, slotOf, lotD, intsD, isC]
  refine use_same (n := 2) trivial ?_
  simp
  refine ⟨n, ms, rfl, ?_⟩
  refine use_same (n := 2) (d := .lst (ms.map D.int)) (okN_ints (n := 0) (by omega)) ?_
  simp
  refine ⟨n, ms, rfl, ?_⟩
  simp
  exact ⟨by omega, q⟩
end VL
end
section
set_option linter.all false
set_option maxRecDepth 100000
set_option maxHeartbeats 4000000
set_option exponentiation.threshold 2000
namespace VL
open PySem
theorem notInF_ints {x : Int} {a : List Int} {Q : QR} {X : QX} : opNotInF (.int x) (.lst (a.map D.int)) Q X = Q (.fz (.bl (decide (x ∉ a)))) := by
  unfold opNotInF opInF
  simp only [memD_ints, atoms_ints]
  rw [decide_not]
  simp [D.atom]
theorem ne_bb {dn : Dun} {a b : Bool} {Q : QR} {X : QX} : opNe dn (.bl a) (.bl b) Q X = Q (.fz (.bl (!(a == b)))) := by
  unfold opNe
  simp [D.flat, D.dep, D.eqv]
theorem p__law_hours (ds : List D) (Q : QR) (X : QX) (h : sp__law_hours ds Q X) : runBody t__law_hours (startD 3 [false] ds) Q X := by
  obtain ⟨ns, rfl, q⟩ := h
  simp [runBody, t__law_hours, startD, slotsOf, slotOf]
  refine use_cell (by decide) fun c c0 => ?_
  simp
  refine use_draws (menu := [8, 24, 360, 4]) rfl c0 (by decide) (by decide) (by decide) fun out ho => ?_
  obtain ⟨w0, ws, rfl, b0, ho⟩ := ho.cons
  obtain ⟨w1, ws, rfl, b1, ho⟩ := ho.cons
  obtain ⟨w2, ws, rfl, b2, ho⟩ := ho.cons
  obtain ⟨w3, ws, rfl, b3, ho⟩ := ho.cons
  obtain rfl := ho.nil
  have x0 : ixD [D.int w0, .int w1, .int w2, .int w3] 0 = some (.int w0) := rfl
  have x1 : ixD [D.int w0, .int w1, .int w2, .int w3] 1 = some (.int w1) := rfl
  have x2 : ixD [D.int w0, .int w1, .int w2, .int w3] 2 = some (.int w2) := rfl
  have x3 : ixD [D.int w0, .int w1, .int w2, .int w3] 3 = some (.int w3) := rfl
  have pick : ∀ a b c d : Int, match ixD [.int a, .int b, .int c, .int d] w3 with
      | some v => Q (.fz v)
      | none => False := fun a b c d => by
    have : w3 = 0 ∨ w3 = 1 ∨ w3 = 2 ∨ w3 = 3 := by omega
    rcases this with rfl | rfl | rfl | rfl
    · exact q a
    · exact q b
    · exact q c
    · exact q d
  simp [t__law_hours_s1]
  refine use_cell (by decide) fun c2 c20 => ?_
  simp
  refine ⟨c2, 33, rfl, c20, by decide, fun far _ _ => ?_⟩
  simp [t__law_hours_s2, t__law_hours_s3, x0, x1, x2, x3]
  refine ⟨⟨by decide, by decide, by decide⟩, ?_⟩
  split
  · exact pick _ _ _ _
  split
  · exact q _
  split
  · exact q _
  · exact q _
theorem p__law_values (ds : List D) (Q : QR) (X : QX) (h : sp__law_values ds Q X) : runBody t__law_values (startD 13 [false, false] ds) Q X := by
  obtain ⟨ns, n, rfl, r, q⟩ := h
  have n0 := r_pos r
  have n1 := r.2
  simp [runBody, t__law_values, startD, slotsOf, slotOf]
  refine use_cell (by decide) fun c c0 => ?_
  simp
  refine ⟨⟨by decide, by decide, by decide⟩, ?_⟩
  refine use_draws (menu := [6, 50, 50, 10 ^ 50]) rfl c0 (by decide) (by decide) (by decide) fun out ho => ?_
  obtain ⟨w0, ws, rfl, b0, ho⟩ := ho.cons
  obtain ⟨w1, ws, rfl, b1, ho⟩ := ho.cons
  obtain ⟨w2, ws, rfl, b2, ho⟩ := ho.cons
  obtain ⟨w3, ws, rfl, b3, ho⟩ := ho.cons
  obtain rfl := ho.nil
  have x0 : ixD [D.int w0, .int w1, .int w2, .int w3] 0 = some (.int w0) := rfl
  have x1 : ixD [D.int w0, .int w1, .int w2, .int w3] 1 = some (.int w1) := rfl
  have x2 : ixD [D.int w0, .int w1, .int w2, .int w3] 2 = some (.int w2) := rfl
  have x3 : ixD [D.int w0, .int w1, .int w2, .int w3] 3 = some (.int w3) := rfl
  have sn : Sz 10 n := sz_of (by omega) (by omega)
  simp [t__law_values_s1, x0]
  split
  · refine use_cell (by decide) fun c2 c20 => ?_
    simp
    refine ⟨c2, 34, n, rfl, c20, by decide, r, fun hs hS rr er => ?_⟩
    simp [er, x_lc, wRevL, intsD]
    have hl := hS.lt r
    rw [← List.map_reverse]
    refine comp_m (fun m => D.int (m + n * (m * m - 50))) (by rw [List.length_reverse]; omega) (fun m hm R' hr => ?_) ?_
    · have hm := hS.2 m (List.mem_reverse.mp hm)
      have sm : Sz 10 m := sz_of hm.1 (by omega)
      have s50 : Sz 20 50 := by unfold Sz; decide
      simp [Fr.wipe]
      exact ⟨mul_ok sm sm (by decide), mul_ok sn ((sm.mul sm).sub s50) (by decide), hr _ rfl⟩
    · rw [mapD]
      exact q _ (by rw [List.length_map, List.length_reverse]; omega) _ rfl
  simp [t__law_values_s2]
  refine use_cell (by decide) fun c2 c20 => ?_
  simp [repN]
  refine ⟨⟨by decide, by decide, by decide⟩, mul_ok (m := 10) (n := 300) (by unfold Sz; decide) (by unfold Sz; decide) (by decide), ?_⟩
  refine use_draws (menu := 60 :: List.replicate 50 (2 * 10 ^ 59)) (by simp) c20 (by decide) (by simp) (fun m hm => ?_) fun out ho => ?_
  · rcases List.mem_cons.mp hm with rfl | hm
    · exact ⟨by decide, by decide⟩
    · have := (List.mem_replicate.mp hm).2
      subst this
      exact ⟨by decide, by decide⟩
  obtain ⟨v0, vs, rfl, c0', hw⟩ := ho.cons
  have hvl : vs.length = 50 := by rw [hw.1]; simp
  have hall : ∀ x ∈ v0 :: vs, 0 ≤ x := fun x hx => by
    rcases List.mem_cons.mp hx with rfl | hx
    · exact c0'.1
    · obtain ⟨i, hi, e⟩ := List.getElem_of_mem hx
      have : (List.replicate 50 ((2 : Int) * 10 ^ 59))[i]? = some (2 * 10 ^ 59) := by
        rw [List.getElem?_replicate, if_pos (by omega)]
      exact (hw.2 i _ x this (by rw [List.getElem?_eq_getElem hi, e])).1
  have y0 : ixD (D.int v0 :: vs.map D.int) 0 = some (.int v0) := by simp [ixD, ixOf]
  have bm : ∀ Q : QR, bMax2 [.int 0, .int (v0 - 9)] Q = Q (.fz (.int (if v0 - 9 > 0 then v0 - 9 else 0))) := fun Q => rfl
  simp [t__law_values_s3, x_lc, y0, bm]
  generalize (if 9 < v0 then v0 - 9 else 0) = hi
  have ec : cutD (D.int v0 :: vs.map D.int) (some 1) (some (1 + hi)) = (cutD (v0 :: vs) (some 1) (some (1 + hi))).map D.int := by rw [← List.map_cons, cutD_map]
  rw [ec]
  have cl := cut_len (v0 :: vs) (some 1) (some (1 + hi))
  have cs := cut_sub (v0 :: vs) (some 1) (some (1 + hi))
  simp at cl
  generalize cutD (v0 :: vs) (some 1) (some (1 + hi)) = cu at *
  refine comp_m (fun m => D.int (zz m)) (by omega) (fun m hm R' hr => ?_) ?_
  · simp [Fr.wipe]
    exact ⟨m, rfl, hall m (cs.subset hm), hr _ rfl⟩
  rw [mapD (ms := cu) zz]
  have vl : (cu.map zz).length ≤ 51 := by rw [List.length_map]; omega
  generalize cu.map zz = xs at *
  simp [t__law_values_s4, t__law_values_s5, t__law_values_s6, x0]
  split
  · exact q xs (by omega) _ rfl
  simp [t__law_values_s7]
  refine loop_fd (f := D.int) (fun i δ => ∃ (ke se : List Int) (o8 : Option Sl), δ = [some (.fz (.scr ns)), some (.fz (.int n)), some (.fz (.lst [.int w0, .int w1, .int w2, .int w3])), none, some (.fz (.lst (.int v0 :: vs.map D.int))), some (.fz (.lst (xs.map D.int))), some (.own (ke.map D.int)), some (.own (se.map D.int)), o8, none, none, none, none] ∧ ke.length ≤ i ∧ se.length ≤ i) ⟨[], [], none, rfl, by simp, by simp⟩ (fun i m δ' em ⟨ke, se, o8, e, h1, h2⟩ => ?_) (fun δ' ⟨ke, se, o8, e, h1, h2⟩ => ?_)
  · subst e
    have hi := (List.getElem?_eq_some_iff.mp em).1
    simp [notInF_ints]
    refine ⟨by omega, ?_⟩
    split
    · exact ⟨ke, se, ⟨rfl, rfl⟩, by omega, by omega⟩
    · refine ⟨by omega, by omega, by omega, ke ++ [m], se ++ [m.fmod n], ⟨by simp, by simp⟩, by simp; omega, by simp; omega⟩
  · subst e
    simp [t__law_values_s8, x0, x1, x2, x3]
    split
    · split
      · rename_i hk
        have a0 := fm (a := w1) (b := (ke.length : Int)) (by omega)
        have ai : (w1.fmod ke.length).toNat < ke.length := by omega
        have ei := List.getElem?_eq_getElem ai
        have ex := ix_map ei
        rw [Int.toNat_of_nonneg a0.1] at ex
        have g0 := fm (a := w2) (b := (ke.length : Int) - w1.fmod ke.length) (by omega)
        simp [ex]
        refine ⟨fun e => by rw [e] at hk; exact absurd hk (by decide), w3, rfl, b3.1, ?_⟩
        have z3 := zz_le b3.1
        have s3 : Sz 200 (zz w3) := (sz_of (n := 200) b3.1 (Int.lt_trans b3.2 (by decide))).le z3
        have e : ∀ (x : Int) (P : List D → Prop) (j : Int), 0 ≤ j → j < 2 ^ 63 → (∀ out : List Int, out.length ≤ 52 → P (out.map D.int)) → mInsert (ke.map D.int) [.int j, .int x] P := fun x P j j0 j1 hp => by
          refine ⟨⟨by rw [List.length_map]; omega, j0, j1⟩, ?_⟩
          have := hp (ke.take j.toNat ++ [x] ++ ke.drop j.toNat) (by simp; omega)
          simpa using this
        simp
        refine ⟨mul_ok sn s3 (by decide), by omega, ?_⟩
        refine e _ _ _ (by omega) (by omega) fun out hl => ?_
        exact q out (by omega) _ rfl
      · exact q ke (by omega) _ rfl
    · exact q ke (by omega) _ rfl
end VL
end
section
set_option linter.all false
set_option maxRecDepth 100000
set_option maxHeartbeats 4000000
set_option exponentiation.threshold 2000
namespace VL
open PySem
@[simp] theorem x_revL {u : BW} {δ : Fr} {Q : QR} {X : QX} : wRevL u δ Q X = u δ (fun d => match d with
  | .lst xs => Q (.own xs.reverse)
  | _ => False) X := rfl
theorem eqLot_lot {n k : Int} {a b : List Int} : eqLot n a (lotD k b) = some (decide (n = k) && decide (a = b)) := by
  unfold eqLot lotD intsD
  simp [intsOf_map]
theorem use_eq {n k : Int} {a b : List Int} {Q : QR} {X : QX} (q : Q (.fz (.bl (decide (n = k) && decide (a = b))))) : sp_Lot___eq__ [.obj 0 [.int n, intsD a], lotD k b] Q X := ⟨n, a, _, _, rfl, eqLot_lot, q⟩
/-- a Lot of a list turned round -/
theorem use_lotR {n : Int} {S : List Int} {Q : QR} {X : QX} (r : Rng n) (hs : SetL n S) (q : Q (.fz (lotD n S))) : sp_Lot___init__ [.int n, .lst (S.map D.int).reverse] Q X := by
  rw [← List.map_reverse]
  have e : red n S.reverse = (red n S).reverse := by unfold red; rw [List.map_reverse]
  refine use_lot r (by rw [List.length_reverse]; have := hs.lt r; omega) hs (by rw [e, hs.rd]; exact (List.reverse_perm _).nodup_iff.mpr hs.nd) (fun x => ?_) q
  rw [e, hs.rd, List.mem_reverse]
theorem cut_drop1 {α : Type} (xs : List α) : cutD xs (some 1) none = xs.drop 1 := by
  have e : cutD xs (some 1) none = (xs.drop (if (1 : Int) < 0 then ((1 : Int) + (xs.length : Int)).toNat else min (1 : Int).toNat xs.length)).take (xs.length - (if (1 : Int) < 0 then ((1 : Int) + (xs.length : Int)).toNat else min (1 : Int).toNat xs.length)) := rfl
  rw [e, if_neg (by decide)]
  cases xs with
  | nil => rfl
  | cons x xs =>
    have : min (1 : Int).toNat (x :: xs).length = 1 := by simp
    rw [this]
    simp
theorem p__law_equalities (ds : List D) (Q : QR) (X : QX) (h : sp__law_equalities ds Q X) : runBody t__law_equalities (startD 5 [false, false, false] ds) Q X := by
  obtain ⟨n, ms, rfl, r, hs, q⟩ := h
  have n1 := r.2
  have hl := hs.lt r
  simp [runBody, t__law_equalities, startD, slotsOf, slotOf, intsD, cutD_map, cut_drop1]
  have rest : ∀ un : List Int, SetL n un → un ≠ ms → t__law_equalities_s2 { nx := fun x => Q (.fz .non), rt := Q, xq := fun x x_1 => X x } [some (.fz (lotD n ms)), some (.fz (.int n)), some (.fz (intsD ms)), some (.fz (intsD un)), none] := by
    intro un hu hne
    have hne' : ¬ ms = un := fun e => hne e.symm
    have hs1 : SetL (n + 1) ms := hs.mono (by omega)
    have r1 : n < 360 → Rng (n + 1) := fun h => ⟨by have := r.1; omega, by omega⟩
    simp [t__law_equalities_s2, lotD, intsD]
    refine use_lotR r hs ?_
    simp [lotD, D.val]
    refine use_eq ?_
    simp
    refine use_lotS r hu ?_
    simp [lotD, D.val]
    refine use_eq ?_
    simp [hne', t__law_equalities_s3]
    refine use_lotS r hu ?_
    simp [lotD, D.val]
    refine use_eq (b := ms) ?_
    simp [hne]
    have tail : t__law_equalities_s4 { nx := fun x => Q (.fz .non), rt := Q, xq := fun x x_1 => X x } [some (.fz (.obj 0 [.int n, intsD ms])), some (.fz (.int n)), some (.fz (.lst (ms.map D.int))), some (.fz (.lst (un.map D.int))), none] := by
      simp [t__law_equalities_s4]
      refine use_lotR r hs ?_
      simp [lotD, D.val]
      refine use_eq ?_
      simp
      refine use_lotS r hu ?_
      simp [lotD, D.val]
      refine use_eq ?_
      simp [hne']
      have tail2 : t__law_equalities_s5 { nx := fun x => Q (.fz .non), rt := Q, xq := fun x x_1 => X x } [some (.fz (.obj 0 [.int n, intsD ms])), some (.fz (.int n)), some (.fz (.lst (ms.map D.int))), some (.fz (.lst (un.map D.int))), none] := by
        have fin : t__law_equalities_s6 { nx := fun x => Q (.fz .non), rt := Q, xq := fun x x_1 => X x } [some (.fz (.obj 0 [.int n, intsD ms])), some (.fz (.int n)), some (.fz (.lst (ms.map D.int))), some (.fz (.lst (un.map D.int))), none] := by
          simp [t__law_equalities_s6]
          refine loop_fd (f := fun d : D => d) (xs := [.lst (ms.map D.int), .non, .int n, .str "lot"]) (fun i δ => ∃ o, δ = [some (.fz (.obj 0 [.int n, intsD ms])), some (.fz (.int n)), some (.fz (.lst (ms.map D.int))), some (.fz (.lst (un.map D.int))), o]) ⟨none, rfl⟩ (fun i m δ' em ⟨o, e⟩ => ?_) (fun δ' ⟨o, e⟩ => q)
          subst e
          have hm := List.mem_of_getElem? em
          have hv : m.val = true ∧ eqLot n ms m = some false := by
            simp at hm
            rcases hm with rfl | rfl | rfl | rfl <;> exact ⟨rfl, rfl⟩
          simp [hv.1]
          refine ⟨n, ms, m, false, rfl, hv.2, ?_⟩
          simp
          refine ⟨n, ms, m, false, rfl, hv.2, ?_⟩
          simp
        simp [t__law_equalities_s5]
        split
        · rename_i h
          refine use_lotS (r1 h) hs1 ?_
          simp [lotD, D.val]
          refine use_eq ?_
          have : ¬ n = n + 1 := by omega
          simp [this]
          exact fin
        · exact fin
      exact tail2
    split
    · rename_i h
      refine use_lotS (r1 h) hs1 ?_
      simp [lotD, D.val]
      refine use_eq ?_
      have : ¬ n = n + 1 := by omega
      simp [this]
      exact tail
    · exact tail
  simp [t__law_equalities_s1, notIn_ints]
  split
  · rename_i h0
    rw [← List.map_tail]
    refine rest ms.tail ⟨List.Pairwise.sublist (List.tail_sublist _) hs.1, fun m hm => hs.2 m (List.mem_of_mem_tail hm)⟩ fun e => ?_
    have := congrArg List.length e
    rw [List.length_tail] at this
    have := List.length_pos_of_mem h0
    omega
  · rename_i h0
    refine ⟨by omega, rest (0 :: ms) ⟨List.pairwise_cons.mpr ⟨fun m hm => ?_, hs.1⟩, fun m hm => ?_⟩ fun e => ?_⟩
    · have := hs.2 m hm
      have : m ≠ 0 := fun z => h0 (z ▸ hm)
      omega
    · rcases List.mem_cons.mp hm with rfl | z
      · have := r.1
        omega
      · exact hs.2 m z
    · have := congrArg List.length e
      simp at this
theorem p__law_membership (ds : List D) (Q : QR) (X : QX) (h : sp__law_membership ds Q X) : runBody t__law_membership (startD 5 [false, false, false, false] ds) Q X := by
  obtain ⟨n, ms, far, rfl, r, hs, sf, q⟩ := h
  have n0 := r_pos r
  have n1 := r.2
  simp [runBody, t__law_membership, startD, slotsOf, slotOf]
  refine ⟨s62 (by omega) (by omega), ?_⟩
  refine loop_ints (fun i δ => ∃ o, δ = [some (.fz (lotD n ms)), some (.fz (.int n)), some (.fz (intsD ms)), some (.fz (.int far)), o]) ⟨none, rfl⟩ (fun i δ' hi ⟨o, e⟩ => ?_) (fun δ' ⟨o, e⟩ => q)
  subst e
  have em : (i : Int) % n = i := Int.emod_eq_of_lt (by omega) (by omega)
  have em2 : ((i : Int) + n * far) % n = i := by rw [Int.add_mul_emod_self_left]; exact em
  have inL : ∀ (x : Int) (P : QR) (X : QX), (x % n = (i : Int)) → P (.fz (.bl (decide ((i : Int) ∈ ms)))) → opIn dnL (.int x) (lotD n ms) P X := fun x P X hx hp => by
    show sp_Lot___contains__ [lotD n ms, .int x] (QR.bl P) X
    exact ⟨n, ms, x, rfl, r, by rw [hx]; exact hp⟩
  have inD : ∀ (x : Int) (P : QR) (X : QX), opIn dnL (.int x) (intsD ms) P X = P (.fz (.bl (decide (x ∈ ms)))) := fun x P X => in_ints
  simp
  refine inL _ _ _ em ?_
  simp [inD, ne_bb]
  refine ⟨mul_ok (m := 10) (sz_of (by omega) (by omega)) sf (by decide), ?_⟩
  refine inL _ _ _ em2 ?_
  simp [inD, ne_bb]
end VL
end
section
set_option linter.all false
set_option maxRecDepth 100000
set_option maxHeartbeats 4000000
set_option exponentiation.threshold 2000
namespace VL
open PySem
theorem ok_bad {h : Int} : okN 2 (.tup (.str "BadNumber" :: badH h)) := by
  refine ⟨fun x hx => ?_, show 3 ≤ 16000000 by decide⟩
  simp [badH] at hx
  rcases hx with rfl | rfl | rfl
  · show _ = true
    decide +kernel
  · show _ = true
    decide +kernel
  · trivial
theorem ok_rep {h : Int} : okN 2 (.tup [.str "RepeatedHour", .int h]) := by
  refine ⟨fun x hx => ?_, show 2 ≤ 16000000 by decide⟩
  simp at hx
  rcases hx with rfl | rfl
  · show _ = true
    decide +kernel
  · trivial
theorem eq_b5 {dn : Dun} (a b c d e : Bool) {Q : QR} {X : QX} (q : Q (.fz (.bl true))) : opEq dn (.lst [.bl a, .bl b, .bl c, .bl d, .bl e]) (.lst [.bl a, .bl b, .bl c, .bl d, .bl e]) Q X := by
  unfold opEq
  simp [D.flat, D.flats, D.dep, D.deps, D.eqv, D.eqvs]
  exact q
theorem use_same2 {d : D} {Q : QR} {X : QX} (h : okN 2 d) (q : Q (.fz (.bl true))) : sp__law_same [d, d] Q X := use_same (n := 2) h q
end VL
end
section
set_option linter.all false
set_option maxRecDepth 100000
set_option maxHeartbeats 4000000
set_option exponentiation.threshold 2000
namespace VL
open PySem
theorem pa_ok3 {ns : List Int} {n far : Int} {vs S rs : List Int} {Q : QR} {X : QX} (r : Rng n) (hvs : vs.length ≤ 400) (hS : SetL n S) (s3 : Sz 300 far) (q : Q (.fz (.bl true))) :
    t__law_part_a_s12 { nx := fun x => Q (.fz .non), rt := Q, xq := fun x x_1 => X x } [some (.fz (.scr ns)), some (.fz (.int n)), some (.fz (.lst (vs.map D.int))), some (.fz (.lst (S.map D.int))), some (.fz (.lst (rs.map D.int))), some (.fz (.int (-1))), some (.own (vs.map D.int)), some (.fz (lotD n S)), some (.fz (.int far)), none, none, none] := by
  have n0 := r_pos r
  have n1 := r.2
  have sl := hS.lt r
  simp [t__law_part_a_s12]
  refine ⟨n, S, far, rfl, r, hS, s3, ?_⟩
  simp [wCMeth]
  refine ⟨n, rfl, fun _ => ?_, fun z => absurd r z⟩
  simp
  refine ⟨⟨s62 (by omega) (by omega), by unfold small24; omega⟩, ?_⟩
  rw [intsFrom_rg]
  refine ⟨n, rgI 0 n.toNat, rfl, by rw [rg_len]; omega, ?_⟩
  simp [t__law_part_a_s13]
  refine ⟨by omega, ?_⟩
  obtain ⟨y, ys, ey⟩ : ∃ y ys, vs.map D.int ++ [D.int 0] = .int y :: ys := by
    cases vs with
    | nil => exact ⟨0, [], rfl⟩
    | cons y ys => exact ⟨y, _, rfl⟩
  rw [ey]
  simp [t__law_part_a_s14, ixD, ixOf, t__law_part_a_s15]
  refine ⟨rfl, n, S, rfl, ?_⟩
  simp [t__law_part_a_s16, wClsCon, List.lookup]
  refine ⟨by omega, n, S, rfl, by omega, ?_⟩
  simp
  exact use_same2 trivial q
end VL
end
section
set_option linter.all false
set_option maxRecDepth 100000
set_option maxHeartbeats 4000000
set_option exponentiation.threshold 2000
namespace VL
open PySem
theorem pa_rep {ns : List Int} {n x : Int} {vs : List Int} {Q : QR} {X : QX} (r : Rng n) (hvs : vs.length ≤ 400) (nn : ¬ (red n vs).Nodup) (fr : FirstRep (red n vs) x) (q : Q (.fz (.bl true))) :
    t__law_part_a_s5 { nx := fun x => Q (.fz .non), rt := Q, xq := fun x x_1 => X x } [some (.fz (.scr ns)), some (.fz (.int n)), some (.fz (.lst (vs.map D.int))), none, some (.fz (.lst ((red n vs).map D.int))), some (.fz (.int x)), none, none, none, none, none, none] := by
  have n0 := r_pos r
  have n1 := r.2
  have rg := red_rng r (vs := vs)
  simp [t__law_part_a_s5, t__law_part_a_s6]
  refine ⟨n, vs, rfl, by omega, fun z => absurd r z, fun _ z => absurd z nn, fun _ _ x' fr' => ?_⟩
  rw [fr'.uniq fr]
  simp [t__law_part_a_s7]
  refine use_same2 (okN_ints (n := 0) (by omega)) ?_
  have x0 := (rg x fr.mem).1
  simp [D.atom, t__law_part_a_s8, t__law_part_a_b1, x0]
  refine use_same2 ok_rep ?_
  simp
  refine ⟨n, vs, rfl, by omega, fun z => absurd r z, fun _ _ rr2 er2 => ?_, fun z => nn z.2⟩
  simp [er2, blsD]
  exact eq_b5 true false true false false q
end VL
end
section
set_option linter.all false
set_option maxRecDepth 100000
set_option maxHeartbeats 4000000
set_option exponentiation.threshold 2000
namespace VL
open PySem
theorem pa_ok2 {ns : List Int} {n : Int} {vs S rs : List Int} {Q : QR} {X : QX} (r : Rng n) (hvs : vs.length ≤ 400) (hS : SetL n S) (q : Q (.fz (.bl true))) :
    t__law_part_a_s10 { nx := fun x => Q (.fz .non), rt := Q, xq := fun x x_1 => X x } [some (.fz (.scr ns)), some (.fz (.int n)), some (.fz (.lst (vs.map D.int))), some (.fz (.lst (S.map D.int))), some (.fz (.lst (rs.map D.int))), some (.fz (.int (-1))), some (.own (vs.map D.int)), some (.fz (lotD n S)), none, none, none, none] := by
  have n0 := r_pos r
  have n1 := r.2
  have sl := hS.lt r
  simp [t__law_part_a_s10]
  refine ⟨n, S, rfl, by omega, ?_⟩
  simp
  refine ⟨n, S, rfl, r, hS, ?_⟩
  simp [t__law_part_a_s11]
  refine use_cell (by decide) fun c c0 => ?_
  simp
  refine ⟨⟨by decide, by decide, by decide⟩, ?_⟩
  refine use_draws (menu := [6, 50, 50, 10 ^ 50]) rfl c0 (by decide) (by decide) (by decide) fun out ho => ?_
  obtain ⟨w0, ws, rfl, b0, ho⟩ := ho.cons
  obtain ⟨w1, ws, rfl, b1, ho⟩ := ho.cons
  obtain ⟨w2, ws, rfl, b2, ho⟩ := ho.cons
  obtain ⟨w3, ws, rfl, b3, ho⟩ := ho.cons
  obtain rfl := ho.nil
  have x3 : ixD [D.int w0, .int w1, .int w2, .int w3] 3 = some (.int w3) := rfl
  simp [x3]
  refine ⟨w3, rfl, b3.1, ?_⟩
  have s3 : Sz 300 (zz w3) := ((sz_of (n := 200) b3.1 (Int.lt_trans b3.2 (by decide))).le (zz_le b3.1)).mono (by decide)
  exact pa_ok3 r hvs hS s3 q
theorem pa_ok {ns : List Int} {n : Int} {vs : List Int} {Q : QR} {X : QX} (r : Rng n) (hvs : vs.length ≤ 400) (nd : (red n vs).Nodup) (q : Q (.fz (.bl true))) :
    t__law_part_a_s5 { nx := fun x => Q (.fz .non), rt := Q, xq := fun x x_1 => X x } [some (.fz (.scr ns)), some (.fz (.int n)), some (.fz (.lst (vs.map D.int))), none, some (.fz (.lst ((red n vs).map D.int))), some (.fz (.int (-1))), none, none, none, none, none, none] := by
  have n0 := r_pos r
  have n1 := r.2
  have rl : (red n vs).length = vs.length := by unfold red; rw [List.length_map]
  have rg := red_rng r (vs := vs)
  simp [t__law_part_a_s5, t__law_part_a_s6]
  refine ⟨n, vs, rfl, by omega, fun z => absurd r z, fun _ _ S hS hm => ?_, fun _ z => absurd nd z⟩
  simp [t__law_part_a_s7]
  refine use_same2 (okN_ints (n := 0) (by omega)) ?_
  simp [D.atom, t__law_part_a_s8, t__law_part_a_s9, x_lc]
  refine ⟨s62 (by omega) (by omega), ?_⟩
  rw [intsFrom_rg]
  refine comp_fm (fun x => decide (x ∈ red n vs)) D.int (by rw [rg_len]; omega) (fun m hm P hp => ?_) (fun m hm _ R' hr => ?_) ?_
  · simp [Fr.wipe, in_ints]
    exact hp
  · simp [Fr.wipe]
    exact hr _ rfl
  have eS : (rgI 0 n.toNat).filter (fun x => decide (x ∈ red n vs)) = S := SetL.eqv sel_set hS fun x => by
    show x ∈ sel n _ ↔ _
    rw [mem_sel, hm]
    simp
    exact fun hx => rg x hx
  rw [eS]
  exact pa_ok2 r hvs hS q
end VL
end
section
set_option linter.all false
set_option maxRecDepth 100000
set_option maxHeartbeats 4000000
set_option exponentiation.threshold 2000
namespace VL
open PySem
theorem p__law_part_a (ds : List D) (Q : QR) (X : QX) (h : sp__law_part_a ds Q X) : runBody t__law_part_a (startD 12 [false] ds) Q X := by
  obtain ⟨ns, rfl, q⟩ := h
  simp [runBody, t__law_part_a, startD, slotsOf, slotOf]
  refine ⟨ns, rfl, fun n => ?_⟩
  simp [t__law_part_a_s1]
  split
  · have r : ¬ Rng n := fun z => by have := z.1; omega
    refine ⟨ns, 24, rfl, ⟨by decide, by decide⟩, fun vs hvs rr er => ?_⟩
    simp [er, intsD]
    refine ⟨n, vs, rfl, by omega, fun _ => ?_, fun z => absurd z r, fun z => absurd z r⟩
    simp
    refine use_same2 ok_bad ?_
    simp
    refine ⟨n, rfl, r, ?_⟩
    simp
    refine use_same2 ok_bad ?_
    simp
    refine ⟨n, vs, rfl, by omega, fun _ rr2 er2 => ?_, fun z => absurd z r, fun z => r z.1⟩
    simp [er2, blsD]
    exact eq_b5 true true false false false q
  split
  · have r : ¬ Rng n := fun z => by have := z.2; omega
    refine ⟨ns, 24, rfl, ⟨by decide, by decide⟩, fun vs hvs rr er => ?_⟩
    simp [er, intsD]
    refine ⟨n, vs, rfl, by omega, fun _ => ?_, fun z => absurd z r, fun z => absurd z r⟩
    simp
    refine use_same2 ok_bad ?_
    simp
    refine ⟨n, rfl, r, ?_⟩
    simp
    refine use_same2 ok_bad ?_
    simp
    refine ⟨n, vs, rfl, by omega, fun _ rr2 er2 => ?_, fun z => absurd z r, fun z => r z.1⟩
    simp [er2, blsD]
    exact eq_b5 true true false false false q
  · have r : Rng n := ⟨by omega, by omega⟩
    have n0 := r_pos r
    simp [t__law_part_a_s2]
    refine ⟨ns, n, rfl, r, fun vs hvs rr er => ?_⟩
    simp [er, t__law_part_a_s3, x_lc, intsD]
    refine comp_m (fun m => D.int (m % n)) (by omega) (fun m hm R' hr => ?_) ?_
    · simp [Fr.wipe]
      refine ⟨by omega, ?_⟩
      rw [fmE (by omega)]
      exact hr _ rfl
    have e : vs.map (fun m => D.int (m % n)) = (red n vs).map D.int := by unfold red; rw [List.map_map]; rfl
    rw [e]
    have rl : (red n vs).length = vs.length := by unfold red; rw [List.length_map]
    simp [t__law_part_a_s4]
    exact ⟨red n vs, rfl, by omega, fun nd => pa_ok r hvs nd q, fun nn x fr => pa_rep r hvs nn fr q⟩
end VL
end
section
set_option linter.all false
set_option maxRecDepth 100000
set_option maxHeartbeats 4000000
set_option exponentiation.threshold 2000
namespace VL
open PySem
@[simp] theorem x_inv_o {dn : Dun} {c : Nat} {xs : List D} {Q : QR} {X : QX} : opInv dn (.obj c xs) Q X = (match dn c .inv with
  | some sp => sp [.obj c xs] Q X
  | none => False) := rfl
theorem SetL.sub {n : Int} {a b : List Int} (h : SetL n b) (s : a.Sublist b) : SetL n a := ⟨List.Pairwise.sublist s h.1, fun x hx => h.2 x (s.subset hx)⟩
theorem p__law_drawn_lot (ds : List D) (Q : QR) (X : QX) (h : sp__law_drawn_lot ds Q X) : runBody t__law_drawn_lot (startD 5 [false, false, false, false] ds) Q X := by
  obtain ⟨c, s, n, way, rfl, c0, hs, r, q⟩ := h
  have n0 := r_pos r
  have n1 := r.2
  simp [runBody, t__law_drawn_lot, startD, slotsOf, slotOf]
  split
  · exact q [] SetL.nil _ rfl
  split
  · refine ⟨⟨s62 (by omega) (by omega), by unfold small24; omega⟩, ?_⟩
    rw [intsFrom_rg]
    exact q _ rg_set _ rfl
  refine ⟨c, s, n, rfl, c0, hs, r, fun ms hm rr er => ?_⟩
  simp [er, intsD]
  split
  · rw [cutD_map]
    exact q _ (hm.sub (cut_sub _ _ _)) _ rfl
  · exact q _ hm (.fz (intsD ms)) rfl
theorem p__law_other_ring (ds : List D) (Q : QR) (X : QX) (h : sp__law_other_ring ds Q X) : runBody t__law_other_ring (startD 2 [false, false] ds) Q X := by
  obtain ⟨n, way, rfl, r, q⟩ := h
  have n0 := r_pos r
  have n1 := r.2
  have sn : Sz 10 n := sz_of (by omega) (by omega)
  have m2 : mulOk 2 n := mul_ok (m := 10) (by unfold Sz; decide) sn (by decide)
  have f := fm (a := n) (b := 360) (by decide)
  simp [runBody, t__law_other_ring, startD, slotsOf, slotOf, m2]
  have last : (if way ≤ 1 then Q (.fz (.int (n.fmod 360 + 1))) else Q (.fz (.int n))) := by
    split
    · exact q _ ⟨by omega, by omega⟩
    · exact q _ r
  split
  · split
    · exact q _ ⟨by omega, by omega⟩
    · simpa using last
  · simpa using last
theorem p__law_turn (ds : List D) (Q : QR) (X : QX) (h : sp__law_turn ds Q X) : runBody t__law_turn (startD 5 [false, false, false, false] ds) Q X := by
  obtain ⟨ns, n, way, sign, rfl, w0, q⟩ := h
  simp [runBody, t__law_turn, startD, slotsOf, slotOf]
  refine use_cell (by decide) fun c c0 => ?_
  simp
  refine ⟨c, 41, rfl, c0, by decide, fun num _ _ => ?_⟩
  simp
  split
  · rename_i hw
    have : way = 0 ∨ way = 1 ∨ way = 2 := by omega
    rcases this with rfl | rfl | rfl
    all_goals
      simp [ixD, ixOf]
      first | exact q _ | (split <;> exact q _)
  · split <;> exact q _
theorem mk_at {n k : Int} {f : Int → D} (h0 : 0 ≤ k) (h1 : k < n) : ixD ((rgI 0 n.toNat).map f) k = some (f k) := by
  have e : (rgI 0 n.toNat)[k.toNat]? = some k := by
    unfold rgI
    rw [List.getElem?_map, List.getElem?_range (by omega)]
    simp
    omega
  have := ixD_map (f := f) e
  rwa [Int.toNat_of_nonneg h0] at this
theorem tn_back {n : Int} {ms : List Int} (r : Rng n) (h : SetL n ms) (b : Int) : tn n (tn n ms b) (-b) = ms := SetL.ext (n := n) sel_set h fun x x0 x1 => by
  have n0 := r_pos r
  unfold tn
  rw [mem_sel, decide_eq_true_iff, mem_sel, decide_eq_true_iff]
  have e : ((x - -b) % n - b) % n = x := by
    rw [Int.sub_neg]
    exact (mv_add r b).1 x x0 x1
  rw [e]
  exact ⟨fun q => q.2.2, fun q => ⟨⟨x0, x1⟩, ⟨Int.emod_nonneg _ (by omega), Int.emod_lt_of_pos _ n0⟩, q⟩⟩
theorem ng_ng {n : Int} {ms : List Int} (r : Rng n) (h : SetL n ms) : ngL n (ngL n ms) = ms := SetL.ext (n := n) sel_set h fun x x0 x1 => by
  have n0 := r_pos r
  unfold ngL
  rw [mem_sel, decide_eq_true_iff, mem_sel, decide_eq_true_iff]
  have e : (0 - (0 - x) % n) % n = x := by
    have := (mv_neg r).2 x x0 x1
    rwa [show -((0 - x) % n) = 0 - (0 - x) % n by omega] at this
  rw [e]
  exact ⟨fun q => q.2.2, fun q => ⟨⟨x0, x1⟩, ⟨Int.emod_nonneg _ (by omega), Int.emod_lt_of_pos _ n0⟩, q⟩⟩
theorem in_in {n : Int} {ms : List Int} (h : SetL n ms) : inL n (inL n ms) = ms := SetL.ext (n := n) sel_set h fun x x0 x1 => by
  unfold inL
  rw [mem_sel, decide_eq_true_iff, mem_sel, decide_eq_true_iff]
  constructor
  · intro q
    by_cases w : x ∈ ms
    · exact w
    · exact absurd ⟨⟨x0, x1⟩, w⟩ q.2
  · exact fun q => ⟨⟨x0, x1⟩, fun z => z.2 q⟩
theorem sel_comp {n : Int} {cs : TW} {te : EW} {j : Nat} {vs : List Nat} {δ : Fr} {Q : List D → Prop} (r : Rng n) (p : Int → Bool) (q : Q ((sel n p).map D.int))
    (hc : ∀ m, 0 ≤ m → m < n → ∀ P : Bool → Prop, P (p m) → cs ((δ.wipe vs).set j (some (.fz (.int m)))) P (fun _ => False))
    (he : ∀ m, ∀ R' : QR, Any R' (.int m) → te ((δ.wipe vs).set j (some (.fz (.int m)))) R' (fun _ => False)) : compI (.nm j) cs te vs (intsFrom 0 n.toNat) δ Q := by
  have := r.2
  rw [intsFrom_rg]
  refine comp_fm p D.int (by rw [rg_len]; omega) (fun m hm P hp => ?_) (fun m hm _ R' hr => he m R' hr) q
  have := mem_rg.mp hm
  exact hc m (by omega) (by omega) P hp
theorem p__law_moved (ds : List D) (Q : QR) (X : QX) (h : sp__law_moved ds Q X) : runBody t__law_moved (startD 6 [false, false, false, false] ds) Q X := by
  obtain ⟨n, ms, b, rfl, r, hs, q⟩ := h
  have n0 := r_pos r
  have n1 := r.2
  have sl := hs.lt r
  have ll : ∀ p : Int → Bool, (sel n p).length ≤ 4000 := fun p => by have := (sel_set (n := n) (p := p)).lt r; omega
  have small : small62 n := s62 (by omega) (by omega)
  have at_ : ∀ k : Int, 0 ≤ k → k < n → ixD ((rgI 0 n.toNat).map fun m => D.bl (decide (m ∈ ms))) k = some (.bl (decide (k ∈ ms))) := fun k => mk_at
  have md : ∀ k : Int, 0 ≤ k % n ∧ k % n < n := fun k => ⟨Int.emod_nonneg _ (by omega), Int.emod_lt_of_pos _ n0⟩
  have fe : ∀ k : Int, k.fmod n = k % n := fun k => fmE (by omega)
  have nz : ¬ n = 0 := by omega
  simp [runBody, t__law_moved, startD, slotsOf, slotOf, x_lc, small]
  rw [intsFrom_rg]
  refine comp_m (fun m => D.bl (decide (m ∈ ms))) (by rw [rg_len]; omega) (fun m hm R' hr => ?_) ?_
  · simp [Fr.wipe, intsD, in_ints]
    exact hr _ rfl
  generalize hmk : (rgI 0 n.toNat).map (fun m => D.bl (decide (m ∈ ms))) = mk at *
  simp [t__law_moved_s1, lotD]
  refine ⟨n, ms, b, rfl, r, hs, ?_⟩
  simp [x_lc, small]
  refine sel_comp r (fun x => decide ((x - b) % n ∈ ms)) ⟨n, _, rfl, ll _, ?_⟩ (fun m m0 m1 P hp => ?_) (fun m R' hr => ?_)
  rotate_left
  · simp [Fr.wipe, fe, nz, at_ _ (md _).1 (md _).2]
    exact hp
  · simp [Fr.wipe]
    exact hr _ rfl
  simp [t__law_moved_s2, lotD]
  refine ⟨n, ms, b, rfl, r, hs, ?_⟩
  simp [x_lc, small]
  refine sel_comp r (fun x => decide ((x - -b) % n ∈ ms)) ⟨n, _, rfl, ll _, ?_⟩ (fun m m0 m1 P hp => ?_) (fun m R' hr => ?_)
  rotate_left
  · simp only [Int.sub_neg] at hp
    simp [Fr.wipe, fe, nz, at_ _ (md _).1 (md _).2]
    exact hp
  · simp [Fr.wipe]
    exact hr _ rfl
  simp [t__law_moved_s3, lotD]
  refine ⟨n, ms, rfl, r, hs, ?_⟩
  simp [x_lc, small]
  refine sel_comp r (fun x => decide ((0 - x) % n ∈ ms)) ⟨n, _, rfl, ll _, ?_⟩ (fun m m0 m1 P hp => ?_) (fun m R' hr => ?_)
  rotate_left
  · simp only [Int.zero_sub] at hp
    simp [Fr.wipe, fe, nz, at_ _ (md _).1 (md _).2]
    exact hp
  · simp [Fr.wipe]
    exact hr _ rfl
  simp [t__law_moved_s4, lotD]
  refine ⟨n, ms, rfl, r, hs, ?_⟩
  simp [x_lc, small]
  refine sel_comp r (fun x => decide (x ∉ ms)) ⟨n, _, rfl, ll _, ?_⟩ (fun m m0 m1 P hp => ?_) (fun m R' hr => ?_)
  rotate_left
  · simp [Fr.wipe, at_ _ m0 m1]
    simpa using hp
  · simp [Fr.wipe]
    exact hr _ rfl
  simp [t__law_moved_s5, lotD]
  refine ⟨n, ms, b, rfl, r, hs, ?_⟩
  simp [lotD]
  refine ⟨n, _, b, rfl, r, sel_set, ?_⟩
  rw [tn_back r hs b]
  simp [lotD, D.val]
  refine use_eq (b := ms) ?_
  simp [lotD]
  refine ⟨n, ms, rfl, r, hs, ?_⟩
  simp [lotD]
  refine ⟨n, _, rfl, r, sel_set, ?_⟩
  rw [ng_ng r hs]
  simp [lotD, D.val]
  refine use_eq (b := ms) ?_
  simp
  refine ⟨n, ms, rfl, r, hs, ?_⟩
  simp [lotD]
  refine ⟨n, _, rfl, r, sel_set, ?_⟩
  rw [in_in hs]
  simp [lotD, D.val]
  refine use_eq (b := ms) ?_
  simp
  exact q
end VL
end
section
set_option linter.all false
set_option maxRecDepth 100000
set_option maxHeartbeats 4000000
set_option exponentiation.threshold 2000
namespace VL
open PySem
theorem or_comm {n : Int} {a b : List Int} : orL n b a = orL n a b := by
  unfold orL
  congr 1
  funext x
  rw [Bool.or_comm]
theorem and_comm {n : Int} {a b : List Int} (ha : SetL n a) (hb : SetL n b) : andL b a = andL a b := SetL.eqv (and_set hb) (and_set ha) fun x => by
  unfold andL
  rw [List.mem_filter, List.mem_filter]
  simp
  exact And.comm
@[simp] theorem x_or_o {c c' : Nat} {xs ys : List D} {Q : QR} {X : QX} {dn : Dun} {m : Dn} : opObj dn m (.obj c xs) (.obj c' ys) Q X = (c' = c ∧ objL dn m c xs (.obj c' ys) Q X) := rfl
theorem p__law_joined (ds : List D) (Q : QR) (X : QX) (h : sp__law_joined ds Q X) : runBody t__law_joined (startD 8 [false, false, false, false, false] ds) Q X := by
  obtain ⟨n, a, b, rfl, r, ha, hb, q⟩ := h
  have n0 := r_pos r
  have n1 := r.2
  have la := ha.lt r
  have lo : (orL n a b).length ≤ 4000 := by have := (sel_set (n := n) (p := fun x => decide (x ∈ a) || decide (x ∈ b))).lt r; unfold orL; omega
  have lan : (andL a b).length ≤ 4000 := by have := (and_set (b := b) ha).lt r; omega
  have small : small62 n := s62 (by omega) (by omega)
  simp [runBody, t__law_joined, startD, slotsOf, slotOf, x_lc, small]
  refine sel_comp r (fun x => decide (x ∈ a) || decide (x ∈ b)) ?_ (fun m m0 m1 P hp => ?_) (fun m R' hr => ?_)
  rotate_left
  · simp [Fr.wipe, intsD, in_ints]
    by_cases h1 : m ∈ a
    · simpa [h1] using hp
    · simpa [h1] using hp
  · simp [Fr.wipe]
    exact hr _ rfl
  simp [x_lc, intsD]
  refine comp_fm (fun x => decide (x ∈ b)) D.int (by omega) (fun m hm P hp => ?_) (fun m hm _ R' hr => ?_) ?_
  · simp [Fr.wipe, in_ints]
    exact hp
  · simp [Fr.wipe]
    exact hr _ rfl
  have eo : sel n (fun x => decide (x ∈ a) || decide (x ∈ b)) = orL n a b := rfl
  have ea : a.filter (fun x => decide (x ∈ b)) = andL a b := rfl
  rw [eo, ea]
  simp [lotD]
  refine ⟨n, a, n, b, rfl, r, ha, hb, fun _ => ?_, fun z => absurd rfl z⟩
  simp
  refine ⟨n, _, rfl, lo, ?_⟩
  simp
  refine ⟨n, b, n, a, rfl, r, hb, ha, fun _ => ?_, fun z => absurd rfl z⟩
  rw [or_comm (n := n) (a := a) (b := b)]
  simp
  refine ⟨n, _, rfl, lo, ?_⟩
  simp
  refine ⟨n, a, n, b, rfl, r, ha, hb, fun _ => ?_, fun z => absurd rfl z⟩
  simp
  refine ⟨n, _, rfl, lan, ?_⟩
  simp
  refine ⟨n, b, n, a, rfl, r, hb, ha, fun _ => ?_, fun z => absurd rfl z⟩
  rw [and_comm ha hb]
  exact ⟨n, _, rfl, lan, q⟩
theorem p__law_kept_apart (ds : List D) (Q : QR) (X : QX) (h : sp__law_kept_apart ds Q X) : runBody t__law_kept_apart (startD 6 [false, false, false] ds) Q X := by
  obtain ⟨n, a, k, b, way, rfl, r, ha, hb, ne, q⟩ := h
  simp [runBody, t__law_kept_apart, startD, slotsOf, slotOf]
  by_cases w : way = 0
  · simp [w, lotD]
    refine ⟨n, a, k, b, rfl, r, ha, hb, fun z => absurd z ne, fun _ => ?_⟩
    simp [ct_WatchError, ix_OtherHours, ix_ValueError, ix_OtherHouse, ix_Meets, ix_NotADivisor, noExc, opAddF]
    exact eq_b5 true true false false false q
  · simp [w, lotD]
    refine ⟨n, a, k, b, rfl, r, ha, hb, fun z => absurd z ne, fun _ => ?_⟩
    simp [ct_WatchError, ix_OtherHours, ix_ValueError, ix_OtherHouse, ix_Meets, ix_NotADivisor, noExc, opAddF]
    exact eq_b5 true true false false false q
/-- sorted([(h + b) % n for h in ms]) -/
theorem tn_sorted {n : Int} {ms os : List Int} (r : Rng n) (h : SetL n ms) (b : Int) (hp : os.Perm (ms.map fun m => (m + b) % n)) (hs : os.Pairwise (· ≤ ·)) : os = tn n ms b := by
  obtain ⟨h1, h2⟩ := moved r h (fun m => m + b) (fun x => x - b) (mv_add r b).1 (mv_add r b).2
  have e : red n (ms.map fun m => m + b) = ms.map fun m => (m + b) % n := by
    unfold red
    rw [List.map_map]
    rfl
  rw [e] at h1 h2
  exact SetL.eqv (os_set h1 (fun x hx => by
    obtain ⟨m, _, rfl⟩ := List.mem_map.mp hx
    exact ⟨Int.emod_nonneg _ (by have := r.1; omega), Int.emod_lt_of_pos _ (r_pos r)⟩) hp hs) sel_set fun x => hp.mem_iff.trans (h2 x).symm
abbrev kB (Q : QR) (X : QX) : Ko := { nx := fun x => Q (.fz .non), rt := Q, xq := fun x x_1 => X x }
section
variable {ns : List Int} {wd : D} {n ring by_ : Int} {a b : List Int} {o9 o10 : Option Sl} {Q : QR} {X : QX} (r : Rng n) (rr : Rng ring) (ha : SetL n a) (hb : SetL ring b) (q : Q (.fz (.bl true)))
include r rr ha hb q
theorem pb20 : t__law_part_b_s20 (kB Q X) [some (.fz (.scr ns)), some (.fz wd), some (.fz (.int n)), some (.fz (.lst (a.map D.int))), some (.fz (.int ring)), some (.fz (.lst (b.map D.int))), some (.fz (.int by_)), some (.fz (lotD n a)), some (.fz (lotD ring b)), o9, o10] := by
  have n0 := r_pos r
  have n1 := r.2
  have la := ha.lt r
  have lb := hb.lt rr
  have small : small62 n := s62 (by omega) (by omega)
  have fin : sp__law_is_lot_b [lotD n a, .int n, intsD a] (fun r => match r.d with
      | .bl b' => if b' = true then sp__law_is_lot_b [lotD ring b, .int ring, intsD b] Q (fun x => X x) else Q (.fz (.bl false))
      | _ => False) (fun x => X x) := by
    refine ⟨n, a, rfl, by omega, ?_⟩
    simp
    exact ⟨ring, b, rfl, by omega, q⟩
  simp [t__law_part_b_s20]
  split
  · rename_i e
    subst e
    have lo : (orL n a b).length ≤ 4000 := by have := (sel_set (n := n) (p := fun x => decide (x ∈ a) || decide (x ∈ b))).lt r; unfold orL; omega
    have lan : (andL a b).length ≤ 4000 := by have := (and_set (b := b) ha).lt r; omega
    simp [t__law_part_b_b1, lotD]
    refine ⟨n, a, n, b, rfl, r, ha, hb, fun _ => ?_, fun z => absurd rfl z⟩
    simp [x_lc, small]
    refine sel_comp r (fun x => decide (x ∈ a) || decide (x ∈ b)) ?_ (fun m m0 m1 P hp => ?_) (fun m R' hr => ?_)
    rotate_left
    · simp [Fr.wipe, in_ints]
      by_cases h1 : m ∈ a
      · simpa [h1] using hp
      · simpa [h1] using hp
    · simp [Fr.wipe]
      exact hr _ rfl
    refine ⟨n, _, rfl, lo, ?_⟩
    simp
    refine ⟨n, a, n, b, rfl, r, ha, hb, fun _ => ?_, fun z => absurd rfl z⟩
    simp [x_lc]
    refine comp_fm (fun x => decide (x ∈ b)) D.int (by omega) (fun m hm P hp => ?_) (fun m hm _ R' hr => ?_) ?_
    · simp [Fr.wipe, in_ints]
      exact hp
    · simp [Fr.wipe]
      exact hr _ rfl
    refine ⟨n, _, rfl, lan, ?_⟩
    simp
    exact fin
  · exact fin
theorem pb17 : t__law_part_b_s17 (kB Q X) [some (.fz (.scr ns)), some (.fz wd), some (.fz (.int n)), some (.fz (.lst (a.map D.int))), some (.fz (.int ring)), some (.fz (.lst (b.map D.int))), some (.fz (.int by_)), some (.fz (lotD n a)), some (.fz (lotD ring b)), o9, none] := by
  have n0 := r_pos r
  have la := ha.lt r
  simp [t__law_part_b_s17, t__law_part_b_s18, lotD]
  refine ⟨n, a, by_, rfl, r, ha, ?_⟩
  simp [t__law_part_b_s19, x_lc]
  refine comp_m (fun m => D.int ((m + -by_) % n)) (by omega) (fun m hm R' hr => ?_) ?_
  · simp [Fr.wipe]
    refine ⟨by omega, ?_⟩
    rw [fmE (by omega)]
    exact hr _ rfl
  rw [mapD (ms := a) (fun m => (m + -by_) % n), x_bSorted]
  intro os hp hs
  rw [tn_sorted r ha (-by_) hp hs]
  refine ⟨n, _, rfl, by have := (sel_set (n := n) (p := fun x => decide ((x - -by_) % n ∈ a))).lt r; unfold tn; omega, ?_⟩
  simp
  refine ⟨n, a, rfl, by omega, ?_⟩
  simp
  exact pb20 r rr ha hb q
theorem pb14 : t__law_part_b_s14 (kB Q X) [some (.fz (.scr ns)), some (.fz wd), some (.fz (.int n)), some (.fz (.lst (a.map D.int))), some (.fz (.int ring)), some (.fz (.lst (b.map D.int))), some (.fz (.int by_)), some (.fz (lotD n a)), some (.fz (lotD ring b)), none, none] := by
  have n0 := r_pos r
  have la := ha.lt r
  simp [t__law_part_b_s14, t__law_part_b_s15, lotD]
  refine ⟨n, a, by_, rfl, r, ha, ?_⟩
  simp [t__law_part_b_s16, x_lc]
  refine comp_m (fun m => D.int ((m + by_) % n)) (by omega) (fun m hm R' hr => ?_) ?_
  · simp [Fr.wipe]
    refine ⟨by omega, ?_⟩
    rw [fmE (by omega)]
    exact hr _ rfl
  rw [mapD (ms := a) (fun m => (m + by_) % n), x_bSorted]
  intro os hp hs
  rw [tn_sorted r ha by_ hp hs]
  refine ⟨n, _, rfl, by have := (sel_set (n := n) (p := fun x => decide ((x - by_) % n ∈ a))).lt r; unfold tn; omega, ?_⟩
  simp
  refine ⟨n, a, rfl, by omega, ?_⟩
  simp
  exact pb17 r rr ha hb q
theorem pb9 : t__law_part_b_s9 (kB Q X) [some (.fz (.scr ns)), some (.fz wd), some (.fz (.int n)), some (.fz (.lst (a.map D.int))), some (.fz (.int ring)), some (.fz (.lst (b.map D.int))), some (.fz (.int by_)), none, none, none, none] := by
  simp [t__law_part_b_s9]
  refine use_lotS r ha ?_
  simp [t__law_part_b_s10]
  refine use_lotS rr hb ?_
  simp [t__law_part_b_s11]
  refine ⟨n, a, by_, rfl, r, ha, ?_⟩
  simp
  refine ⟨ring, b, by_, rfl, rr, hb, ?_⟩
  simp [t__law_part_b_s12]
  have go := pb14 (ns := ns) (wd := wd) (by_ := by_) (X := X) r rr ha hb q
  by_cases e : n = ring
  · subst e
    simp [t__law_part_b_s13]
    refine ⟨n, a, b, rfl, r, ha, hb, ?_⟩
    simp
    exact go
  · simp [e, t__law_part_b_s13, t__law_part_b_b0]
    refine ⟨n, a, ring, b, 0, rfl, r, ha, hb, e, ?_⟩
    simp
    refine ⟨ring, b, n, a, 0, rfl, rr, hb, ha, fun z => e z.symm, ?_⟩
    simp
    refine ⟨n, a, ring, b, 1, rfl, r, ha, hb, e, ?_⟩
    simp
    refine ⟨ring, b, n, a, 1, rfl, rr, hb, ha, fun z => e z.symm, ?_⟩
    simp
    exact go
end
end VL
end
section
set_option linter.all false
set_option maxRecDepth 100000
set_option maxHeartbeats 4000000
set_option exponentiation.threshold 2000
namespace VL
open PySem
abbrev w8 (w0 w1 w2 w3 w4 w5 w6 w7 : Int) : D := .lst [.int w0, .int w1, .int w2, .int w3, .int w4, .int w5, .int w6, .int w7]
section
variable {ns : List Int} {n ring w0 w1 w2 w3 w4 w5 w6 w7 : Int} {a b : List Int} {Q : QR} {X : QX} (r : Rng n) (rr : Rng ring) (ha : SetL n a) (hb : SetL ring b) (h6 : 0 ≤ w6) (q : Q (.fz (.bl true)))
include r rr ha hb h6 q
theorem pb8 : t__law_part_b_s8 (kB Q X) [some (.fz (.scr ns)), some (.fz (w8 w0 w1 w2 w3 w4 w5 w6 w7)), some (.fz (.int n)), some (.fz (.lst (a.map D.int))), some (.fz (.int ring)), some (.fz (.lst (b.map D.int))), none, none, none, none, none] := by
  have x6 : ixD [D.int w0, .int w1, .int w2, .int w3, .int w4, .int w5, .int w6, .int w7] 6 = some (.int w6) := rfl
  have x7 : ixD [D.int w0, .int w1, .int w2, .int w3, .int w4, .int w5, .int w6, .int w7] 7 = some (.int w7) := rfl
  simp [t__law_part_b_s8, x6, x7]
  refine ⟨ns, n, w6, w7, rfl, h6, fun by_ => ?_⟩
  exact pb9 r rr ha hb q
theorem pb7 : t__law_part_b_s7 (kB Q X) [some (.fz (.scr ns)), some (.fz (w8 w0 w1 w2 w3 w4 w5 w6 w7)), some (.fz (.int n)), some (.fz (.lst (a.map D.int))), some (.fz (.int ring)), some (.fz (.lst (b.map D.int))), none, none, none, none, none] := by
  have x5 : ixD [D.int w0, .int w1, .int w2, .int w3, .int w4, .int w5, .int w6, .int w7] 5 = some (.int w5) := rfl
  simp [t__law_part_b_s7, x5]
  split
  · simp [x_lc]
    refine ⟨s62 (by have := rr.1; omega) (by have := rr.2; omega), ?_⟩
    refine sel_comp rr (fun x => decide (x ∉ a)) ?_ (fun m m0 m1 P hp => ?_) (fun m R' hr => ?_)
    rotate_left
    · simp [Fr.wipe, notIn_ints]
      simpa using hp
    · simp [Fr.wipe]
      exact hr _ rfl
    exact pb8 r rr ha sel_set h6 q
  · exact pb8 r rr ha hb h6 q
theorem pb6 : t__law_part_b_s6 (kB Q X) [some (.fz (.scr ns)), some (.fz (w8 w0 w1 w2 w3 w4 w5 w6 w7)), some (.fz (.int n)), some (.fz (.lst (a.map D.int))), some (.fz (.int ring)), some (.fz (.lst (b.map D.int))), none, none, none, none, none] := by
  have x5 : ixD [D.int w0, .int w1, .int w2, .int w3, .int w4, .int w5, .int w6, .int w7] 5 = some (.int w5) := rfl
  have la := ha.lt r
  simp [t__law_part_b_s6, x5]
  split
  · simp [x_lc]
    refine comp_fm (fun x => decide (x < ring)) D.int (by omega) (fun m hm P hp => ?_) (fun m hm _ R' hr => ?_) ?_
    · simp [Fr.wipe]
      exact hp
    · simp [Fr.wipe]
      exact hr _ rfl
    have hs : SetL ring (a.filter fun x => decide (x < ring)) := ⟨ha.1.filter _, fun x hx => by
      have h := List.mem_filter.mp hx
      exact ⟨(ha.2 x h.1).1, of_decide_eq_true h.2⟩⟩
    exact pb7 r rr ha hs h6 q
  · exact pb7 r rr ha hb h6 q
end
theorem pb3 {ns : List Int} {n w0 w1 w2 w3 w4 w5 w6 w7 : Int} {Q : QR} {X : QX} (r : Rng n) (h6 : 0 ≤ w6) (q : Q (.fz (.bl true))) :
    t__law_part_b_s3 (kB Q X) [some (.fz (.scr ns)), some (.fz (w8 w0 w1 w2 w3 w4 w5 w6 w7)), some (.fz (.int n)), none, none, none, none, none, none, none, none] := by
  have x3 : ixD [D.int w0, .int w1, .int w2, .int w3, .int w4, .int w5, .int w6, .int w7] 3 = some (.int w3) := rfl
  have x4 : ixD [D.int w0, .int w1, .int w2, .int w3, .int w4, .int w5, .int w6, .int w7] 4 = some (.int w4) := rfl
  have x5 : ixD [D.int w0, .int w1, .int w2, .int w3, .int w4, .int w5, .int w6, .int w7] 5 = some (.int w5) := rfl
  simp [t__law_part_b_s3, x4]
  refine use_cell (by decide) fun c c0 => ?_
  simp
  refine ⟨c, 26, n, w4, rfl, c0, by decide, r, fun a ha rr er => ?_⟩
  simp [er, t__law_part_b_s4, x3]
  refine ⟨n, w3, rfl, r, fun ring rr => ?_⟩
  simp [t__law_part_b_s5, x5]
  refine use_cell (by decide) fun c2 c20 => ?_
  simp
  refine ⟨c2, 40, ring, w5, rfl, c20, by decide, rr, fun b hb r2 er2 => ?_⟩
  simp [er2]
  exact pb6 r rr ha hb h6 q
theorem p__law_part_b (ds : List D) (Q : QR) (X : QX) (h : sp__law_part_b ds Q X) : runBody t__law_part_b (startD 11 [false] ds) Q X := by
  obtain ⟨ns, rfl, q⟩ := h
  simp [runBody, t__law_part_b, startD, slotsOf, slotOf]
  refine use_cell (by decide) fun c c0 => ?_
  simp
  refine use_draws (menu := [8, 24, 360, 8, 8, 8, 6, 2]) rfl c0 (by decide) (by decide) (by decide) fun out ho => ?_
  obtain ⟨w0, ws, rfl, b0, ho⟩ := ho.cons
  obtain ⟨w1, ws, rfl, b1, ho⟩ := ho.cons
  obtain ⟨w2, ws, rfl, b2, ho⟩ := ho.cons
  obtain ⟨w3, ws, rfl, b3, ho⟩ := ho.cons
  obtain ⟨w4, ws, rfl, b4, ho⟩ := ho.cons
  obtain ⟨w5, ws, rfl, b5, ho⟩ := ho.cons
  obtain ⟨w6, ws, rfl, b6, ho⟩ := ho.cons
  obtain ⟨w7, ws, rfl, b7, ho⟩ := ho.cons
  obtain rfl := ho.nil
  have x0 : ixD [D.int w0, .int w1, .int w2, .int w3, .int w4, .int w5, .int w6, .int w7] 0 = some (.int w0) := rfl
  have x1 : ixD [D.int w0, .int w1, .int w2, .int w3, .int w4, .int w5, .int w6, .int w7] 1 = some (.int w1) := rfl
  have x2 : ixD [D.int w0, .int w1, .int w2, .int w3, .int w4, .int w5, .int w6, .int w7] 2 = some (.int w2) := rfl
  simp [t__law_part_b_s1, t__law_part_b_s2, x0, x1, x2]
  split
  · exact pb3 ⟨by omega, by omega⟩ b6.1 q
  · exact pb3 ⟨by omega, by omega⟩ b6.1 q
theorem p_law (ds : List D) (Q : QR) (X : QX) (h : sp_law ds Q X) : runBody t_law (startD 1 [false] ds) Q X := by
  obtain ⟨ns, rfl, q⟩ := h
  simp [runBody, t_law, startD, slotsOf, slotOf]
  refine ⟨ns, rfl, ?_⟩
  simp
  exact ⟨ns, rfl, q⟩
end VL
end
section
set_option Elab.async false
set_option linter.all false
set_option maxRecDepth 100000
set_option maxHeartbeats 0
namespace VL
open PySem PySem.Spec PyProof.Rows L2 He
/-! ### the text -/
def top (i : Nat) : Stmt := PySem.Challenge.pw_beatswatched_k01_lots_told.main.body.getD i (.Pass ⟨0, 0, 0, 0⟩)
abbrev s_hours_checked : Stmt := (top 11)
abbrev s_rings_checked : Stmt := (top 12)
abbrev s_first_repeated : Stmt := (top 14)
abbrev s_Lot___init__ : Stmt := ((C8.clsBody (top 16)).getD 1 (.Pass ⟨0, 0, 0, 0⟩))
abbrev s_Lot_full : Stmt := ((C8.clsBody (top 16)).getD 2 (.Pass ⟨0, 0, 0, 0⟩))
abbrev s_Lot_members : Stmt := ((C8.clsBody (top 16)).getD 3 (.Pass ⟨0, 0, 0, 0⟩))
abbrev s_Lot___len__ : Stmt := ((C8.clsBody (top 16)).getD 6 (.Pass ⟨0, 0, 0, 0⟩))
abbrev s_Lot___contains__ : Stmt := ((C8.clsBody (top 16)).getD 8 (.Pass ⟨0, 0, 0, 0⟩))
abbrev s_Lot___eq__ : Stmt := ((C8.clsBody (top 16)).getD 9 (.Pass ⟨0, 0, 0, 0⟩))
abbrev s_Lot___lshift__ : Stmt := ((C8.clsBody (top 16)).getD 10 (.Pass ⟨0, 0, 0, 0⟩))
abbrev s_Lot___rshift__ : Stmt := ((C8.clsBody (top 16)).getD 11 (.Pass ⟨0, 0, 0, 0⟩))
abbrev s_Lot___neg__ : Stmt := ((C8.clsBody (top 16)).getD 12 (.Pass ⟨0, 0, 0, 0⟩))
abbrev s_Lot___invert__ : Stmt := ((C8.clsBody (top 16)).getD 13 (.Pass ⟨0, 0, 0, 0⟩))
abbrev s_Lot___or__ : Stmt := ((C8.clsBody (top 16)).getD 14 (.Pass ⟨0, 0, 0, 0⟩))
abbrev s_Lot___and__ : Stmt := ((C8.clsBody (top 16)).getD 15 (.Pass ⟨0, 0, 0, 0⟩))
abbrev s__law_cell : Stmt := (top 18)
abbrev s__law_draws : Stmt := (top 19)
abbrev s__law_is_int : Stmt := (top 20)
abbrev s__law_same : Stmt := (top 21)
abbrev s__law_digits : Stmt := (top 22)
abbrev s__law_zigzag : Stmt := (top 23)
abbrev s__law_bits : Stmt := (top 24)
abbrev s__law_subset : Stmt := (top 25)
abbrev s__law_hours : Stmt := (top 26)
abbrev s__law_values : Stmt := (top 27)
abbrev s__law_first_repeated : Stmt := (top 28)
abbrev s__law_told_lot : Stmt := (top 29)
abbrev s__law_told_full : Stmt := (top 30)
abbrev s__law_kinds : Stmt := (top 31)
abbrev s__law_is_lot : Stmt := (top 32)
abbrev s__law_equalities : Stmt := (top 33)
abbrev s__law_membership : Stmt := (top 34)
abbrev s__law_part_a : Stmt := (top 35)
abbrev s__law_drawn_lot : Stmt := (top 36)
abbrev s__law_other_ring : Stmt := (top 37)
abbrev s__law_turn : Stmt := (top 38)
abbrev s__law_is_lot_b : Stmt := (top 39)
abbrev s__law_moved : Stmt := (top 40)
abbrev s__law_joined : Stmt := (top 41)
abbrev s__law_kept_apart : Stmt := (top 42)
abbrev s__law_part_b : Stmt := (top 43)
abbrev s_law : Stmt := (top 44)
abbrev s_Lot___iter__ : Stmt := ((C8.clsBody (top 16)).getD 7 (.Pass ⟨0, 0, 0, 0⟩))
abbrev s_BadNumber___init__ : Stmt := ((C8.clsBody (top 3)).getD 0 (.Pass ⟨0, 0, 0, 0⟩))
abbrev s_RepeatedHour___init__ : Stmt := ((C8.clsBody (top 4)).getD 0 (.Pass ⟨0, 0, 0, 0⟩))
def cs : List (Str × List Str) := [("Lot", ["hours", "_members"]), ("WatchError", []), ("BadNumber", ["name", "value"]), ("RepeatedHour", ["hour"]), ("Meets", ["hour"]), ("OtherHours", []), ("OtherHouse", []), ("NotADivisor", ["number"]), ("Refused", [])]
abbrev tab (K : PySem.W.Frag) : Tab := tabOf cs 1 K
theorem lt_ct_BadNumber (c : Nat) (b : Bool) (e : ct_BadNumber c = some b) : c < 9 := by
  unfold ct_BadNumber at e
  split at e <;> first | omega | cases e
theorem lt_ct_RepeatedHour (c : Nat) (b : Bool) (e : ct_RepeatedHour c = some b) : c < 9 := by
  unfold ct_RepeatedHour at e
  split at e <;> first | omega | cases e
theorem lt_ct_WatchError (c : Nat) (b : Bool) (e : ct_WatchError c = some b) : c < 9 := by
  unfold ct_WatchError at e
  split at e <;> first | omega | cases e
theorem lt_ix_ValueError (c : Nat) (b : Bool) (e : ix_ValueError c = some b) : c < 9 := by
  unfold ix_ValueError at e
  split at e <;> first | omega | cases e
theorem lt_ix_BadNumber (c : Nat) (b : Bool) (e : ix_BadNumber c = some b) : c < 9 := by
  unfold ix_BadNumber at e
  split at e <;> first | omega | cases e
theorem lt_ix_RepeatedHour (c : Nat) (b : Bool) (e : ix_RepeatedHour c = some b) : c < 9 := by
  unfold ix_RepeatedHour at e
  split at e <;> first | omega | cases e
theorem lt_ix_Meets (c : Nat) (b : Bool) (e : ix_Meets c = some b) : c < 9 := by
  unfold ix_Meets at e
  split at e <;> first | omega | cases e
theorem lt_ix_Refused (c : Nat) (b : Bool) (e : ix_Refused c = some b) : c < 9 := by
  unfold ix_Refused at e
  split at e <;> first | omega | cases e
theorem lt_ix_OtherHours (c : Nat) (b : Bool) (e : ix_OtherHours c = some b) : c < 9 := by
  unfold ix_OtherHours at e
  split at e <;> first | omega | cases e
theorem lt_ix_OtherHouse (c : Nat) (b : Bool) (e : ix_OtherHouse c = some b) : c < 9 := by
  unfold ix_OtherHouse at e
  split at e <;> first | omega | cases e
theorem lt_ix_NotADivisor (c : Nat) (b : Bool) (e : ix_NotADivisor c = some b) : c < 9 := by
  unfold ix_NotADivisor at e
  split at e <;> first | omega | cases e
theorem fl_hours (K : PySem.W.Frag) : ([(0, 0)] : List (Nat × Nat)).all (fun p => ((tab K).flds p.1)[p.2]? == some ("hours" : Str)) = true := by simp [tab, tabOf, cs]
theorem fl__members (K : PySem.W.Frag) : ([(0, 1)] : List (Nat × Nat)).all (fun p => ((tab K).flds p.1)[p.2]? == some ("_members" : Str)) = true := by simp [tab, tabOf, cs]
theorem fi_Lot_hours (K : PySem.W.Frag) : ((tab K).flds 0)[0]? = some ("hours" : Str) := by simp [tab, tabOf, cs]
theorem fi_Lot__members (K : PySem.W.Frag) : ((tab K).flds 0)[1]? = some ("_members" : Str) := by simp [tab, tabOf, cs]
theorem duN {P : Program} {w : World} {K : PySem.W.Frag} {mg : Str → Option Value} {base : Heap} {T : Tab} {r : Nat} : ∀ c m sp, dnN c m = some sp → c < T.n → DnOk P w K mg base T r c m m.ms sp := fun _ _ _ h => by cases h
/-! ### facts -/
structure Sx (K : PySem.W.Frag) (mg : Str → Option Value) : Prop where
  lib : Lib (tab K) K
  g_BadNumber : mg "BadNumber" = some (.ref (ga K "BadNumber"))
  r_OtherHours : RaiseF (tab K) K 5
  g_OtherHours : mg "OtherHours" = some (.ref (ga K "OtherHours"))
  n_len : mg "len" = none
  n_range : mg "range" = none
  c_Lot_MOST : ConF (tab K) K "MOST" (0, .int 360)
  g_hours_checked : mg "hours_checked" = some (.ref (ga K "hours_checked"))
  n_set : mg "set" = none
  g_first_repeated : mg "first_repeated" = some (.ref (ga K "first_repeated"))
  g_RepeatedHour : mg "RepeatedHour" = some (.ref (ga K "RepeatedHour"))
  n_int : mg "int" = none
  n_sorted : mg "sorted" = none
  cc_Lot_MOST : ClsConF (tab K) K "MOST" (0, .int 360)
  n_list : mg "list" = none
  n_isinstance : mg "isinstance" = none
  g_Lot : mg "Lot" = some (.ref (ga K "Lot"))
  g_rings_checked : mg "rings_checked" = some (.ref (ga K "rings_checked"))
  n_abs : mg "abs" = none
  n_bool : mg "bool" = none
  g__law_is_int : mg "_law_is_int" = some (.ref (ga K "_law_is_int"))
  n_str : mg "str" = none
  n_tuple : mg "tuple" = none
  g__law_same : mg "_law_same" = some (.ref (ga K "_law_same"))
  g__law_draws : mg "_law_draws" = some (.ref (ga K "_law_draws"))
  g__law_bits : mg "_law_bits" = some (.ref (ga K "_law_bits"))
  g__law_cell : mg "_law_cell" = some (.ref (ga K "_law_cell"))
  g__law_digits : mg "_law_digits" = some (.ref (ga K "_law_digits"))
  g__law_subset : mg "_law_subset" = some (.ref (ga K "_law_subset"))
  n_max : mg "max" = none
  g__law_zigzag : mg "_law_zigzag" = some (.ref (ga K "_law_zigzag"))
  xf_name : ∀ p ∈ ([(2, 0)] : List (Nat × Nat)), XfC K ((tab K).cls p.1) ∧ PySem.W.findIn K (.ref ((tab K).cls p.1)) "name" = some none ∧ ((tab K).flds p.1)[p.2]? = some "name"
  xf_value : ∀ p ∈ ([(2, 1)] : List (Nat × Nat)), XfC K ((tab K).cls p.1) ∧ PySem.W.findIn K (.ref ((tab K).cls p.1)) "value" = some none ∧ ((tab K).flds p.1)[p.2]? = some "value"
  e_BadNumber : ∀ c b, ct_BadNumber c = some b → PySem.W.exmOne K (.ref ((tab K).cls c)) (.ref (ga K "BadNumber")) = some b
  xf_hour : ∀ p ∈ ([(3, 0), (4, 0)] : List (Nat × Nat)), XfC K ((tab K).cls p.1) ∧ PySem.W.findIn K (.ref ((tab K).cls p.1)) "hour" = some none ∧ ((tab K).flds p.1)[p.2]? = some "hour"
  e_RepeatedHour : ∀ c b, ct_RepeatedHour c = some b → PySem.W.exmOne K (.ref ((tab K).cls c)) (.ref (ga K "RepeatedHour")) = some b
  cm_Lot_full : ClsMethF (tab K) K 0 "full" (cga K ((tab K).cls 0) "full")
  n_ValueError : mg "ValueError" = none
  x_ValueError : ∀ c b, ix_ValueError c = some b → ExcF (tab K) K c ∧ PySem.W.kitOne K (.ref ((tab K).cls c)) (.type "ValueError") = some b
  x_BadNumber : ∀ c b, ix_BadNumber c = some b → ExcF (tab K) K c ∧ PySem.W.kitOne K (.ref ((tab K).cls c)) (.ref (ga K "BadNumber")) = some b
  x_RepeatedHour : ∀ c b, ix_RepeatedHour c = some b → ExcF (tab K) K c ∧ PySem.W.kitOne K (.ref ((tab K).cls c)) (.ref (ga K "RepeatedHour")) = some b
  g_Meets : mg "Meets" = some (.ref (ga K "Meets"))
  x_Meets : ∀ c b, ix_Meets c = some b → ExcF (tab K) K c ∧ PySem.W.kitOne K (.ref ((tab K).cls c)) (.ref (ga K "Meets")) = some b
  g_Refused : mg "Refused" = some (.ref (ga K "Refused"))
  x_Refused : ∀ c b, ix_Refused c = some b → ExcF (tab K) K c ∧ PySem.W.kitOne K (.ref ((tab K).cls c)) (.ref (ga K "Refused")) = some b
  e_WatchError : ∀ c b, ct_WatchError c = some b → PySem.W.exmOne K (.ref ((tab K).cls c)) (.ref (ga K "WatchError")) = some b
  g_WatchError : mg "WatchError" = some (.ref (ga K "WatchError"))
  p_Lot_members : PropOf K (ga K "Lot") "members" (ma K (ga K "Lot") "members") (pga K (ma K (ga K "Lot") "members"))
  g__law_hours : mg "_law_hours" = some (.ref (ga K "_law_hours"))
  g__law_values : mg "_law_values" = some (.ref (ga K "_law_values"))
  g__law_told_lot : mg "_law_told_lot" = some (.ref (ga K "_law_told_lot"))
  g__law_told_full : mg "_law_told_full" = some (.ref (ga K "_law_told_full"))
  g__law_kinds : mg "_law_kinds" = some (.ref (ga K "_law_kinds"))
  g__law_first_repeated : mg "_law_first_repeated" = some (.ref (ga K "_law_first_repeated"))
  g__law_is_lot : mg "_law_is_lot" = some (.ref (ga K "_law_is_lot"))
  g__law_equalities : mg "_law_equalities" = some (.ref (ga K "_law_equalities"))
  g__law_membership : mg "_law_membership" = some (.ref (ga K "_law_membership"))
  g__law_is_lot_b : mg "_law_is_lot_b" = some (.ref (ga K "_law_is_lot_b"))
  x_OtherHours : ∀ c b, ix_OtherHours c = some b → ExcF (tab K) K c ∧ PySem.W.kitOne K (.ref ((tab K).cls c)) (.ref (ga K "OtherHours")) = some b
  g_OtherHouse : mg "OtherHouse" = some (.ref (ga K "OtherHouse"))
  x_OtherHouse : ∀ c b, ix_OtherHouse c = some b → ExcF (tab K) K c ∧ PySem.W.kitOne K (.ref ((tab K).cls c)) (.ref (ga K "OtherHouse")) = some b
  g_NotADivisor : mg "NotADivisor" = some (.ref (ga K "NotADivisor"))
  x_NotADivisor : ∀ c b, ix_NotADivisor c = some b → ExcF (tab K) K c ∧ PySem.W.kitOne K (.ref ((tab K).cls c)) (.ref (ga K "NotADivisor")) = some b
  g__law_drawn_lot : mg "_law_drawn_lot" = some (.ref (ga K "_law_drawn_lot"))
  g__law_other_ring : mg "_law_other_ring" = some (.ref (ga K "_law_other_ring"))
  g__law_turn : mg "_law_turn" = some (.ref (ga K "_law_turn"))
  g__law_moved : mg "_law_moved" = some (.ref (ga K "_law_moved"))
  g__law_joined : mg "_law_joined" = some (.ref (ga K "_law_joined"))
  g__law_kept_apart : mg "_law_kept_apart" = some (.ref (ga K "_law_kept_apart"))
  g__law_part_a : mg "_law_part_a" = some (.ref (ga K "_law_part_a"))
  g__law_part_b : mg "_law_part_b" = some (.ref (ga K "_law_part_b"))
  n_super : mg "super" = none
  n_iter : mg "iter" = none
  m_Lot___iter__ : MethF (tab K) K 0 "__iter__" (ma K ((tab K).cls 0) "__iter__")
/-! ### derivations -/
theorem d_hours_checked {P : Program} {w : World} {K : PySem.W.Frag} {mg : Str → Option Value} {base : Heap} (s : Sx K mg) {r : Nat} (X_BadNumber : XkV P w K mg base (tab K) r 2 2 true)  {f : Addr} {cdv : Value} {A : Around} {outer : List Env} {st : Shared} {H : Hp} {E : XK} (hr : Room (r + 2) (A.deeper (envOfC "hours_checked" (defScope s_hours_checked) st.heap.objs.size f cdv))) :
    VSs (cxOf (L2.CX P w) P w K mg base ["hours", "most"] "hours_checked" (defScope s_hours_checked) f cdv A outer st H E) (tab K) (fun cls d _ H => E cls d H) z0 (defBody s_hours_checked) t_hours_checked := by
  have hr0 := hr.mono (Nat.le_add_right r 2)
  have hr1 := hr.mono (show r + 1 ≤ r + 2 by omega)
  have tk : Takes (cxOf (L2.CX P w) P w K mg base ["hours", "most"] "hours_checked" (defScope s_hours_checked) f cdv A outer st H E) (fun cls d _ H => E cls d H) := takes_of rfl rfl rfl rfl
  have po : PassesOwn (model P w) (Cx.A (cxOf (L2.CX P w) P w K mg base ["hours", "most"] "hours_checked" (defScope s_hours_checked) f cdv A outer st H E)) (Cx.env (cxOf (L2.CX P w) P w K mg base ["hours", "most"] "hours_checked" (defScope s_hours_checked) f cdv A outer st H E)) (Cx.xe (cxOf (L2.CX P w) P w K mg base ["hours", "most"] "hours_checked" (defScope s_hours_checked) f cdv A outer st H E)) := passes_of (X := (cxOf (L2.CX P w) P w K mg base ["hours", "most"] "hours_checked" (defScope s_hours_checked) f cdv A outer st H E)) rfl
  have nd : (["hours", "most"] : List Str).Nodup := by decide
  exact (vss_one (vs_if (vt_not (vt_chain (opv_le ⟨s.lib, tk, hr, duN⟩) (opv_le ⟨s.lib, tk, hr, duN⟩) ve_int (ve_var (i := 0)) (ve_var (i := 1)))) (vss_one (vs_raiseF (c := 2) (n := 2) (b := true) X_BadNumber hr1 rfl tk rfl s.g_BadNumber (va_cons ve_str (va_cons (ve_var (i := 0)) va_nil)))) vss_nil))
theorem d_rings_checked {P : Program} {w : World} {K : PySem.W.Frag} {mg : Str → Option Value} {base : Heap} (s : Sx K mg) {r : Nat}   {f : Addr} {cdv : Value} {A : Around} {outer : List Env} {st : Shared} {H : Hp} {E : XK} (hr : Room (r + 2) (A.deeper (envOfC "rings_checked" (defScope s_rings_checked) st.heap.objs.size f cdv))) :
    VSs (cxOf (L2.CX P w) P w K mg base ["one", "other"] "rings_checked" (defScope s_rings_checked) f cdv A outer st H E) (tab K) (fun cls d _ H => E cls d H) z0 (defBody s_rings_checked) t_rings_checked := by
  have hr0 := hr.mono (Nat.le_add_right r 2)
  have hr1 := hr.mono (show r + 1 ≤ r + 2 by omega)
  have tk : Takes (cxOf (L2.CX P w) P w K mg base ["one", "other"] "rings_checked" (defScope s_rings_checked) f cdv A outer st H E) (fun cls d _ H => E cls d H) := takes_of rfl rfl rfl rfl
  have po : PassesOwn (model P w) (Cx.A (cxOf (L2.CX P w) P w K mg base ["one", "other"] "rings_checked" (defScope s_rings_checked) f cdv A outer st H E)) (Cx.env (cxOf (L2.CX P w) P w K mg base ["one", "other"] "rings_checked" (defScope s_rings_checked) f cdv A outer st H E)) (Cx.xe (cxOf (L2.CX P w) P w K mg base ["one", "other"] "rings_checked" (defScope s_rings_checked) f cdv A outer st H E)) := passes_of (X := (cxOf (L2.CX P w) P w K mg base ["one", "other"] "rings_checked" (defScope s_rings_checked) f cdv A outer st H E)) rfl
  have nd : (["one", "other"] : List Str).Nodup := by decide
  exact (vss_one (vs_if (vt_cmp (opv_ne ⟨s.lib, tk, hr, duN⟩) (ve_fld s.lib (vb_var (i := 0)) (fl_hours K)) (ve_fld s.lib (vb_var (i := 1)) (fl_hours K)) (nomark _)) (vss_one (vs_raise (c := 5) s.r_OtherHours rfl tk rfl s.g_OtherHours)) vss_nil))
theorem d_first_repeated {P : Program} {w : World} {K : PySem.W.Frag} {mg : Str → Option Value} {base : Heap} (s : Sx K mg) {r : Nat}   {f : Addr} {cdv : Value} {A : Around} {outer : List Env} {st : Shared} {H : Hp} {E : XK} (hr : Room (r + 2) (A.deeper (envOfC "first_repeated" (defScope s_first_repeated) st.heap.objs.size f cdv))) :
    VSs (cxOf (L2.CX P w) P w K mg base ["residues", "at"] "first_repeated" (defScope s_first_repeated) f cdv A outer st H E) (tab K) (fun cls d _ H => E cls d H) z0 (defBody s_first_repeated) t_first_repeated := by
  have hr0 := hr.mono (Nat.le_add_right r 2)
  have hr1 := hr.mono (show r + 1 ≤ r + 2 by omega)
  have tk : Takes (cxOf (L2.CX P w) P w K mg base ["residues", "at"] "first_repeated" (defScope s_first_repeated) f cdv A outer st H E) (fun cls d _ H => E cls d H) := takes_of rfl rfl rfl rfl
  have po : PassesOwn (model P w) (Cx.A (cxOf (L2.CX P w) P w K mg base ["residues", "at"] "first_repeated" (defScope s_first_repeated) f cdv A outer st H E)) (Cx.env (cxOf (L2.CX P w) P w K mg base ["residues", "at"] "first_repeated" (defScope s_first_repeated) f cdv A outer st H E)) (Cx.xe (cxOf (L2.CX P w) P w K mg base ["residues", "at"] "first_repeated" (defScope s_first_repeated) f cdv A outer st H E)) := passes_of (X := (cxOf (L2.CX P w) P w K mg base ["residues", "at"] "first_repeated" (defScope s_first_repeated) f cdv A outer st H E)) rfl
  have nd : (["residues", "at"] : List Str).Nodup := by decide
  exact (vss_cons (vs_for po rfl (vi_rng2 rfl s.n_range ve_int (ve_blt (cv_len ⟨s.lib, tk, hr, duN⟩) rfl s.n_len (by decide +kernel) (vab_cons (vl_var (i := 0)) vab_nil))) (vg_nm nd (i := 1)) (vss_one (vs_if (vt_cmp (opv_in ⟨s.lib, tk, hr, duN⟩) (ve_ix (vl_var (i := 0)) (ve_var (i := 1))) (ve_sl (vl_var (i := 0)) vo_none (vo_some (ve_var (i := 1)))) (by with_unfolding_all rfl)) (vss_one (vs_ret (ve_ix (vl_var (i := 0)) (ve_var (i := 1))))) vss_nil)))
    (vss_one (vs_ret ve_non)))
theorem d_Lot___init__ {P : Program} {w : World} {K : PySem.W.Frag} {mg : Str → Option Value} {base : Heap} (s : Sx K mg) {r : Nat} (C_hours_checked_2 : FnV P w K mg base (tab K) r (ga K "hours_checked") [false, false] [] sp_hours_checked) (C_first_repeated_1 : FnV P w K mg base (tab K) r (ga K "first_repeated") [false] [] sp_first_repeated) (X_RepeatedHour : XkV P w K mg base (tab K) r 3 1 false)  (a : Addr) {f : Addr} {cdv : Value} {A : Around} {outer : List Env} {st : Shared} {H : Hp} {E : XK} (hr : Room (r + 2) (A.deeper (envOfC "Lot.__init__" (defScope s_Lot___init__) st.heap.objs.size f cdv))) :
    VSs (cxOf (L2.CX P w) P w K mg base ["self", "hours", "members", "residues", "member", "residue"] "Lot.__init__" (defScope s_Lot___init__) f cdv A outer st H E) (tab K) (fun cls d _ H => E cls d H) (zI a) (defBody s_Lot___init__) t_Lot___init__ := by
  have hr0 := hr.mono (Nat.le_add_right r 2)
  have hr1 := hr.mono (show r + 1 ≤ r + 2 by omega)
  have tk : Takes (cxOf (L2.CX P w) P w K mg base ["self", "hours", "members", "residues", "member", "residue"] "Lot.__init__" (defScope s_Lot___init__) f cdv A outer st H E) (fun cls d _ H => E cls d H) := takes_of rfl rfl rfl rfl
  have po : PassesOwn (model P w) (Cx.A (cxOf (L2.CX P w) P w K mg base ["self", "hours", "members", "residues", "member", "residue"] "Lot.__init__" (defScope s_Lot___init__) f cdv A outer st H E)) (Cx.env (cxOf (L2.CX P w) P w K mg base ["self", "hours", "members", "residues", "member", "residue"] "Lot.__init__" (defScope s_Lot___init__) f cdv A outer st H E)) (Cx.xe (cxOf (L2.CX P w) P w K mg base ["self", "hours", "members", "residues", "member", "residue"] "Lot.__init__" (defScope s_Lot___init__) f cdv A outer st H E)) := passes_of (X := (cxOf (L2.CX P w) P w K mg base ["self", "hours", "members", "residues", "member", "residue"] "Lot.__init__" (defScope s_Lot___init__) f cdv A outer st H E)) rfl
  have nd : (["self", "hours", "members", "residues", "member", "residue"] : List Str).Nodup := by decide
  exact (vss_cons (vs_expr (ve_call C_hours_checked_2 hr0 tk rfl s.g_hours_checked (va_cons (ve_var (i := 1)) (va_cons (ve_con s.lib (vb_var (i := 0)) (fun p hp => by rw [List.mem_singleton.mp hp]; exact s.c_Lot_MOST)) va_nil))))
    (vss_cons (by first | exact vs_setLc (i := 3) (own := [("member", 4)]) rfl nd (vi_name (i := 2)) (blkOk_by (by kernel_rfl)) (fun _ _ _ _ _ => (vgw_nm nd (i := 4))) (fun _ _ _ _ _ => vts_nil) (fun _ _ _ _ _ => (ve_bin (opv_mod ⟨s.lib, takes_no, hr, duN⟩) (ve_var (i := 4)) (ve_var (i := 1)))) (sw_true rfl rfl rfl (by decide +kernel)) | exact vs_set nd (i := 3) (ve_lc (own := [("member", 4)]) rfl nd (vi_name (i := 2)) (blkOk_by (by kernel_rfl)) (fun _ _ _ _ _ => (vgw_nm nd (i := 4))) (fun _ _ _ _ _ => vts_nil) (fun _ _ _ _ _ => (ve_bin (opv_mod ⟨s.lib, takes_no, hr, duN⟩) (ve_var (i := 4)) (ve_var (i := 1))))))
    (vss_cons (vs_if (vt_cmp (opv_lt ⟨s.lib, tk, hr, duN⟩) (ve_lenSet rfl rfl s.n_len rfl s.n_set (vl_var (i := 3))) (ve_blt (cv_len ⟨s.lib, tk, hr, duN⟩) rfl s.n_len (by decide +kernel) (vab_cons (vl_var (i := 3)) vab_nil)) (nomark _)) (vss_one (vs_raiseF (c := 3) (n := 1) (b := false) X_RepeatedHour hr1 rfl tk rfl s.g_RepeatedHour (va_cons (ve_call C_first_repeated_1 hr0 tk rfl s.g_first_repeated (va_cons (ve_var (i := 3)) va_nil)) va_nil))) vss_nil)
    (vss_cons (vs_fldI (i := 0) (c := 0) (n := 0) s.lib (ve_var (i := 1)) (fi_Lot_hours K))
    (vss_one (vs_fldI (i := 0) (c := 0) (n := 1) s.lib (ve_blt (cv_sorted) rfl s.n_sorted (by decide +kernel) (vab_cons (VE.toL (ve_lc (own := [("residue", 5)]) rfl nd (vi_seq (ve_var (i := 3))) (blkOk_by (by kernel_rfl)) (fun _ _ _ _ _ => (vgw_nm nd (i := 5))) (fun _ _ _ _ _ => vts_nil) (fun _ _ _ _ _ => (ve_bltT (cv_int) rfl s.n_int (by decide +kernel) (vab_cons (vl_var (i := 5)) vab_nil))))) vab_nil)) (fi_Lot__members K)))))))
theorem d_Lot_full {P : Program} {w : World} {K : PySem.W.Frag} {mg : Str → Option Value} {base : Heap} (s : Sx K mg) {r : Nat} (C_hours_checked_2 : FnV P w K mg base (tab K) r (ga K "hours_checked") [false, false] [] sp_hours_checked) (M_Lot_2 : MkV P w K mg base (tab K) r 0 [false, true] [] sp_Lot___init__)  {f : Addr} {cdv : Value} {A : Around} {outer : List Env} {st : Shared} {H : Hp} {E : XK} (hr : Room (r + 2) (A.deeper (envOfC "Lot.full" (defScope s_Lot_full) st.heap.objs.size f cdv))) :
    VSs (cxOf (L2.CX P w) P w K mg base ["cls", "hours"] "Lot.full" (defScope s_Lot_full) f cdv A outer st H E) (tab K) (fun cls d _ H => E cls d H) z0 (defBody s_Lot_full) t_Lot_full := by
  have hr0 := hr.mono (Nat.le_add_right r 2)
  have hr1 := hr.mono (show r + 1 ≤ r + 2 by omega)
  have tk : Takes (cxOf (L2.CX P w) P w K mg base ["cls", "hours"] "Lot.full" (defScope s_Lot_full) f cdv A outer st H E) (fun cls d _ H => E cls d H) := takes_of rfl rfl rfl rfl
  have po : PassesOwn (model P w) (Cx.A (cxOf (L2.CX P w) P w K mg base ["cls", "hours"] "Lot.full" (defScope s_Lot_full) f cdv A outer st H E)) (Cx.env (cxOf (L2.CX P w) P w K mg base ["cls", "hours"] "Lot.full" (defScope s_Lot_full) f cdv A outer st H E)) (Cx.xe (cxOf (L2.CX P w) P w K mg base ["cls", "hours"] "Lot.full" (defScope s_Lot_full) f cdv A outer st H E)) := passes_of (X := (cxOf (L2.CX P w) P w K mg base ["cls", "hours"] "Lot.full" (defScope s_Lot_full) f cdv A outer st H E)) rfl
  have nd : (["cls", "hours"] : List Str).Nodup := by decide
  exact (vss_cons (vs_expr (ve_call C_hours_checked_2 hr0 tk rfl s.g_hours_checked (va_cons (ve_var (i := 1)) (va_cons (ve_clsCon (ve_var (i := 0)) (fun p hp => by rw [List.mem_singleton.mp hp]; exact s.cc_Lot_MOST)) va_nil))))
    (vss_one (vs_ret (ve_makeV (i := 0) M_Lot_2 hr1 tk (va_cons (ve_var (i := 1)) (va_consB (VE.toB (ve_listRg1 rfl rfl s.n_list rfl s.n_range (ve_var (i := 1)))) va_nil))))))
theorem d_Lot_members {P : Program} {w : World} {K : PySem.W.Frag} {mg : Str → Option Value} {base : Heap} (s : Sx K mg) {r : Nat}   {f : Addr} {cdv : Value} {A : Around} {outer : List Env} {st : Shared} {H : Hp} {E : XK} (hr : Room (r + 2) (A.deeper (envOfC "Lot.members" (defScope s_Lot_members) st.heap.objs.size f cdv))) :
    VSs (cxOf (L2.CX P w) P w K mg base ["self"] "Lot.members" (defScope s_Lot_members) f cdv A outer st H E) (tab K) (fun cls d _ H => E cls d H) z0 (defBody s_Lot_members) t_Lot_members := by
  have hr0 := hr.mono (Nat.le_add_right r 2)
  have hr1 := hr.mono (show r + 1 ≤ r + 2 by omega)
  have tk : Takes (cxOf (L2.CX P w) P w K mg base ["self"] "Lot.members" (defScope s_Lot_members) f cdv A outer st H E) (fun cls d _ H => E cls d H) := takes_of rfl rfl rfl rfl
  have po : PassesOwn (model P w) (Cx.A (cxOf (L2.CX P w) P w K mg base ["self"] "Lot.members" (defScope s_Lot_members) f cdv A outer st H E)) (Cx.env (cxOf (L2.CX P w) P w K mg base ["self"] "Lot.members" (defScope s_Lot_members) f cdv A outer st H E)) (Cx.xe (cxOf (L2.CX P w) P w K mg base ["self"] "Lot.members" (defScope s_Lot_members) f cdv A outer st H E)) := passes_of (X := (cxOf (L2.CX P w) P w K mg base ["self"] "Lot.members" (defScope s_Lot_members) f cdv A outer st H E)) rfl
  have nd : (["self"] : List Str).Nodup := by decide
  exact (vss_one (vs_ret (ve_bltT (cv_list) rfl s.n_list (by decide +kernel) (vab_cons (VE.toL (ve_fld s.lib (vb_var (i := 0)) (fl__members K))) vab_nil))))
theorem d_Lot___len__ {P : Program} {w : World} {K : PySem.W.Frag} {mg : Str → Option Value} {base : Heap} (s : Sx K mg) {r : Nat}   {f : Addr} {cdv : Value} {A : Around} {outer : List Env} {st : Shared} {H : Hp} {E : XK} (hr : Room (r + 2) (A.deeper (envOfC "Lot.__len__" (defScope s_Lot___len__) st.heap.objs.size f cdv))) :
    VSs (cxOf (L2.CX P w) P w K mg base ["self"] "Lot.__len__" (defScope s_Lot___len__) f cdv A outer st H E) (tab K) (fun cls d _ H => E cls d H) z0 (defBody s_Lot___len__) t_Lot___len__ := by
  have hr0 := hr.mono (Nat.le_add_right r 2)
  have hr1 := hr.mono (show r + 1 ≤ r + 2 by omega)
  have tk : Takes (cxOf (L2.CX P w) P w K mg base ["self"] "Lot.__len__" (defScope s_Lot___len__) f cdv A outer st H E) (fun cls d _ H => E cls d H) := takes_of rfl rfl rfl rfl
  have po : PassesOwn (model P w) (Cx.A (cxOf (L2.CX P w) P w K mg base ["self"] "Lot.__len__" (defScope s_Lot___len__) f cdv A outer st H E)) (Cx.env (cxOf (L2.CX P w) P w K mg base ["self"] "Lot.__len__" (defScope s_Lot___len__) f cdv A outer st H E)) (Cx.xe (cxOf (L2.CX P w) P w K mg base ["self"] "Lot.__len__" (defScope s_Lot___len__) f cdv A outer st H E)) := passes_of (X := (cxOf (L2.CX P w) P w K mg base ["self"] "Lot.__len__" (defScope s_Lot___len__) f cdv A outer st H E)) rfl
  have nd : (["self"] : List Str).Nodup := by decide
  exact (vss_one (vs_ret (ve_blt (cv_len ⟨s.lib, tk, hr, duN⟩) rfl s.n_len (by decide +kernel) (vab_cons (VE.toL (ve_fld s.lib (vb_var (i := 0)) (fl__members K))) vab_nil))))
theorem d_Lot___contains__ {P : Program} {w : World} {K : PySem.W.Frag} {mg : Str → Option Value} {base : Heap} (s : Sx K mg) {r : Nat}   {f : Addr} {cdv : Value} {A : Around} {outer : List Env} {st : Shared} {H : Hp} {E : XK} (hr : Room (r + 2) (A.deeper (envOfC "Lot.__contains__" (defScope s_Lot___contains__) st.heap.objs.size f cdv))) :
    VSs (cxOf (L2.CX P w) P w K mg base ["self", "number"] "Lot.__contains__" (defScope s_Lot___contains__) f cdv A outer st H E) (tab K) (fun cls d _ H => E cls d H) z0 (defBody s_Lot___contains__) t_Lot___contains__ := by
  have hr0 := hr.mono (Nat.le_add_right r 2)
  have hr1 := hr.mono (show r + 1 ≤ r + 2 by omega)
  have tk : Takes (cxOf (L2.CX P w) P w K mg base ["self", "number"] "Lot.__contains__" (defScope s_Lot___contains__) f cdv A outer st H E) (fun cls d _ H => E cls d H) := takes_of rfl rfl rfl rfl
  have po : PassesOwn (model P w) (Cx.A (cxOf (L2.CX P w) P w K mg base ["self", "number"] "Lot.__contains__" (defScope s_Lot___contains__) f cdv A outer st H E)) (Cx.env (cxOf (L2.CX P w) P w K mg base ["self", "number"] "Lot.__contains__" (defScope s_Lot___contains__) f cdv A outer st H E)) (Cx.xe (cxOf (L2.CX P w) P w K mg base ["self", "number"] "Lot.__contains__" (defScope s_Lot___contains__) f cdv A outer st H E)) := passes_of (X := (cxOf (L2.CX P w) P w K mg base ["self", "number"] "Lot.__contains__" (defScope s_Lot___contains__) f cdv A outer st H E)) rfl
  have nd : (["self", "number"] : List Str).Nodup := by decide
  exact (vss_one (vs_ret (ve_cmp (opv_in ⟨s.lib, tk, hr, duN⟩) (ve_bin (opv_mod ⟨s.lib, tk, hr, duN⟩) (ve_var (i := 1)) (ve_fld s.lib (vb_var (i := 0)) (fl_hours K))) (ve_fld s.lib (vb_var (i := 0)) (fl__members K)) (by with_unfolding_all rfl))))
theorem d_Lot___eq__ {P : Program} {w : World} {K : PySem.W.Frag} {mg : Str → Option Value} {base : Heap} (s : Sx K mg) {r : Nat}   {f : Addr} {cdv : Value} {A : Around} {outer : List Env} {st : Shared} {H : Hp} {E : XK} (hr : Room (r + 2) (A.deeper (envOfC "Lot.__eq__" (defScope s_Lot___eq__) st.heap.objs.size f cdv))) :
    VSs (cxOf (L2.CX P w) P w K mg base ["self", "other"] "Lot.__eq__" (defScope s_Lot___eq__) f cdv A outer st H E) (tab K) (fun cls d _ H => E cls d H) z0 (defBody s_Lot___eq__) t_Lot___eq__ := by
  have hr0 := hr.mono (Nat.le_add_right r 2)
  have hr1 := hr.mono (show r + 1 ≤ r + 2 by omega)
  have tk : Takes (cxOf (L2.CX P w) P w K mg base ["self", "other"] "Lot.__eq__" (defScope s_Lot___eq__) f cdv A outer st H E) (fun cls d _ H => E cls d H) := takes_of rfl rfl rfl rfl
  have po : PassesOwn (model P w) (Cx.A (cxOf (L2.CX P w) P w K mg base ["self", "other"] "Lot.__eq__" (defScope s_Lot___eq__) f cdv A outer st H E)) (Cx.env (cxOf (L2.CX P w) P w K mg base ["self", "other"] "Lot.__eq__" (defScope s_Lot___eq__) f cdv A outer st H E)) (Cx.xe (cxOf (L2.CX P w) P w K mg base ["self", "other"] "Lot.__eq__" (defScope s_Lot___eq__) f cdv A outer st H E)) := passes_of (X := (cxOf (L2.CX P w) P w K mg base ["self", "other"] "Lot.__eq__" (defScope s_Lot___eq__) f cdv A outer st H E)) rfl
  have nd : (["self", "other"] : List Str).Nodup := by decide
  exact (vss_one (vs_ret (ve_and (ve_isC s.lib (c0 := 0) (show (0 : Nat) < 1 by decide) rfl s.n_isinstance rfl s.g_Lot (vl_var (i := 1))) (ve_and (ve_cmp (opv_eq ⟨s.lib, tk, hr, duN⟩) (ve_fld s.lib (vb_var (i := 0)) (fl_hours K)) (ve_fld s.lib (vb_var (i := 1)) (fl_hours K)) (nomark _)) (ve_one (ve_cmp (opv_eq ⟨s.lib, tk, hr, duN⟩) (ve_fld s.lib (vb_var (i := 0)) (fl__members K)) (ve_fld s.lib (vb_var (i := 1)) (fl__members K)) (nomark _)))))))
theorem d_Lot___lshift__ {P : Program} {w : World} {K : PySem.W.Frag} {mg : Str → Option Value} {base : Heap} (s : Sx K mg) {r : Nat} (M_Lot_2 : MkV P w K mg base (tab K) r 0 [false, true] [] sp_Lot___init__)  {f : Addr} {cdv : Value} {A : Around} {outer : List Env} {st : Shared} {H : Hp} {E : XK} (hr : Room (r + 2) (A.deeper (envOfC "Lot.__lshift__" (defScope s_Lot___lshift__) st.heap.objs.size f cdv))) :
    VSs (cxOf (L2.CX P w) P w K mg base ["self", "by", "member"] "Lot.__lshift__" (defScope s_Lot___lshift__) f cdv A outer st H E) (tab K) (fun cls d _ H => E cls d H) z0 (defBody s_Lot___lshift__) t_Lot___lshift__ := by
  have hr0 := hr.mono (Nat.le_add_right r 2)
  have hr1 := hr.mono (show r + 1 ≤ r + 2 by omega)
  have tk : Takes (cxOf (L2.CX P w) P w K mg base ["self", "by", "member"] "Lot.__lshift__" (defScope s_Lot___lshift__) f cdv A outer st H E) (fun cls d _ H => E cls d H) := takes_of rfl rfl rfl rfl
  have po : PassesOwn (model P w) (Cx.A (cxOf (L2.CX P w) P w K mg base ["self", "by", "member"] "Lot.__lshift__" (defScope s_Lot___lshift__) f cdv A outer st H E)) (Cx.env (cxOf (L2.CX P w) P w K mg base ["self", "by", "member"] "Lot.__lshift__" (defScope s_Lot___lshift__) f cdv A outer st H E)) (Cx.xe (cxOf (L2.CX P w) P w K mg base ["self", "by", "member"] "Lot.__lshift__" (defScope s_Lot___lshift__) f cdv A outer st H E)) := passes_of (X := (cxOf (L2.CX P w) P w K mg base ["self", "by", "member"] "Lot.__lshift__" (defScope s_Lot___lshift__) f cdv A outer st H E)) rfl
  have nd : (["self", "by", "member"] : List Str).Nodup := by decide
  exact (vss_one (vs_ret (ve_make M_Lot_2 hr1 tk rfl s.g_Lot (va_cons (ve_fld s.lib (vb_var (i := 0)) (fl_hours K)) (va_consB (VE.toB (ve_lc (own := [("member", 2)]) rfl nd (vi_seq (ve_fld s.lib (vb_var (i := 0)) (fl__members K))) (blkOk_by (by kernel_rfl)) (fun _ _ _ _ _ => (vgw_nm nd (i := 2))) (fun _ _ _ _ _ => vts_nil) (fun _ _ _ _ _ => (ve_bin (opv_add ⟨s.lib, takes_no, hr, duN⟩) (ve_var (i := 2)) (ve_var (i := 1)))))) va_nil)))))
theorem d_Lot___rshift__ {P : Program} {w : World} {K : PySem.W.Frag} {mg : Str → Option Value} {base : Heap} (s : Sx K mg) {r : Nat} (M_Lot_2 : MkV P w K mg base (tab K) r 0 [false, true] [] sp_Lot___init__)  {f : Addr} {cdv : Value} {A : Around} {outer : List Env} {st : Shared} {H : Hp} {E : XK} (hr : Room (r + 2) (A.deeper (envOfC "Lot.__rshift__" (defScope s_Lot___rshift__) st.heap.objs.size f cdv))) :
    VSs (cxOf (L2.CX P w) P w K mg base ["self", "by", "member"] "Lot.__rshift__" (defScope s_Lot___rshift__) f cdv A outer st H E) (tab K) (fun cls d _ H => E cls d H) z0 (defBody s_Lot___rshift__) t_Lot___rshift__ := by
  have hr0 := hr.mono (Nat.le_add_right r 2)
  have hr1 := hr.mono (show r + 1 ≤ r + 2 by omega)
  have tk : Takes (cxOf (L2.CX P w) P w K mg base ["self", "by", "member"] "Lot.__rshift__" (defScope s_Lot___rshift__) f cdv A outer st H E) (fun cls d _ H => E cls d H) := takes_of rfl rfl rfl rfl
  have po : PassesOwn (model P w) (Cx.A (cxOf (L2.CX P w) P w K mg base ["self", "by", "member"] "Lot.__rshift__" (defScope s_Lot___rshift__) f cdv A outer st H E)) (Cx.env (cxOf (L2.CX P w) P w K mg base ["self", "by", "member"] "Lot.__rshift__" (defScope s_Lot___rshift__) f cdv A outer st H E)) (Cx.xe (cxOf (L2.CX P w) P w K mg base ["self", "by", "member"] "Lot.__rshift__" (defScope s_Lot___rshift__) f cdv A outer st H E)) := passes_of (X := (cxOf (L2.CX P w) P w K mg base ["self", "by", "member"] "Lot.__rshift__" (defScope s_Lot___rshift__) f cdv A outer st H E)) rfl
  have nd : (["self", "by", "member"] : List Str).Nodup := by decide
  exact (vss_one (vs_ret (ve_make M_Lot_2 hr1 tk rfl s.g_Lot (va_cons (ve_fld s.lib (vb_var (i := 0)) (fl_hours K)) (va_consB (VE.toB (ve_lc (own := [("member", 2)]) rfl nd (vi_seq (ve_fld s.lib (vb_var (i := 0)) (fl__members K))) (blkOk_by (by kernel_rfl)) (fun _ _ _ _ _ => (vgw_nm nd (i := 2))) (fun _ _ _ _ _ => vts_nil) (fun _ _ _ _ _ => (ve_bin (opv_sub ⟨s.lib, takes_no, hr, duN⟩) (ve_var (i := 2)) (ve_var (i := 1)))))) va_nil)))))
theorem d_Lot___neg__ {P : Program} {w : World} {K : PySem.W.Frag} {mg : Str → Option Value} {base : Heap} (s : Sx K mg) {r : Nat} (M_Lot_2 : MkV P w K mg base (tab K) r 0 [false, true] [] sp_Lot___init__)  {f : Addr} {cdv : Value} {A : Around} {outer : List Env} {st : Shared} {H : Hp} {E : XK} (hr : Room (r + 2) (A.deeper (envOfC "Lot.__neg__" (defScope s_Lot___neg__) st.heap.objs.size f cdv))) :
    VSs (cxOf (L2.CX P w) P w K mg base ["self", "member"] "Lot.__neg__" (defScope s_Lot___neg__) f cdv A outer st H E) (tab K) (fun cls d _ H => E cls d H) z0 (defBody s_Lot___neg__) t_Lot___neg__ := by
  have hr0 := hr.mono (Nat.le_add_right r 2)
  have hr1 := hr.mono (show r + 1 ≤ r + 2 by omega)
  have tk : Takes (cxOf (L2.CX P w) P w K mg base ["self", "member"] "Lot.__neg__" (defScope s_Lot___neg__) f cdv A outer st H E) (fun cls d _ H => E cls d H) := takes_of rfl rfl rfl rfl
  have po : PassesOwn (model P w) (Cx.A (cxOf (L2.CX P w) P w K mg base ["self", "member"] "Lot.__neg__" (defScope s_Lot___neg__) f cdv A outer st H E)) (Cx.env (cxOf (L2.CX P w) P w K mg base ["self", "member"] "Lot.__neg__" (defScope s_Lot___neg__) f cdv A outer st H E)) (Cx.xe (cxOf (L2.CX P w) P w K mg base ["self", "member"] "Lot.__neg__" (defScope s_Lot___neg__) f cdv A outer st H E)) := passes_of (X := (cxOf (L2.CX P w) P w K mg base ["self", "member"] "Lot.__neg__" (defScope s_Lot___neg__) f cdv A outer st H E)) rfl
  have nd : (["self", "member"] : List Str).Nodup := by decide
  exact (vss_one (vs_ret (ve_make M_Lot_2 hr1 tk rfl s.g_Lot (va_cons (ve_fld s.lib (vb_var (i := 0)) (fl_hours K)) (va_consB (VE.toB (ve_lc (own := [("member", 1)]) rfl nd (vi_seq (ve_fld s.lib (vb_var (i := 0)) (fl__members K))) (blkOk_by (by kernel_rfl)) (fun _ _ _ _ _ => (vgw_nm nd (i := 1))) (fun _ _ _ _ _ => vts_nil) (fun _ _ _ _ _ => (ve_un (opu_neg ⟨s.lib, takes_no, hr, duN⟩) (ve_var (i := 1)))))) va_nil)))))
theorem d_Lot___invert__ {P : Program} {w : World} {K : PySem.W.Frag} {mg : Str → Option Value} {base : Heap} (s : Sx K mg) {r : Nat} (M_Lot_2 : MkV P w K mg base (tab K) r 0 [false, true] [] sp_Lot___init__)  {f : Addr} {cdv : Value} {A : Around} {outer : List Env} {st : Shared} {H : Hp} {E : XK} (hr : Room (r + 2) (A.deeper (envOfC "Lot.__invert__" (defScope s_Lot___invert__) st.heap.objs.size f cdv))) :
    VSs (cxOf (L2.CX P w) P w K mg base ["self", "hour"] "Lot.__invert__" (defScope s_Lot___invert__) f cdv A outer st H E) (tab K) (fun cls d _ H => E cls d H) z0 (defBody s_Lot___invert__) t_Lot___invert__ := by
  have hr0 := hr.mono (Nat.le_add_right r 2)
  have hr1 := hr.mono (show r + 1 ≤ r + 2 by omega)
  have tk : Takes (cxOf (L2.CX P w) P w K mg base ["self", "hour"] "Lot.__invert__" (defScope s_Lot___invert__) f cdv A outer st H E) (fun cls d _ H => E cls d H) := takes_of rfl rfl rfl rfl
  have po : PassesOwn (model P w) (Cx.A (cxOf (L2.CX P w) P w K mg base ["self", "hour"] "Lot.__invert__" (defScope s_Lot___invert__) f cdv A outer st H E)) (Cx.env (cxOf (L2.CX P w) P w K mg base ["self", "hour"] "Lot.__invert__" (defScope s_Lot___invert__) f cdv A outer st H E)) (Cx.xe (cxOf (L2.CX P w) P w K mg base ["self", "hour"] "Lot.__invert__" (defScope s_Lot___invert__) f cdv A outer st H E)) := passes_of (X := (cxOf (L2.CX P w) P w K mg base ["self", "hour"] "Lot.__invert__" (defScope s_Lot___invert__) f cdv A outer st H E)) rfl
  have nd : (["self", "hour"] : List Str).Nodup := by decide
  exact (vss_one (vs_ret (ve_make M_Lot_2 hr1 tk rfl s.g_Lot (va_cons (ve_fld s.lib (vb_var (i := 0)) (fl_hours K)) (va_consB (VE.toB (ve_lc (own := [("hour", 1)]) rfl nd (vi_rng1 rfl s.n_range (ve_fld s.lib (vb_var (i := 0)) (fl_hours K))) (blkOk_by (by kernel_rfl)) (fun _ _ _ _ _ => (vgw_nm nd (i := 1))) (fun _ _ _ _ _ => (vts_one (vt_cmp (opv_notIn ⟨s.lib, takes_no, hr, duN⟩) (ve_var (i := 1)) (ve_fld s.lib (vb_var (i := 0)) (fl__members K)) (by with_unfolding_all rfl)))) (fun _ _ _ _ _ => (ve_var (i := 1))))) va_nil)))))
theorem d_Lot___or__ {P : Program} {w : World} {K : PySem.W.Frag} {mg : Str → Option Value} {base : Heap} (s : Sx K mg) {r : Nat} (C_rings_checked_2 : FnV P w K mg base (tab K) r (ga K "rings_checked") [false, false] [] sp_rings_checked) (M_Lot_2 : MkV P w K mg base (tab K) r 0 [false, true] [] sp_Lot___init__)  {f : Addr} {cdv : Value} {A : Around} {outer : List Env} {st : Shared} {H : Hp} {E : XK} (hr : Room (r + 2) (A.deeper (envOfC "Lot.__or__" (defScope s_Lot___or__) st.heap.objs.size f cdv))) :
    VSs (cxOf (L2.CX P w) P w K mg base ["self", "other", "member"] "Lot.__or__" (defScope s_Lot___or__) f cdv A outer st H E) (tab K) (fun cls d _ H => E cls d H) z0 (defBody s_Lot___or__) t_Lot___or__ := by
  have hr0 := hr.mono (Nat.le_add_right r 2)
  have hr1 := hr.mono (show r + 1 ≤ r + 2 by omega)
  have tk : Takes (cxOf (L2.CX P w) P w K mg base ["self", "other", "member"] "Lot.__or__" (defScope s_Lot___or__) f cdv A outer st H E) (fun cls d _ H => E cls d H) := takes_of rfl rfl rfl rfl
  have po : PassesOwn (model P w) (Cx.A (cxOf (L2.CX P w) P w K mg base ["self", "other", "member"] "Lot.__or__" (defScope s_Lot___or__) f cdv A outer st H E)) (Cx.env (cxOf (L2.CX P w) P w K mg base ["self", "other", "member"] "Lot.__or__" (defScope s_Lot___or__) f cdv A outer st H E)) (Cx.xe (cxOf (L2.CX P w) P w K mg base ["self", "other", "member"] "Lot.__or__" (defScope s_Lot___or__) f cdv A outer st H E)) := passes_of (X := (cxOf (L2.CX P w) P w K mg base ["self", "other", "member"] "Lot.__or__" (defScope s_Lot___or__) f cdv A outer st H E)) rfl
  have nd : (["self", "other", "member"] : List Str).Nodup := by decide
  exact (vss_cons (vs_expr (ve_call C_rings_checked_2 hr0 tk rfl s.g_rings_checked (va_cons (ve_var (i := 0)) (va_cons (ve_var (i := 1)) va_nil))))
    (vss_one (vs_ret (ve_make M_Lot_2 hr1 tk rfl s.g_Lot (va_cons (ve_fld s.lib (vb_var (i := 0)) (fl_hours K)) (va_consB (VE.toB (ve_bin (opv_add ⟨s.lib, tk, hr, duN⟩) (ve_fld s.lib (vb_var (i := 0)) (fl__members K)) (ve_lc (own := [("member", 2)]) rfl nd (vi_seq (ve_fld s.lib (vb_var (i := 1)) (fl__members K))) (blkOk_by (by kernel_rfl)) (fun _ _ _ _ _ => (vgw_nm nd (i := 2))) (fun _ _ _ _ _ => (vts_one (vt_cmp (opv_notIn ⟨s.lib, takes_no, hr, duN⟩) (ve_var (i := 2)) (ve_fld s.lib (vb_var (i := 0)) (fl__members K)) (by with_unfolding_all rfl)))) (fun _ _ _ _ _ => (ve_var (i := 2)))))) va_nil))))))
theorem d_Lot___and__ {P : Program} {w : World} {K : PySem.W.Frag} {mg : Str → Option Value} {base : Heap} (s : Sx K mg) {r : Nat} (C_rings_checked_2 : FnV P w K mg base (tab K) r (ga K "rings_checked") [false, false] [] sp_rings_checked) (M_Lot_2 : MkV P w K mg base (tab K) r 0 [false, true] [] sp_Lot___init__)  {f : Addr} {cdv : Value} {A : Around} {outer : List Env} {st : Shared} {H : Hp} {E : XK} (hr : Room (r + 2) (A.deeper (envOfC "Lot.__and__" (defScope s_Lot___and__) st.heap.objs.size f cdv))) :
    VSs (cxOf (L2.CX P w) P w K mg base ["self", "other", "member"] "Lot.__and__" (defScope s_Lot___and__) f cdv A outer st H E) (tab K) (fun cls d _ H => E cls d H) z0 (defBody s_Lot___and__) t_Lot___and__ := by
  have hr0 := hr.mono (Nat.le_add_right r 2)
  have hr1 := hr.mono (show r + 1 ≤ r + 2 by omega)
  have tk : Takes (cxOf (L2.CX P w) P w K mg base ["self", "other", "member"] "Lot.__and__" (defScope s_Lot___and__) f cdv A outer st H E) (fun cls d _ H => E cls d H) := takes_of rfl rfl rfl rfl
  have po : PassesOwn (model P w) (Cx.A (cxOf (L2.CX P w) P w K mg base ["self", "other", "member"] "Lot.__and__" (defScope s_Lot___and__) f cdv A outer st H E)) (Cx.env (cxOf (L2.CX P w) P w K mg base ["self", "other", "member"] "Lot.__and__" (defScope s_Lot___and__) f cdv A outer st H E)) (Cx.xe (cxOf (L2.CX P w) P w K mg base ["self", "other", "member"] "Lot.__and__" (defScope s_Lot___and__) f cdv A outer st H E)) := passes_of (X := (cxOf (L2.CX P w) P w K mg base ["self", "other", "member"] "Lot.__and__" (defScope s_Lot___and__) f cdv A outer st H E)) rfl
  have nd : (["self", "other", "member"] : List Str).Nodup := by decide
  exact (vss_cons (vs_expr (ve_call C_rings_checked_2 hr0 tk rfl s.g_rings_checked (va_cons (ve_var (i := 0)) (va_cons (ve_var (i := 1)) va_nil))))
    (vss_one (vs_ret (ve_make M_Lot_2 hr1 tk rfl s.g_Lot (va_cons (ve_fld s.lib (vb_var (i := 0)) (fl_hours K)) (va_consB (VE.toB (ve_lc (own := [("member", 2)]) rfl nd (vi_seq (ve_fld s.lib (vb_var (i := 0)) (fl__members K))) (blkOk_by (by kernel_rfl)) (fun _ _ _ _ _ => (vgw_nm nd (i := 2))) (fun _ _ _ _ _ => (vts_one (vt_cmp (opv_in ⟨s.lib, takes_no, hr, duN⟩) (ve_var (i := 2)) (ve_fld s.lib (vb_var (i := 1)) (fl__members K)) (by with_unfolding_all rfl)))) (fun _ _ _ _ _ => (ve_var (i := 2))))) va_nil))))))
theorem d__law_cell {P : Program} {w : World} {K : PySem.W.Frag} {mg : Str → Option Value} {base : Heap} (s : Sx K mg) {r : Nat}  (du : ∀ c m sp, dnL c m = some sp → c < (tab K).n → DnOk P w K mg base (tab K) r c m m.ms sp) {f : Addr} {cdv : Value} {A : Around} {outer : List Env} {st : Shared} {H : Hp} {E : XK} (hr : Room (r + 2) (A.deeper (envOfC "_law_cell" (defScope s__law_cell) st.heap.objs.size f cdv))) :
    VSs (cxOf (L2.CX P w) P w K mg base ["script", "k"] "_law_cell" (defScope s__law_cell) f cdv A outer st H E) (tab K) (fun cls d _ H => E cls d H) z0 (defBody s__law_cell) t__law_cell := by
  have hr0 := hr.mono (Nat.le_add_right r 2)
  have hr1 := hr.mono (show r + 1 ≤ r + 2 by omega)
  have tk : Takes (cxOf (L2.CX P w) P w K mg base ["script", "k"] "_law_cell" (defScope s__law_cell) f cdv A outer st H E) (fun cls d _ H => E cls d H) := takes_of rfl rfl rfl rfl
  have po : PassesOwn (model P w) (Cx.A (cxOf (L2.CX P w) P w K mg base ["script", "k"] "_law_cell" (defScope s__law_cell) f cdv A outer st H E)) (Cx.env (cxOf (L2.CX P w) P w K mg base ["script", "k"] "_law_cell" (defScope s__law_cell) f cdv A outer st H E)) (Cx.xe (cxOf (L2.CX P w) P w K mg base ["script", "k"] "_law_cell" (defScope s__law_cell) f cdv A outer st H E)) := passes_of (X := (cxOf (L2.CX P w) P w K mg base ["script", "k"] "_law_cell" (defScope s__law_cell) f cdv A outer st H E)) rfl
  have nd : (["script", "k"] : List Str).Nodup := by decide
  exact (vss_cons (vs_if (vt_cmp (opv_lt ⟨s.lib, tk, hr, du⟩) (ve_var (i := 1)) (ve_blt (cv_len ⟨s.lib, tk, hr, du⟩) rfl s.n_len (by decide +kernel) (vab_cons (vl_var (i := 0)) vab_nil)) (nomark _)) (vss_one (vs_ret (ve_blt (cv_abs ⟨s.lib, tk, hr, du⟩) rfl s.n_abs (by decide +kernel) (vab_cons (VE.toL (ve_ix (vl_var (i := 0)) (ve_var (i := 1)))) vab_nil)))) vss_nil)
    (vss_one (vs_ret ve_int)))
theorem d__law_draws {P : Program} {w : World} {K : PySem.W.Frag} {mg : Str → Option Value} {base : Heap} (s : Sx K mg) {r : Nat}  (du : ∀ c m sp, dnL c m = some sp → c < (tab K).n → DnOk P w K mg base (tab K) r c m m.ms sp) {f : Addr} {cdv : Value} {A : Around} {outer : List Env} {st : Shared} {H : Hp} {E : XK} (hr : Room (r + 2) (A.deeper (envOfC "_law_draws" (defScope s__law_draws) st.heap.objs.size f cdv))) :
    VSs (cxOf (L2.CX P w) P w K mg base ["cell", "salt", "menu", "found", "rest", "mixed", "k"] "_law_draws" (defScope s__law_draws) f cdv A outer st H E) (tab K) (fun cls d _ H => E cls d H) z0 (defBody s__law_draws) t__law_draws := by
  have hr0 := hr.mono (Nat.le_add_right r 2)
  have hr1 := hr.mono (show r + 1 ≤ r + 2 by omega)
  have tk : Takes (cxOf (L2.CX P w) P w K mg base ["cell", "salt", "menu", "found", "rest", "mixed", "k"] "_law_draws" (defScope s__law_draws) f cdv A outer st H E) (fun cls d _ H => E cls d H) := takes_of rfl rfl rfl rfl
  have po : PassesOwn (model P w) (Cx.A (cxOf (L2.CX P w) P w K mg base ["cell", "salt", "menu", "found", "rest", "mixed", "k"] "_law_draws" (defScope s__law_draws) f cdv A outer st H E)) (Cx.env (cxOf (L2.CX P w) P w K mg base ["cell", "salt", "menu", "found", "rest", "mixed", "k"] "_law_draws" (defScope s__law_draws) f cdv A outer st H E)) (Cx.xe (cxOf (L2.CX P w) P w K mg base ["cell", "salt", "menu", "found", "rest", "mixed", "k"] "_law_draws" (defScope s__law_draws) f cdv A outer st H E)) := passes_of (X := (cxOf (L2.CX P w) P w K mg base ["cell", "salt", "menu", "found", "rest", "mixed", "k"] "_law_draws" (defScope s__law_draws) f cdv A outer st H E)) rfl
  have nd : (["cell", "salt", "menu", "found", "rest", "mixed", "k"] : List Str).Nodup := by decide
  exact (vss_cons (vs_own nd (i := 3) (ve_lst va_nil))
    (vss_cons (vs_set nd (i := 4) (ve_bin (opv_sub ⟨s.lib, tk, hr, du⟩) (ve_var (i := 0)) (ve_bin (opv_pow ⟨s.lib, tk, hr, du⟩) ve_int ve_int)))
    (vss_cons (vs_set nd (i := 5) (ve_bin (opv_add ⟨s.lib, tk, hr, du⟩) (ve_var (i := 0)) (ve_bin (opv_mul ⟨s.lib, tk, hr, du⟩) ve_int (ve_var (i := 1)))))
    (vss_cons (vs_for po rfl (vi_rng1 rfl s.n_range (ve_blt (cv_len ⟨s.lib, tk, hr, du⟩) rfl s.n_len (by decide +kernel) (vab_cons (vl_var (i := 2)) vab_nil))) (vg_nm nd (i := 6)) (vss_one (vs_if (vt_cmp (opv_ge ⟨s.lib, tk, hr, du⟩) (ve_var (i := 4)) ve_int (nomark _)) (vss_cons (vs_meth (i := 3) mu_append PySem.F.slot_list_append PySem.F.type_list_append (va_cons (ve_bin (opv_mod ⟨s.lib, tk, hr, du⟩) (ve_bltT (cv_int) rfl s.n_int (by decide +kernel) (vab_cons (vl_var (i := 4)) vab_nil)) (ve_ix (vl_var (i := 2)) (ve_var (i := 6)))) va_nil))
    (vss_one (vs_set nd (i := 4) (ve_bin (opv_fdiv ⟨s.lib, tk, hr, du⟩) (ve_var (i := 4)) (ve_ix (vl_var (i := 2)) (ve_var (i := 6))))))) (vss_cons (vs_set nd (i := 5) (ve_bin (opv_mod ⟨s.lib, tk, hr, du⟩) (ve_bltT (cv_int) rfl s.n_int (by decide +kernel) (vab_cons (VE.toL (ve_bin (opv_add ⟨s.lib, tk, hr, du⟩) (ve_bin (opv_add ⟨s.lib, tk, hr, du⟩) (ve_bin (opv_mul ⟨s.lib, tk, hr, du⟩) (ve_var (i := 5)) (ve_var (i := 5))) (ve_bin (opv_mul ⟨s.lib, tk, hr, du⟩) ve_int (ve_bin (opv_add ⟨s.lib, tk, hr, du⟩) (ve_var (i := 6)) ve_int))) ve_int)) vab_nil)) ve_int))
    (vss_cons (vs_set nd (i := 5) (ve_bin (opv_mod ⟨s.lib, tk, hr, du⟩) (ve_bltT (cv_int) rfl s.n_int (by decide +kernel) (vab_cons (VE.toL (ve_bin (opv_add ⟨s.lib, tk, hr, du⟩) (ve_bin (opv_mul ⟨s.lib, tk, hr, du⟩) (ve_var (i := 5)) (ve_var (i := 5))) (ve_bin (opv_fdiv ⟨s.lib, tk, hr, du⟩) (ve_var (i := 5)) ve_int))) vab_nil)) ve_int))
    (vss_one (vs_meth (i := 3) mu_append PySem.F.slot_list_append PySem.F.type_list_append (va_cons (ve_bin (opv_mod ⟨s.lib, tk, hr, du⟩) (ve_bltT (cv_int) rfl s.n_int (by decide +kernel) (vab_cons (VE.toL (ve_bin (opv_fdiv ⟨s.lib, tk, hr, du⟩) (ve_var (i := 5)) ve_int)) vab_nil)) (ve_ix (vl_var (i := 2)) (ve_var (i := 6)))) va_nil))))))))
    (vss_one (vs_retO (i := 3)))))))
theorem d__law_is_int {P : Program} {w : World} {K : PySem.W.Frag} {mg : Str → Option Value} {base : Heap} (s : Sx K mg) {r : Nat}  (du : ∀ c m sp, dnL c m = some sp → c < (tab K).n → DnOk P w K mg base (tab K) r c m m.ms sp) {f : Addr} {cdv : Value} {A : Around} {outer : List Env} {st : Shared} {H : Hp} {E : XK} (hr : Room (r + 2) (A.deeper (envOfC "_law_is_int" (defScope s__law_is_int) st.heap.objs.size f cdv))) :
    VSs (cxOf (L2.CX P w) P w K mg base ["x"] "_law_is_int" (defScope s__law_is_int) f cdv A outer st H E) (tab K) (fun cls d _ H => E cls d H) z0 (defBody s__law_is_int) t__law_is_int := by
  have hr0 := hr.mono (Nat.le_add_right r 2)
  have hr1 := hr.mono (show r + 1 ≤ r + 2 by omega)
  have tk : Takes (cxOf (L2.CX P w) P w K mg base ["x"] "_law_is_int" (defScope s__law_is_int) f cdv A outer st H E) (fun cls d _ H => E cls d H) := takes_of rfl rfl rfl rfl
  have po : PassesOwn (model P w) (Cx.A (cxOf (L2.CX P w) P w K mg base ["x"] "_law_is_int" (defScope s__law_is_int) f cdv A outer st H E)) (Cx.env (cxOf (L2.CX P w) P w K mg base ["x"] "_law_is_int" (defScope s__law_is_int) f cdv A outer st H E)) (Cx.xe (cxOf (L2.CX P w) P w K mg base ["x"] "_law_is_int" (defScope s__law_is_int) f cdv A outer st H E)) := passes_of (X := (cxOf (L2.CX P w) P w K mg base ["x"] "_law_is_int" (defScope s__law_is_int) f cdv A outer st H E)) rfl
  have nd : (["x"] : List Str).Nodup := by decide
  exact (vss_one (vs_ret (ve_and (ve_isT (ty := .int) s.lib rfl s.n_isinstance rfl s.n_int (by decide +kernel) (vl_var (i := 0))) (ve_one (ve_not (ve_isT (ty := .bool) s.lib rfl s.n_isinstance rfl s.n_bool (by decide +kernel) (vl_var (i := 0))))))))
theorem d__law_same {P : Program} {w : World} {K : PySem.W.Frag} {mg : Str → Option Value} {base : Heap} (s : Sx K mg) {r : Nat} {sp : FS} (C_self : FnV P w K mg base (tab K) r (ga K "_law_same") [false, false] [] sp) (C__law_is_int_1 : FnV P w K mg base (tab K) r (ga K "_law_is_int") [false] [] sp__law_is_int) (du : ∀ c m sp, dnL c m = some sp → c < (tab K).n → DnOk P w K mg base (tab K) r c m m.ms sp) {f : Addr} {cdv : Value} {A : Around} {outer : List Env} {st : Shared} {H : Hp} {E : XK} (hr : Room (r + 2) (A.deeper (envOfC "_law_same" (defScope s__law_same) st.heap.objs.size f cdv))) :
    VSs (cxOf (L2.CX P w) P w K mg base ["got", "due", "k"] "_law_same" (defScope s__law_same) f cdv A outer st H E) (tab K) (fun cls d _ H => E cls d H) z0 (defBody s__law_same) (t__law_same sp) := by
  have hr0 := hr.mono (Nat.le_add_right r 2)
  have hr1 := hr.mono (show r + 1 ≤ r + 2 by omega)
  have tk : Takes (cxOf (L2.CX P w) P w K mg base ["got", "due", "k"] "_law_same" (defScope s__law_same) f cdv A outer st H E) (fun cls d _ H => E cls d H) := takes_of rfl rfl rfl rfl
  have po : PassesOwn (model P w) (Cx.A (cxOf (L2.CX P w) P w K mg base ["got", "due", "k"] "_law_same" (defScope s__law_same) f cdv A outer st H E)) (Cx.env (cxOf (L2.CX P w) P w K mg base ["got", "due", "k"] "_law_same" (defScope s__law_same) f cdv A outer st H E)) (Cx.xe (cxOf (L2.CX P w) P w K mg base ["got", "due", "k"] "_law_same" (defScope s__law_same) f cdv A outer st H E)) := passes_of (X := (cxOf (L2.CX P w) P w K mg base ["got", "due", "k"] "_law_same" (defScope s__law_same) f cdv A outer st H E)) rfl
  have nd : (["got", "due", "k"] : List Str).Nodup := by decide
  exact (vss_cons (vs_if (vt_cmpB opb_is (vb_var (i := 1)) (VE.toB ve_non) (nomark _)) (vss_one (vs_ret (ve_cmpB opb_is (vb_var (i := 0)) (VE.toB ve_non) (nomark _)))) vss_nil)
    (vss_cons (vs_if (vt_cmpB opb_is (vb_var (i := 1)) (VE.toB ve_bl) (nomark _)) (vss_one (vs_ret (ve_cmpB opb_is (vb_var (i := 0)) (VE.toB ve_bl) (nomark _)))) vss_nil)
    (vss_cons (vs_if (vt_cmpB opb_is (vb_var (i := 1)) (VE.toB ve_bl) (nomark _)) (vss_one (vs_ret (ve_cmpB opb_is (vb_var (i := 0)) (VE.toB ve_bl) (nomark _)))) vss_nil)
    (vss_cons (vs_if (vt_ofB (VLr.toB (VE.toL (ve_isT (ty := .int) s.lib rfl s.n_isinstance rfl s.n_int (by decide +kernel) (vl_var (i := 1)))))) (vss_one (vs_ret (ve_and (ve_call C__law_is_int_1 hr0 tk rfl s.g__law_is_int (va_cons (ve_var (i := 0)) va_nil)) (ve_one (ve_cmp (opv_eq ⟨s.lib, tk, hr, du⟩) (ve_var (i := 0)) (ve_var (i := 1)) (nomark _)))))) vss_nil)
    (vss_cons (vs_if (vt_ofB (VLr.toB (VE.toL (ve_isT (ty := .str) s.lib rfl s.n_isinstance rfl s.n_str (by decide +kernel) (vl_var (i := 1)))))) (vss_one (vs_ret (ve_and (ve_isT (ty := .str) s.lib rfl s.n_isinstance rfl s.n_str (by decide +kernel) (vl_var (i := 0))) (ve_one (ve_cmp (opv_eq ⟨s.lib, tk, hr, du⟩) (ve_var (i := 0)) (ve_var (i := 1)) (nomark _)))))) vss_nil)
    (vss_cons (vs_if (vt_ofB (VLr.toB (VE.toL (ve_isT (ty := .tuple) s.lib rfl s.n_isinstance rfl s.n_tuple (by decide +kernel) (vl_var (i := 1)))))) (vss_one (vs_if (vt_w (vw_or (vt_not (vt_ofB (VLr.toB (VE.toL (ve_isT (ty := .tuple) s.lib rfl s.n_isinstance rfl s.n_tuple (by decide +kernel) (vl_var (i := 0))))))) (vw_one' (vt_cmp (opv_ne ⟨s.lib, tk, hr, du⟩) (ve_blt (cv_len ⟨s.lib, tk, hr, du⟩) rfl s.n_len (by decide +kernel) (vab_cons (vl_var (i := 0)) vab_nil)) (ve_blt (cv_len ⟨s.lib, tk, hr, du⟩) rfl s.n_len (by decide +kernel) (vab_cons (vl_var (i := 1)) vab_nil)) (nomark _))))) (vss_one (vs_ret ve_bl)) vss_nil)) (vss_one (vs_if (vt_w (vw_or (vt_not (vt_ofB (VLr.toB (VE.toL (ve_isT (ty := .list) s.lib rfl s.n_isinstance rfl s.n_list (by decide +kernel) (vl_var (i := 0))))))) (vw_one' (vt_cmp (opv_ne ⟨s.lib, tk, hr, du⟩) (ve_blt (cv_len ⟨s.lib, tk, hr, du⟩) rfl s.n_len (by decide +kernel) (vab_cons (vl_var (i := 0)) vab_nil)) (ve_blt (cv_len ⟨s.lib, tk, hr, du⟩) rfl s.n_len (by decide +kernel) (vab_cons (vl_var (i := 1)) vab_nil)) (nomark _))))) (vss_one (vs_ret ve_bl)) vss_nil)))
    (vss_cons (vs_for po rfl (vi_rng1 rfl s.n_range (ve_blt (cv_len ⟨s.lib, tk, hr, du⟩) rfl s.n_len (by decide +kernel) (vab_cons (vl_var (i := 1)) vab_nil))) (vg_nm nd (i := 2)) (vss_one (vs_if (vt_not (vt_ofB (VLr.toB (VE.toL (ve_call C_self hr0 tk rfl s.g__law_same (va_cons (ve_ix (vl_var (i := 0)) (ve_var (i := 2))) (va_cons (ve_ix (vl_var (i := 1)) (ve_var (i := 2))) va_nil))))))) (vss_one (vs_ret ve_bl)) vss_nil)))
    (vss_one (vs_ret ve_bl)))))))))
theorem d__law_digits {P : Program} {w : World} {K : PySem.W.Frag} {mg : Str → Option Value} {base : Heap} (s : Sx K mg) {r : Nat} (C__law_draws_3 : FnV P w K mg base (tab K) r (ga K "_law_draws") [false, false, false] [] sp__law_draws) (du : ∀ c m sp, dnL c m = some sp → c < (tab K).n → DnOk P w K mg base (tab K) r c m m.ms sp) {f : Addr} {cdv : Value} {A : Around} {outer : List Env} {st : Shared} {H : Hp} {E : XK} (hr : Room (r + 2) (A.deeper (envOfC "_law_digits" (defScope s__law_digits) st.heap.objs.size f cdv))) :
    VSs (cxOf (L2.CX P w) P w K mg base ["cell", "salt", "number", "piece"] "_law_digits" (defScope s__law_digits) f cdv A outer st H E) (tab K) (fun cls d _ H => E cls d H) z0 (defBody s__law_digits) t__law_digits := by
  have hr0 := hr.mono (Nat.le_add_right r 2)
  have hr1 := hr.mono (show r + 1 ≤ r + 2 by omega)
  have tk : Takes (cxOf (L2.CX P w) P w K mg base ["cell", "salt", "number", "piece"] "_law_digits" (defScope s__law_digits) f cdv A outer st H E) (fun cls d _ H => E cls d H) := takes_of rfl rfl rfl rfl
  have po : PassesOwn (model P w) (Cx.A (cxOf (L2.CX P w) P w K mg base ["cell", "salt", "number", "piece"] "_law_digits" (defScope s__law_digits) f cdv A outer st H E)) (Cx.env (cxOf (L2.CX P w) P w K mg base ["cell", "salt", "number", "piece"] "_law_digits" (defScope s__law_digits) f cdv A outer st H E)) (Cx.xe (cxOf (L2.CX P w) P w K mg base ["cell", "salt", "number", "piece"] "_law_digits" (defScope s__law_digits) f cdv A outer st H E)) := passes_of (X := (cxOf (L2.CX P w) P w K mg base ["cell", "salt", "number", "piece"] "_law_digits" (defScope s__law_digits) f cdv A outer st H E)) rfl
  have nd : (["cell", "salt", "number", "piece"] : List Str).Nodup := by decide
  exact (vss_cons (vs_set nd (i := 2) ve_int)
    (vss_cons (vs_for po rfl (vi_seq (ve_call C__law_draws_3 hr0 tk rfl s.g__law_draws (va_cons (ve_var (i := 0)) (va_cons (ve_var (i := 1)) (va_cons (ve_bin (opv_mul ⟨s.lib, tk, hr, du⟩) (ve_lst (va_cons (ve_bin (opv_pow ⟨s.lib, tk, hr, du⟩) ve_int ve_int) va_nil)) ve_int) va_nil))))) (vg_nm nd (i := 3)) (vss_one (vs_set nd (i := 2) (ve_bin (opv_add ⟨s.lib, tk, hr, du⟩) (ve_bin (opv_mul ⟨s.lib, tk, hr, du⟩) (ve_var (i := 2)) (ve_bin (opv_pow ⟨s.lib, tk, hr, du⟩) ve_int ve_int)) (ve_var (i := 3))))))
    (vss_one (vs_ret (ve_var (i := 2))))))
theorem d__law_zigzag {P : Program} {w : World} {K : PySem.W.Frag} {mg : Str → Option Value} {base : Heap} (s : Sx K mg) {r : Nat}  (du : ∀ c m sp, dnL c m = some sp → c < (tab K).n → DnOk P w K mg base (tab K) r c m m.ms sp) {f : Addr} {cdv : Value} {A : Around} {outer : List Env} {st : Shared} {H : Hp} {E : XK} (hr : Room (r + 2) (A.deeper (envOfC "_law_zigzag" (defScope s__law_zigzag) st.heap.objs.size f cdv))) :
    VSs (cxOf (L2.CX P w) P w K mg base ["number"] "_law_zigzag" (defScope s__law_zigzag) f cdv A outer st H E) (tab K) (fun cls d _ H => E cls d H) z0 (defBody s__law_zigzag) t__law_zigzag := by
  have hr0 := hr.mono (Nat.le_add_right r 2)
  have hr1 := hr.mono (show r + 1 ≤ r + 2 by omega)
  have tk : Takes (cxOf (L2.CX P w) P w K mg base ["number"] "_law_zigzag" (defScope s__law_zigzag) f cdv A outer st H E) (fun cls d _ H => E cls d H) := takes_of rfl rfl rfl rfl
  have po : PassesOwn (model P w) (Cx.A (cxOf (L2.CX P w) P w K mg base ["number"] "_law_zigzag" (defScope s__law_zigzag) f cdv A outer st H E)) (Cx.env (cxOf (L2.CX P w) P w K mg base ["number"] "_law_zigzag" (defScope s__law_zigzag) f cdv A outer st H E)) (Cx.xe (cxOf (L2.CX P w) P w K mg base ["number"] "_law_zigzag" (defScope s__law_zigzag) f cdv A outer st H E)) := passes_of (X := (cxOf (L2.CX P w) P w K mg base ["number"] "_law_zigzag" (defScope s__law_zigzag) f cdv A outer st H E)) rfl
  have nd : (["number"] : List Str).Nodup := by decide
  exact (vss_cons (vs_if (vt_cmp (opv_eq ⟨s.lib, tk, hr, du⟩) (ve_bin (opv_mod ⟨s.lib, tk, hr, du⟩) (ve_bltT (cv_int) rfl s.n_int (by decide +kernel) (vab_cons (vl_var (i := 0)) vab_nil)) ve_int) ve_int (nomark _)) (vss_one (vs_ret (ve_bin (opv_sub ⟨s.lib, tk, hr, du⟩) ve_int (ve_bin (opv_fdiv ⟨s.lib, tk, hr, du⟩) (ve_bin (opv_add ⟨s.lib, tk, hr, du⟩) (ve_var (i := 0)) ve_int) ve_int)))) vss_nil)
    (vss_one (vs_ret (ve_bin (opv_fdiv ⟨s.lib, tk, hr, du⟩) (ve_var (i := 0)) ve_int))))
theorem d__law_bits {P : Program} {w : World} {K : PySem.W.Frag} {mg : Str → Option Value} {base : Heap} (s : Sx K mg) {r : Nat}  (du : ∀ c m sp, dnL c m = some sp → c < (tab K).n → DnOk P w K mg base (tab K) r c m m.ms sp) {f : Addr} {cdv : Value} {A : Around} {outer : List Env} {st : Shared} {H : Hp} {E : XK} (hr : Room (r + 2) (A.deeper (envOfC "_law_bits" (defScope s__law_bits) st.heap.objs.size f cdv))) :
    VSs (cxOf (L2.CX P w) P w K mg base ["n", "number", "found", "h"] "_law_bits" (defScope s__law_bits) f cdv A outer st H E) (tab K) (fun cls d _ H => E cls d H) z0 (defBody s__law_bits) t__law_bits := by
  have hr0 := hr.mono (Nat.le_add_right r 2)
  have hr1 := hr.mono (show r + 1 ≤ r + 2 by omega)
  have tk : Takes (cxOf (L2.CX P w) P w K mg base ["n", "number", "found", "h"] "_law_bits" (defScope s__law_bits) f cdv A outer st H E) (fun cls d _ H => E cls d H) := takes_of rfl rfl rfl rfl
  have po : PassesOwn (model P w) (Cx.A (cxOf (L2.CX P w) P w K mg base ["n", "number", "found", "h"] "_law_bits" (defScope s__law_bits) f cdv A outer st H E)) (Cx.env (cxOf (L2.CX P w) P w K mg base ["n", "number", "found", "h"] "_law_bits" (defScope s__law_bits) f cdv A outer st H E)) (Cx.xe (cxOf (L2.CX P w) P w K mg base ["n", "number", "found", "h"] "_law_bits" (defScope s__law_bits) f cdv A outer st H E)) := passes_of (X := (cxOf (L2.CX P w) P w K mg base ["n", "number", "found", "h"] "_law_bits" (defScope s__law_bits) f cdv A outer st H E)) rfl
  have nd : (["n", "number", "found", "h"] : List Str).Nodup := by decide
  exact (vss_cons (vs_own nd (i := 2) (ve_lst va_nil))
    (vss_cons (vs_for po rfl (vi_rng1 rfl s.n_range (ve_var (i := 0))) (vg_nm nd (i := 3)) (vss_cons (vs_if (vt_cmp (opv_eq ⟨s.lib, tk, hr, du⟩) (ve_bin (opv_mod ⟨s.lib, tk, hr, du⟩) (ve_bltT (cv_int) rfl s.n_int (by decide +kernel) (vab_cons (vl_var (i := 1)) vab_nil)) ve_int) ve_int (nomark _)) (vss_one (vs_meth (i := 2) mu_append PySem.F.slot_list_append PySem.F.type_list_append (va_cons (ve_var (i := 3)) va_nil))) vss_nil)
    (vss_one (vs_set nd (i := 1) (ve_bin (opv_fdiv ⟨s.lib, tk, hr, du⟩) (ve_var (i := 1)) ve_int)))))
    (vss_one (vs_retO (i := 2)))))
theorem d__law_subset {P : Program} {w : World} {K : PySem.W.Frag} {mg : Str → Option Value} {base : Heap} (s : Sx K mg) {r : Nat} (C__law_draws_3 : FnV P w K mg base (tab K) r (ga K "_law_draws") [false, false, false] [] sp__law_draws) (C__law_bits_2 : FnV P w K mg base (tab K) r (ga K "_law_bits") [false, false] [] sp__law_bits) (du : ∀ c m sp, dnL c m = some sp → c < (tab K).n → DnOk P w K mg base (tab K) r c m m.ms sp) {f : Addr} {cdv : Value} {A : Around} {outer : List Env} {st : Shared} {H : Hp} {E : XK} (hr : Room (r + 2) (A.deeper (envOfC "_law_subset" (defScope s__law_subset) st.heap.objs.size f cdv))) :
    VSs (cxOf (L2.CX P w) P w K mg base ["cell", "salt", "n", "found", "pieces", "k", "h"] "_law_subset" (defScope s__law_subset) f cdv A outer st H E) (tab K) (fun cls d _ H => E cls d H) z0 (defBody s__law_subset) t__law_subset := by
  have hr0 := hr.mono (Nat.le_add_right r 2)
  have hr1 := hr.mono (show r + 1 ≤ r + 2 by omega)
  have tk : Takes (cxOf (L2.CX P w) P w K mg base ["cell", "salt", "n", "found", "pieces", "k", "h"] "_law_subset" (defScope s__law_subset) f cdv A outer st H E) (fun cls d _ H => E cls d H) := takes_of rfl rfl rfl rfl
  have po : PassesOwn (model P w) (Cx.A (cxOf (L2.CX P w) P w K mg base ["cell", "salt", "n", "found", "pieces", "k", "h"] "_law_subset" (defScope s__law_subset) f cdv A outer st H E)) (Cx.env (cxOf (L2.CX P w) P w K mg base ["cell", "salt", "n", "found", "pieces", "k", "h"] "_law_subset" (defScope s__law_subset) f cdv A outer st H E)) (Cx.xe (cxOf (L2.CX P w) P w K mg base ["cell", "salt", "n", "found", "pieces", "k", "h"] "_law_subset" (defScope s__law_subset) f cdv A outer st H E)) := passes_of (X := (cxOf (L2.CX P w) P w K mg base ["cell", "salt", "n", "found", "pieces", "k", "h"] "_law_subset" (defScope s__law_subset) f cdv A outer st H E)) rfl
  have nd : (["cell", "salt", "n", "found", "pieces", "k", "h"] : List Str).Nodup := by decide
  exact (vss_cons (vs_set nd (i := 3) (ve_lst va_nil))
    (vss_cons (vs_set nd (i := 4) (ve_call C__law_draws_3 hr0 tk rfl s.g__law_draws (va_cons (ve_var (i := 0)) (va_cons (ve_var (i := 1)) (va_cons (ve_bin (opv_mul ⟨s.lib, tk, hr, du⟩) (ve_lst (va_cons (ve_bin (opv_pow ⟨s.lib, tk, hr, du⟩) ve_int ve_int) va_nil)) (ve_bin (opv_add ⟨s.lib, tk, hr, du⟩) ve_int (ve_bin (opv_fdiv ⟨s.lib, tk, hr, du⟩) (ve_bin (opv_sub ⟨s.lib, tk, hr, du⟩) (ve_var (i := 2)) ve_int) ve_int))) va_nil)))))
    (vss_cons (vs_for po rfl (vi_rng1 rfl s.n_range (ve_blt (cv_len ⟨s.lib, tk, hr, du⟩) rfl s.n_len (by decide +kernel) (vab_cons (vl_var (i := 4)) vab_nil))) (vg_nm nd (i := 5)) (vss_one (vs_set nd (i := 3) (ve_bin (opv_add ⟨s.lib, tk, hr, du⟩) (ve_var (i := 3)) (ve_lc (own := [("h", 6)]) rfl nd (vi_seq (ve_call C__law_bits_2 hr0 tk rfl s.g__law_bits (va_cons ve_int (va_cons (ve_ix (vl_var (i := 4)) (ve_var (i := 5))) va_nil)))) (blkOk_by (by kernel_rfl)) (fun _ _ _ _ _ => (vgw_nm nd (i := 6))) (fun _ _ _ _ _ => (vts_one (vt_cmp (opv_lt ⟨s.lib, takes_no, hr, du⟩) (ve_bin (opv_add ⟨s.lib, takes_no, hr, du⟩) (ve_bin (opv_mul ⟨s.lib, takes_no, hr, du⟩) ve_int (ve_var (i := 5))) (ve_var (i := 6))) (ve_var (i := 2)) (nomark _)))) (fun _ _ _ _ _ => (ve_bin (opv_add ⟨s.lib, takes_no, hr, du⟩) (ve_bin (opv_mul ⟨s.lib, takes_no, hr, du⟩) ve_int (ve_var (i := 5))) (ve_var (i := 6)))))))))
    (vss_one (vs_ret (ve_var (i := 3)))))))
theorem d__law_hours {P : Program} {w : World} {K : PySem.W.Frag} {mg : Str → Option Value} {base : Heap} (s : Sx K mg) {r : Nat} (C__law_cell_2 : FnV P w K mg base (tab K) r (ga K "_law_cell") [false, false] [] sp__law_cell) (C__law_draws_3 : FnV P w K mg base (tab K) r (ga K "_law_draws") [false, false, false] [] sp__law_draws) (C__law_digits_2 : FnV P w K mg base (tab K) r (ga K "_law_digits") [false, false] [] sp__law_digits) (du : ∀ c m sp, dnL c m = some sp → c < (tab K).n → DnOk P w K mg base (tab K) r c m m.ms sp) {f : Addr} {cdv : Value} {A : Around} {outer : List Env} {st : Shared} {H : Hp} {E : XK} (hr : Room (r + 2) (A.deeper (envOfC "_law_hours" (defScope s__law_hours) st.heap.objs.size f cdv))) :
    VSs (cxOf (L2.CX P w) P w K mg base ["script", "ways", "far"] "_law_hours" (defScope s__law_hours) f cdv A outer st H E) (tab K) (fun cls d _ H => E cls d H) z0 (defBody s__law_hours) t__law_hours := by
  have hr0 := hr.mono (Nat.le_add_right r 2)
  have hr1 := hr.mono (show r + 1 ≤ r + 2 by omega)
  have tk : Takes (cxOf (L2.CX P w) P w K mg base ["script", "ways", "far"] "_law_hours" (defScope s__law_hours) f cdv A outer st H E) (fun cls d _ H => E cls d H) := takes_of rfl rfl rfl rfl
  have po : PassesOwn (model P w) (Cx.A (cxOf (L2.CX P w) P w K mg base ["script", "ways", "far"] "_law_hours" (defScope s__law_hours) f cdv A outer st H E)) (Cx.env (cxOf (L2.CX P w) P w K mg base ["script", "ways", "far"] "_law_hours" (defScope s__law_hours) f cdv A outer st H E)) (Cx.xe (cxOf (L2.CX P w) P w K mg base ["script", "ways", "far"] "_law_hours" (defScope s__law_hours) f cdv A outer st H E)) := passes_of (X := (cxOf (L2.CX P w) P w K mg base ["script", "ways", "far"] "_law_hours" (defScope s__law_hours) f cdv A outer st H E)) rfl
  have nd : (["script", "ways", "far"] : List Str).Nodup := by decide
  exact (vss_cons (vs_set nd (i := 1) (ve_call C__law_draws_3 hr0 tk rfl s.g__law_draws (va_cons (ve_call C__law_cell_2 hr0 tk rfl s.g__law_cell (va_cons (ve_var (i := 0)) (va_cons ve_int va_nil))) (va_cons ve_int (va_cons (ve_lst (va_cons ve_int (va_cons ve_int (va_cons ve_int (va_cons ve_int va_nil))))) va_nil)))))
    (vss_cons (vs_set nd (i := 2) (ve_bin (opv_mod ⟨s.lib, tk, hr, du⟩) (ve_bltT (cv_int) rfl s.n_int (by decide +kernel) (vab_cons (VE.toL (ve_call C__law_digits_2 hr0 tk rfl s.g__law_digits (va_cons (ve_call C__law_cell_2 hr0 tk rfl s.g__law_cell (va_cons (ve_var (i := 0)) (va_cons ve_int va_nil))) (va_cons ve_int va_nil)))) vab_nil)) (ve_bin (opv_pow ⟨s.lib, tk, hr, du⟩) ve_int ve_int)))
    (vss_cons (vs_if (vt_cmp (opv_eq ⟨s.lib, tk, hr, du⟩) (ve_ix (vl_var (i := 1)) ve_int) ve_int (nomark _)) (vss_one (vs_ret (ve_ix (VE.toL (ve_lst (va_cons ve_int (va_cons (ve_bin (opv_sub ⟨s.lib, tk, hr, du⟩) (ve_bin (opv_sub ⟨s.lib, tk, hr, du⟩) ve_int ve_int) (ve_var (i := 2))) (va_cons ve_int (va_cons (ve_bin (opv_add ⟨s.lib, tk, hr, du⟩) ve_int (ve_var (i := 2))) va_nil)))))) (ve_ix (vl_var (i := 1)) ve_int)))) vss_nil)
    (vss_cons (vs_if (vt_w (vw_or (vt_cmp (opv_eq ⟨s.lib, tk, hr, du⟩) (ve_ix (vl_var (i := 1)) ve_int) ve_int (nomark _)) (vw_one' (vt_cmp (opv_eq ⟨s.lib, tk, hr, du⟩) (ve_ix (vl_var (i := 1)) ve_int) ve_int (nomark _))))) (vss_one (vs_ret (ve_bin (opv_add ⟨s.lib, tk, hr, du⟩) ve_int (ve_ix (vl_var (i := 1)) ve_int)))) vss_nil)
    (vss_one (vs_ret (ve_bin (opv_add ⟨s.lib, tk, hr, du⟩) ve_int (ve_ix (vl_var (i := 1)) ve_int))))))))
theorem d__law_values {P : Program} {w : World} {K : PySem.W.Frag} {mg : Str → Option Value} {base : Heap} (s : Sx K mg) {r : Nat} (C__law_cell_2 : FnV P w K mg base (tab K) r (ga K "_law_cell") [false, false] [] sp__law_cell) (C__law_draws_3 : FnV P w K mg base (tab K) r (ga K "_law_draws") [false, false, false] [] sp__law_draws) (C__law_subset_3 : FnV P w K mg base (tab K) r (ga K "_law_subset") [false, false, false] [] sp__law_subset) (C__law_zigzag_1 : FnV P w K mg base (tab K) r (ga K "_law_zigzag") [false] [] sp__law_zigzag) (du : ∀ c m sp, dnL c m = some sp → c < (tab K).n → DnOk P w K mg base (tab K) r c m m.ms sp) {f : Addr} {cdv : Value} {A : Around} {outer : List Env} {st : Shared} {H : Hp} {E : XK} (hr : Room (r + 2) (A.deeper (envOfC "_law_values" (defScope s__law_values) st.heap.objs.size f cdv))) :
    VSs (cxOf (L2.CX P w) P w K mg base ["script", "n", "ways", "hours", "drawn", "values", "kept", "seen", "value", "at", "again", "number", "h"] "_law_values" (defScope s__law_values) f cdv A outer st H E) (tab K) (fun cls d _ H => E cls d H) z0 (defBody s__law_values) t__law_values := by
  have hr0 := hr.mono (Nat.le_add_right r 2)
  have hr1 := hr.mono (show r + 1 ≤ r + 2 by omega)
  have tk : Takes (cxOf (L2.CX P w) P w K mg base ["script", "n", "ways", "hours", "drawn", "values", "kept", "seen", "value", "at", "again", "number", "h"] "_law_values" (defScope s__law_values) f cdv A outer st H E) (fun cls d _ H => E cls d H) := takes_of rfl rfl rfl rfl
  have po : PassesOwn (model P w) (Cx.A (cxOf (L2.CX P w) P w K mg base ["script", "n", "ways", "hours", "drawn", "values", "kept", "seen", "value", "at", "again", "number", "h"] "_law_values" (defScope s__law_values) f cdv A outer st H E)) (Cx.env (cxOf (L2.CX P w) P w K mg base ["script", "n", "ways", "hours", "drawn", "values", "kept", "seen", "value", "at", "again", "number", "h"] "_law_values" (defScope s__law_values) f cdv A outer st H E)) (Cx.xe (cxOf (L2.CX P w) P w K mg base ["script", "n", "ways", "hours", "drawn", "values", "kept", "seen", "value", "at", "again", "number", "h"] "_law_values" (defScope s__law_values) f cdv A outer st H E)) := passes_of (X := (cxOf (L2.CX P w) P w K mg base ["script", "n", "ways", "hours", "drawn", "values", "kept", "seen", "value", "at", "again", "number", "h"] "_law_values" (defScope s__law_values) f cdv A outer st H E)) rfl
  have nd : (["script", "n", "ways", "hours", "drawn", "values", "kept", "seen", "value", "at", "again", "number", "h"] : List Str).Nodup := by decide
  exact (vss_cons (vs_set nd (i := 2) (ve_call C__law_draws_3 hr0 tk rfl s.g__law_draws (va_cons (ve_call C__law_cell_2 hr0 tk rfl s.g__law_cell (va_cons (ve_var (i := 0)) (va_cons ve_int va_nil))) (va_cons ve_int (va_cons (ve_lst (va_cons ve_int (va_cons ve_int (va_cons ve_int (va_cons (ve_bin (opv_pow ⟨s.lib, tk, hr, du⟩) ve_int ve_int) va_nil))))) va_nil)))))
    (vss_cons (vs_if (vt_cmp (opv_eq ⟨s.lib, tk, hr, du⟩) (ve_ix (vl_var (i := 2)) ve_int) ve_int (nomark _)) (vss_cons (vs_set nd (i := 3) (ve_call C__law_subset_3 hr0 tk rfl s.g__law_subset (va_cons (ve_call C__law_cell_2 hr0 tk rfl s.g__law_cell (va_cons (ve_var (i := 0)) (va_cons ve_int va_nil))) (va_cons ve_int (va_cons (ve_var (i := 1)) va_nil)))))
    (vss_one (vs_ret (ve_lc (own := [("h", 12)]) rfl nd (vi_seq (ve_revL (p3 := ⟨0, 0, 0, 0⟩) (vl_var (i := 3)))) (blkOk_by (by kernel_rfl)) (fun _ _ _ _ _ => (vgw_nm nd (i := 12))) (fun _ _ _ _ _ => vts_nil) (fun _ _ _ _ _ => (ve_bin (opv_add ⟨s.lib, takes_no, hr, du⟩) (ve_var (i := 12)) (ve_bin (opv_mul ⟨s.lib, takes_no, hr, du⟩) (ve_var (i := 1)) (ve_bin (opv_sub ⟨s.lib, takes_no, hr, du⟩) (ve_bin (opv_mul ⟨s.lib, takes_no, hr, du⟩) (ve_var (i := 12)) (ve_var (i := 12))) ve_int)))))))) vss_nil)
    (vss_cons (vs_set nd (i := 4) (ve_call C__law_draws_3 hr0 tk rfl s.g__law_draws (va_cons (ve_call C__law_cell_2 hr0 tk rfl s.g__law_cell (va_cons (ve_var (i := 0)) (va_cons ve_int va_nil))) (va_cons ve_int (va_cons (ve_bin (opv_add ⟨s.lib, tk, hr, du⟩) (ve_lst (va_cons ve_int va_nil)) (ve_bin (opv_mul ⟨s.lib, tk, hr, du⟩) (ve_lst (va_cons (ve_bin (opv_mul ⟨s.lib, tk, hr, du⟩) ve_int (ve_bin (opv_pow ⟨s.lib, tk, hr, du⟩) ve_int ve_int)) va_nil)) ve_int)) va_nil)))))
    (vss_cons (by first | exact vs_setLc (i := 5) (own := [("number", 11)]) rfl nd (vi_seq (ve_sl (vl_var (i := 4)) (vo_some ve_int) (vo_some (ve_bin (opv_add ⟨s.lib, tk, hr, du⟩) ve_int (ve_blt (cv_max2 rfl) rfl s.n_max (by decide +kernel) (vab_cons (VE.toL ve_int) (vab_cons (VE.toL (ve_bin (opv_sub ⟨s.lib, tk, hr, du⟩) (ve_ix (vl_var (i := 4)) ve_int) ve_int)) vab_nil))))))) (blkOk_by (by kernel_rfl)) (fun _ _ _ _ _ => (vgw_nm nd (i := 11))) (fun _ _ _ _ _ => vts_nil) (fun _ _ _ _ _ => (ve_call C__law_zigzag_1 hr0 takes_no rfl s.g__law_zigzag (va_cons (ve_var (i := 11)) va_nil))) (sw_true rfl rfl rfl (by decide +kernel)) | exact vs_set nd (i := 5) (ve_lc (own := [("number", 11)]) rfl nd (vi_seq (ve_sl (vl_var (i := 4)) (vo_some ve_int) (vo_some (ve_bin (opv_add ⟨s.lib, tk, hr, du⟩) ve_int (ve_blt (cv_max2 rfl) rfl s.n_max (by decide +kernel) (vab_cons (VE.toL ve_int) (vab_cons (VE.toL (ve_bin (opv_sub ⟨s.lib, tk, hr, du⟩) (ve_ix (vl_var (i := 4)) ve_int) ve_int)) vab_nil))))))) (blkOk_by (by kernel_rfl)) (fun _ _ _ _ _ => (vgw_nm nd (i := 11))) (fun _ _ _ _ _ => vts_nil) (fun _ _ _ _ _ => (ve_call C__law_zigzag_1 hr0 takes_no rfl s.g__law_zigzag (va_cons (ve_var (i := 11)) va_nil)))))
    (vss_cons (vs_if (vt_cmp (opv_eq ⟨s.lib, tk, hr, du⟩) (ve_ix (vl_var (i := 2)) ve_int) ve_int (nomark _)) (vss_one (vs_ret (ve_var (i := 5)))) vss_nil)
    (vss_cons (vs_own nd (i := 6) (ve_lst va_nil))
    (vss_cons (vs_own nd (i := 7) (ve_lst va_nil))
    (vss_cons (vs_for po rfl (vi_seq (ve_var (i := 5))) (vg_nm nd (i := 8)) (vss_one (vs_if (vt_cmpB opb_notInF (VE.toB (ve_bin (opv_mod ⟨s.lib, tk, hr, du⟩) (ve_bltT (cv_int) rfl s.n_int (by decide +kernel) (vab_cons (vl_var (i := 8)) vab_nil)) (ve_var (i := 1)))) (vb_var (i := 7)) (by with_unfolding_all rfl)) (vss_cons (vs_meth (i := 6) mu_append PySem.F.slot_list_append PySem.F.type_list_append (va_cons (ve_var (i := 8)) va_nil))
    (vss_one (vs_meth (i := 7) mu_append PySem.F.slot_list_append PySem.F.type_list_append (va_cons (ve_bin (opv_mod ⟨s.lib, tk, hr, du⟩) (ve_bltT (cv_int) rfl s.n_int (by decide +kernel) (vab_cons (vl_var (i := 8)) vab_nil)) (ve_var (i := 1))) va_nil)))) vss_nil)))
    (vss_cons (vs_if (vt_w (vw_and (vt_cmp (opv_eq ⟨s.lib, tk, hr, du⟩) (ve_ix (vl_var (i := 2)) ve_int) ve_int (nomark _)) (vw_one (vt_cmp (opv_gt ⟨s.lib, tk, hr, du⟩) (ve_blt (cv_len ⟨s.lib, tk, hr, du⟩) rfl s.n_len (by decide +kernel) (vab_cons (vl_var (i := 6)) vab_nil)) ve_int (nomark _))))) (vss_cons (vs_set nd (i := 9) (ve_bin (opv_mod ⟨s.lib, tk, hr, du⟩) (ve_bltT (cv_int) rfl s.n_int (by decide +kernel) (vab_cons (VE.toL (ve_ix (vl_var (i := 2)) ve_int)) vab_nil)) (ve_blt (cv_len ⟨s.lib, tk, hr, du⟩) rfl s.n_len (by decide +kernel) (vab_cons (vl_var (i := 6)) vab_nil))))
    (vss_cons (vs_set nd (i := 10) (ve_bin (opv_add ⟨s.lib, tk, hr, du⟩) (ve_ix (vl_var (i := 6)) (ve_var (i := 9))) (ve_bin (opv_mul ⟨s.lib, tk, hr, du⟩) (ve_var (i := 1)) (ve_call C__law_zigzag_1 hr0 tk rfl s.g__law_zigzag (va_cons (ve_ix (vl_var (i := 2)) ve_int) va_nil)))))
    (vss_one (vs_meth (i := 6) mu_insert PySem.F.slot_list_insert PySem.F.type_list_insert (va_cons (ve_bin (opv_add ⟨s.lib, tk, hr, du⟩) (ve_bin (opv_add ⟨s.lib, tk, hr, du⟩) (ve_var (i := 9)) ve_int) (ve_bin (opv_mod ⟨s.lib, tk, hr, du⟩) (ve_bltT (cv_int) rfl s.n_int (by decide +kernel) (vab_cons (VE.toL (ve_ix (vl_var (i := 2)) ve_int)) vab_nil)) (ve_bin (opv_sub ⟨s.lib, tk, hr, du⟩) (ve_blt (cv_len ⟨s.lib, tk, hr, du⟩) rfl s.n_len (by decide +kernel) (vab_cons (vl_var (i := 6)) vab_nil)) (ve_var (i := 9))))) (va_cons (ve_var (i := 10)) va_nil)))))) vss_nil)
    (vss_one (vs_retO (i := 6))))))))))))
theorem d__law_first_repeated {P : Program} {w : World} {K : PySem.W.Frag} {mg : Str → Option Value} {base : Heap} (s : Sx K mg) {r : Nat}  (du : ∀ c m sp, dnL c m = some sp → c < (tab K).n → DnOk P w K mg base (tab K) r c m m.ms sp) {f : Addr} {cdv : Value} {A : Around} {outer : List Env} {st : Shared} {H : Hp} {E : XK} (hr : Room (r + 2) (A.deeper (envOfC "_law_first_repeated" (defScope s__law_first_repeated) st.heap.objs.size f cdv))) :
    VSs (cxOf (L2.CX P w) P w K mg base ["residues", "k"] "_law_first_repeated" (defScope s__law_first_repeated) f cdv A outer st H E) (tab K) (fun cls d _ H => E cls d H) z0 (defBody s__law_first_repeated) t__law_first_repeated := by
  have hr0 := hr.mono (Nat.le_add_right r 2)
  have hr1 := hr.mono (show r + 1 ≤ r + 2 by omega)
  have tk : Takes (cxOf (L2.CX P w) P w K mg base ["residues", "k"] "_law_first_repeated" (defScope s__law_first_repeated) f cdv A outer st H E) (fun cls d _ H => E cls d H) := takes_of rfl rfl rfl rfl
  have po : PassesOwn (model P w) (Cx.A (cxOf (L2.CX P w) P w K mg base ["residues", "k"] "_law_first_repeated" (defScope s__law_first_repeated) f cdv A outer st H E)) (Cx.env (cxOf (L2.CX P w) P w K mg base ["residues", "k"] "_law_first_repeated" (defScope s__law_first_repeated) f cdv A outer st H E)) (Cx.xe (cxOf (L2.CX P w) P w K mg base ["residues", "k"] "_law_first_repeated" (defScope s__law_first_repeated) f cdv A outer st H E)) := passes_of (X := (cxOf (L2.CX P w) P w K mg base ["residues", "k"] "_law_first_repeated" (defScope s__law_first_repeated) f cdv A outer st H E)) rfl
  have nd : (["residues", "k"] : List Str).Nodup := by decide
  exact (vss_cons (vs_for po rfl (vi_rng1 rfl s.n_range (ve_blt (cv_len ⟨s.lib, tk, hr, du⟩) rfl s.n_len (by decide +kernel) (vab_cons (vl_var (i := 0)) vab_nil))) (vg_nm nd (i := 1)) (vss_one (vs_if (vt_cmp (opv_in ⟨s.lib, tk, hr, du⟩) (ve_ix (vl_var (i := 0)) (ve_var (i := 1))) (ve_sl (vl_var (i := 0)) vo_none (vo_some (ve_var (i := 1)))) (by with_unfolding_all rfl)) (vss_one (vs_ret (ve_ix (vl_var (i := 0)) (ve_var (i := 1))))) vss_nil)))
    (vss_one (vs_ret (ve_bin (opv_sub ⟨s.lib, tk, hr, du⟩) ve_int ve_int))))
theorem d__law_told_lot {P : Program} {w : World} {K : PySem.W.Frag} {mg : Str → Option Value} {base : Heap} (s : Sx K mg) {r : Nat} (M_Lot_2 : MkV P w K mg base (tab K) r 0 [false, true] [] sp_Lot___init__) (du : ∀ c m sp, dnL c m = some sp → c < (tab K).n → DnOk P w K mg base (tab K) r c m m.ms sp) {f : Addr} {cdv : Value} {A : Around} {outer : List Env} {st : Shared} {H : Hp} {E : XK} (hr : Room (r + 2) (A.deeper (envOfC "_law_told_lot" (defScope s__law_told_lot) st.heap.objs.size f cdv))) :
    VSs (cxOf (L2.CX P w) P w K mg base ["hours", "values", "told", "e"] "_law_told_lot" (defScope s__law_told_lot) f cdv A outer st H E) (tab K) (fun cls d _ H => E cls d H) z0 (defBody s__law_told_lot) t__law_told_lot := by
  have hr0 := hr.mono (Nat.le_add_right r 2)
  have hr1 := hr.mono (show r + 1 ≤ r + 2 by omega)
  have tk : Takes (cxOf (L2.CX P w) P w K mg base ["hours", "values", "told", "e"] "_law_told_lot" (defScope s__law_told_lot) f cdv A outer st H E) (fun cls d _ H => E cls d H) := takes_of rfl rfl rfl rfl
  have po : PassesOwn (model P w) (Cx.A (cxOf (L2.CX P w) P w K mg base ["hours", "values", "told", "e"] "_law_told_lot" (defScope s__law_told_lot) f cdv A outer st H E)) (Cx.env (cxOf (L2.CX P w) P w K mg base ["hours", "values", "told", "e"] "_law_told_lot" (defScope s__law_told_lot) f cdv A outer st H E)) (Cx.xe (cxOf (L2.CX P w) P w K mg base ["hours", "values", "told", "e"] "_law_told_lot" (defScope s__law_told_lot) f cdv A outer st H E)) := passes_of (X := (cxOf (L2.CX P w) P w K mg base ["hours", "values", "told", "e"] "_law_told_lot" (defScope s__law_told_lot) f cdv A outer st H E)) rfl
  have nd : (["hours", "values", "told", "e"] : List Str).Nodup := by decide
  exact (vss_cons (vs_set nd (i := 2) ve_non)
    (vss_cons (vs_tryN rfl rfl nd tk (fun W pn xe tk po => (vss_one (vs_set nd (i := 2) (ve_make M_Lot_2 hr1 tk rfl s.g_Lot (va_cons (ve_var (i := 0)) (va_consB (vb_var (i := 1)) va_nil)))))) (.named (i := 3) ⟨rfl, by decide, .inl s.g_BadNumber⟩ s.e_BadNumber (fun a oe cls d pn hz hf => (vss_one (vs_set nd (i := 2) (ve_tup (va_cons ve_str (va_cons (ve_xf (i := 3) hz hf s.xf_name) (va_cons (ve_xf (i := 3) hz hf s.xf_value) va_nil))))))) (.named (i := 3) ⟨rfl, by decide, .inl s.g_RepeatedHour⟩ s.e_RepeatedHour (fun a oe cls d pn hz hf => (vss_one (vs_set nd (i := 2) (ve_tup (va_cons ve_str (va_cons (ve_xf (i := 3) hz hf s.xf_hour) va_nil)))))) .nil)))
    (vss_one (vs_ret (ve_var (i := 2))))))
theorem d__law_told_full {P : Program} {w : World} {K : PySem.W.Frag} {mg : Str → Option Value} {base : Heap} (s : Sx K mg) {r : Nat} (K_Lot_full_1 : FnV P w K mg base (tab K) r (cga K ((tab K).cls 0) "full") [false, false] [] sp_Lot_full) (du : ∀ c m sp, dnL c m = some sp → c < (tab K).n → DnOk P w K mg base (tab K) r c m m.ms sp) {f : Addr} {cdv : Value} {A : Around} {outer : List Env} {st : Shared} {H : Hp} {E : XK} (hr : Room (r + 2) (A.deeper (envOfC "_law_told_full" (defScope s__law_told_full) st.heap.objs.size f cdv))) :
    VSs (cxOf (L2.CX P w) P w K mg base ["hours", "told", "e"] "_law_told_full" (defScope s__law_told_full) f cdv A outer st H E) (tab K) (fun cls d _ H => E cls d H) z0 (defBody s__law_told_full) t__law_told_full := by
  have hr0 := hr.mono (Nat.le_add_right r 2)
  have hr1 := hr.mono (show r + 1 ≤ r + 2 by omega)
  have tk : Takes (cxOf (L2.CX P w) P w K mg base ["hours", "told", "e"] "_law_told_full" (defScope s__law_told_full) f cdv A outer st H E) (fun cls d _ H => E cls d H) := takes_of rfl rfl rfl rfl
  have po : PassesOwn (model P w) (Cx.A (cxOf (L2.CX P w) P w K mg base ["hours", "told", "e"] "_law_told_full" (defScope s__law_told_full) f cdv A outer st H E)) (Cx.env (cxOf (L2.CX P w) P w K mg base ["hours", "told", "e"] "_law_told_full" (defScope s__law_told_full) f cdv A outer st H E)) (Cx.xe (cxOf (L2.CX P w) P w K mg base ["hours", "told", "e"] "_law_told_full" (defScope s__law_told_full) f cdv A outer st H E)) := passes_of (X := (cxOf (L2.CX P w) P w K mg base ["hours", "told", "e"] "_law_told_full" (defScope s__law_told_full) f cdv A outer st H E)) rfl
  have nd : (["hours", "told", "e"] : List Str).Nodup := by decide
  exact (vss_cons (vs_set nd (i := 1) ve_non)
    (vss_cons (vs_tryAs (i := 2) rfl rfl nd ⟨rfl, by decide, .inl s.g_BadNumber⟩ tk s.e_BadNumber (fun W pn xe tk po => (vss_one (vs_set nd (i := 1) (ve_cmeth (ve_gcls (c := 0) rfl s.g_Lot) s.cm_Lot_full K_Lot_full_1 hr0 tk (va_cons (ve_var (i := 0)) va_nil))))) (fun a oe cls d pn hz hf => (vss_one (vs_set nd (i := 1) (ve_tup (va_cons ve_str (va_cons (ve_xf (i := 2) hz hf s.xf_name) (va_cons (ve_xf (i := 2) hz hf s.xf_value) va_nil))))))))
    (vss_one (vs_ret (ve_var (i := 1))))))
theorem d__law_kinds {P : Program} {w : World} {K : PySem.W.Frag} {mg : Str → Option Value} {base : Heap} (s : Sx K mg) {r : Nat} (M_Lot_2 : MkV P w K mg base (tab K) r 0 [false, true] [] sp_Lot___init__) (du : ∀ c m sp, dnL c m = some sp → c < (tab K).n → DnOk P w K mg base (tab K) r c m m.ms sp) {f : Addr} {cdv : Value} {A : Around} {outer : List Env} {st : Shared} {H : Hp} {E : XK} (hr : Room (r + 2) (A.deeper (envOfC "_law_kinds" (defScope s__law_kinds) st.heap.objs.size f cdv))) :
    VSs (cxOf (L2.CX P w) P w K mg base ["hours", "values", "kinds", "e"] "_law_kinds" (defScope s__law_kinds) f cdv A outer st H E) (tab K) (fun cls d _ H => E cls d H) z0 (defBody s__law_kinds) t__law_kinds := by
  have hr0 := hr.mono (Nat.le_add_right r 2)
  have hr1 := hr.mono (show r + 1 ≤ r + 2 by omega)
  have tk : Takes (cxOf (L2.CX P w) P w K mg base ["hours", "values", "kinds", "e"] "_law_kinds" (defScope s__law_kinds) f cdv A outer st H E) (fun cls d _ H => E cls d H) := takes_of rfl rfl rfl rfl
  have po : PassesOwn (model P w) (Cx.A (cxOf (L2.CX P w) P w K mg base ["hours", "values", "kinds", "e"] "_law_kinds" (defScope s__law_kinds) f cdv A outer st H E)) (Cx.env (cxOf (L2.CX P w) P w K mg base ["hours", "values", "kinds", "e"] "_law_kinds" (defScope s__law_kinds) f cdv A outer st H E)) (Cx.xe (cxOf (L2.CX P w) P w K mg base ["hours", "values", "kinds", "e"] "_law_kinds" (defScope s__law_kinds) f cdv A outer st H E)) := passes_of (X := (cxOf (L2.CX P w) P w K mg base ["hours", "values", "kinds", "e"] "_law_kinds" (defScope s__law_kinds) f cdv A outer st H E)) rfl
  have nd : (["hours", "values", "kinds", "e"] : List Str).Nodup := by decide
  exact (vss_cons (vs_set nd (i := 2) (ve_lst va_nil))
    (vss_cons (vs_tryAs (i := 3) rfl rfl nd ⟨rfl, by decide, .inl s.g_WatchError⟩ tk s.e_WatchError (fun W pn xe tk po => (vss_one (vs_expr (ve_make M_Lot_2 hr1 tk rfl s.g_Lot (va_cons (ve_var (i := 0)) (va_consB (vb_var (i := 1)) va_nil)))))) (fun a oe cls d pn hz hf => (vss_cons (vs_set nd (i := 2) (ve_lst (va_cons (ve_isX (i := 3) (cvV := .ty "ValueError") (cv := .type "ValueError") hz hf (fun u h => h) s.x_ValueError rfl s.n_isinstance (pe_bltn (v := .ty "ValueError") rfl s.n_ValueError (by decide +kernel) rfl)) (va_cons (ve_isX (i := 3) (cvV := .ref (ga K "BadNumber")) (cv := .ref (ga K "BadNumber")) hz hf (fun u h => h) s.x_BadNumber rfl s.n_isinstance (pe_glob rfl s.g_BadNumber rfl)) (va_cons (ve_isX (i := 3) (cvV := .ref (ga K "RepeatedHour")) (cv := .ref (ga K "RepeatedHour")) hz hf (fun u h => h) s.x_RepeatedHour rfl s.n_isinstance (pe_glob rfl s.g_RepeatedHour rfl)) (va_cons (ve_isX (i := 3) (cvV := .ref (ga K "Meets")) (cv := .ref (ga K "Meets")) hz hf (fun u h => h) s.x_Meets rfl s.n_isinstance (pe_glob rfl s.g_Meets rfl)) va_nil))))))
    (vss_one (vs_set nd (i := 2) (ve_binB opb_addF (vb_var (i := 2)) (VE.toB (ve_lst (va_cons (ve_isX (i := 3) (cvV := .ref (ga K "Refused")) (cv := .ref (ga K "Refused")) hz hf (fun u h => h) s.x_Refused rfl s.n_isinstance (pe_glob rfl s.g_Refused rfl)) va_nil)))))))))
    (vss_one (vs_ret (ve_var (i := 2))))))
theorem d__law_is_lot {P : Program} {w : World} {K : PySem.W.Frag} {mg : Str → Option Value} {base : Heap} (s : Sx K mg) {r : Nat} (C__law_same_2 : FnV P w K mg base (tab K) r (ga K "_law_same") [false, false] [] sp__law_same) (P_Lot_members : FnV P w K mg base (tab K) r (pga K (ma K (ga K "Lot") "members")) [false] [] sp_Lot_members) (I_Lot_1 : ItV P w K mg base (tab K) 0 1) (du : ∀ c m sp, dnL c m = some sp → c < (tab K).n → DnOk P w K mg base (tab K) r c m m.ms sp) {f : Addr} {cdv : Value} {A : Around} {outer : List Env} {st : Shared} {H : Hp} {E : XK} (hr : Room (r + 2) (A.deeper (envOfC "_law_is_lot" (defScope s__law_is_lot) st.heap.objs.size f cdv))) :
    VSs (cxOf (L2.CX P w) P w K mg base ["lot", "n", "due", "member"] "_law_is_lot" (defScope s__law_is_lot) f cdv A outer st H E) (tab K) (fun cls d _ H => E cls d H) z0 (defBody s__law_is_lot) t__law_is_lot := by
  have hr0 := hr.mono (Nat.le_add_right r 2)
  have hr1 := hr.mono (show r + 1 ≤ r + 2 by omega)
  have tk : Takes (cxOf (L2.CX P w) P w K mg base ["lot", "n", "due", "member"] "_law_is_lot" (defScope s__law_is_lot) f cdv A outer st H E) (fun cls d _ H => E cls d H) := takes_of rfl rfl rfl rfl
  have po : PassesOwn (model P w) (Cx.A (cxOf (L2.CX P w) P w K mg base ["lot", "n", "due", "member"] "_law_is_lot" (defScope s__law_is_lot) f cdv A outer st H E)) (Cx.env (cxOf (L2.CX P w) P w K mg base ["lot", "n", "due", "member"] "_law_is_lot" (defScope s__law_is_lot) f cdv A outer st H E)) (Cx.xe (cxOf (L2.CX P w) P w K mg base ["lot", "n", "due", "member"] "_law_is_lot" (defScope s__law_is_lot) f cdv A outer st H E)) := passes_of (X := (cxOf (L2.CX P w) P w K mg base ["lot", "n", "due", "member"] "_law_is_lot" (defScope s__law_is_lot) f cdv A outer st H E)) rfl
  have nd : (["lot", "n", "due", "member"] : List Str).Nodup := by decide
  exact (vss_cons (vs_if (vt_w (vw_or (vt_not (vt_ofB (VLr.toB (VE.toL (ve_isC s.lib (c0 := 0) (show (0 : Nat) < 1 by decide) rfl s.n_isinstance rfl s.g_Lot (vl_var (i := 0))))))) (vw_or (vt_not (vt_ofB (VLr.toB (VE.toL (ve_call C__law_same_2 hr0 tk rfl s.g__law_same (va_cons (ve_fld s.lib (vb_var (i := 0)) (fl_hours K)) (va_cons (ve_var (i := 1)) va_nil))))))) (vw_one' (vt_not (vt_ofB (VLr.toB (VE.toL (ve_call C__law_same_2 hr0 tk rfl s.g__law_same (va_cons (ve_prop s.lib (ve_var (i := 0)) s.p_Lot_members P_Lot_members hr1) (va_cons (ve_var (i := 2)) va_nil))))))))))) (vss_one (vs_ret ve_bl)) vss_nil)
    (vss_one (vs_ret (ve_and (ve_cmp (opv_eq ⟨s.lib, tk, hr, du⟩) (ve_blt (cv_len ⟨s.lib, tk, hr, du⟩) rfl s.n_len (by decide +kernel) (vab_cons (vl_var (i := 0)) vab_nil)) (ve_blt (cv_len ⟨s.lib, tk, hr, du⟩) rfl s.n_len (by decide +kernel) (vab_cons (vl_var (i := 2)) vab_nil)) (nomark _)) (ve_one (ve_call C__law_same_2 hr0 tk rfl s.g__law_same (va_cons (ve_lc (own := [("member", 3)]) rfl nd (vi_obj I_Lot_1 s.lib (hr1.mono (Nat.le_add_left 1 r)) (ve_var (i := 0))) (blkOk_by (by kernel_rfl)) (fun _ _ _ _ _ => (vgw_nm nd (i := 3))) (fun _ _ _ _ _ => vts_nil) (fun _ _ _ _ _ => (ve_var (i := 3)))) (va_cons (ve_var (i := 2)) va_nil))))))))
theorem d__law_equalities {P : Program} {w : World} {K : PySem.W.Frag} {mg : Str → Option Value} {base : Heap} (s : Sx K mg) {r : Nat} (M_Lot_2 : MkV P w K mg base (tab K) r 0 [false, true] [] sp_Lot___init__) (du : ∀ c m sp, dnL c m = some sp → c < (tab K).n → DnOk P w K mg base (tab K) r c m m.ms sp) {f : Addr} {cdv : Value} {A : Around} {outer : List Env} {st : Shared} {H : Hp} {E : XK} (hr : Room (r + 2) (A.deeper (envOfC "_law_equalities" (defScope s__law_equalities) st.heap.objs.size f cdv))) :
    VSs (cxOf (L2.CX P w) P w K mg base ["lot", "n", "due", "unlike", "thing"] "_law_equalities" (defScope s__law_equalities) f cdv A outer st H E) (tab K) (fun cls d _ H => E cls d H) z0 (defBody s__law_equalities) t__law_equalities := by
  have hr0 := hr.mono (Nat.le_add_right r 2)
  have hr1 := hr.mono (show r + 1 ≤ r + 2 by omega)
  have tk : Takes (cxOf (L2.CX P w) P w K mg base ["lot", "n", "due", "unlike", "thing"] "_law_equalities" (defScope s__law_equalities) f cdv A outer st H E) (fun cls d _ H => E cls d H) := takes_of rfl rfl rfl rfl
  have po : PassesOwn (model P w) (Cx.A (cxOf (L2.CX P w) P w K mg base ["lot", "n", "due", "unlike", "thing"] "_law_equalities" (defScope s__law_equalities) f cdv A outer st H E)) (Cx.env (cxOf (L2.CX P w) P w K mg base ["lot", "n", "due", "unlike", "thing"] "_law_equalities" (defScope s__law_equalities) f cdv A outer st H E)) (Cx.xe (cxOf (L2.CX P w) P w K mg base ["lot", "n", "due", "unlike", "thing"] "_law_equalities" (defScope s__law_equalities) f cdv A outer st H E)) := passes_of (X := (cxOf (L2.CX P w) P w K mg base ["lot", "n", "due", "unlike", "thing"] "_law_equalities" (defScope s__law_equalities) f cdv A outer st H E)) rfl
  have nd : (["lot", "n", "due", "unlike", "thing"] : List Str).Nodup := by decide
  exact (vss_cons (vs_set nd (i := 3) (ve_sl (vl_var (i := 2)) (vo_some ve_int) vo_none))
    (vss_cons (vs_if (vt_cmp (opv_notIn ⟨s.lib, tk, hr, du⟩) ve_int (ve_var (i := 2)) (by with_unfolding_all rfl)) (vss_one (vs_set nd (i := 3) (ve_bin (opv_add ⟨s.lib, tk, hr, du⟩) (ve_lst (va_cons ve_int va_nil)) (ve_var (i := 2))))) vss_nil)
    (vss_cons (vs_if (vt_w (vw_or (vt_cmpB opb_isNot (VE.toB (ve_cmp (opv_eq ⟨s.lib, tk, hr, du⟩) (ve_var (i := 0)) (ve_make M_Lot_2 hr1 tk rfl s.g_Lot (va_cons (ve_var (i := 1)) (va_consB (VE.toB (ve_revL (p3 := ⟨0, 0, 0, 0⟩) (vl_var (i := 2)))) va_nil))) (nomark _))) (VE.toB ve_bl) (nomark _)) (vw_one' (vt_cmpB opb_isNot (VE.toB (ve_cmp (opv_eq ⟨s.lib, tk, hr, du⟩) (ve_var (i := 0)) (ve_make M_Lot_2 hr1 tk rfl s.g_Lot (va_cons (ve_var (i := 1)) (va_consB (VE.toB (ve_bltT (cv_list) rfl s.n_list (by decide +kernel) (vab_cons (vl_var (i := 3)) vab_nil))) va_nil))) (nomark _))) (VE.toB ve_bl) (nomark _))))) (vss_one (vs_ret ve_bl)) vss_nil)
    (vss_cons (vs_if (vt_w (vw_or (vt_cmpB opb_isNot (VE.toB (ve_cmp (opv_eq ⟨s.lib, tk, hr, du⟩) (ve_make M_Lot_2 hr1 tk rfl s.g_Lot (va_cons (ve_var (i := 1)) (va_consB (VE.toB (ve_bltT (cv_list) rfl s.n_list (by decide +kernel) (vab_cons (vl_var (i := 3)) vab_nil))) va_nil))) (ve_var (i := 0)) (nomark _))) (VE.toB ve_bl) (nomark _)) (vw_one' (vt_w (vw_and (vt_cmp (opv_lt ⟨s.lib, tk, hr, du⟩) (ve_var (i := 1)) ve_int (nomark _)) (vw_one (vt_cmpB opb_isNot (VE.toB (ve_cmp (opv_eq ⟨s.lib, tk, hr, du⟩) (ve_var (i := 0)) (ve_make M_Lot_2 hr1 tk rfl s.g_Lot (va_cons (ve_bin (opv_add ⟨s.lib, tk, hr, du⟩) (ve_var (i := 1)) ve_int) (va_consB (VE.toB (ve_bltT (cv_list) rfl s.n_list (by decide +kernel) (vab_cons (vl_var (i := 2)) vab_nil))) va_nil))) (nomark _))) (VE.toB ve_bl) (nomark _)))))))) (vss_one (vs_ret ve_bl)) vss_nil)
    (vss_cons (vs_if (vt_w (vw_or (vt_cmpB opb_isNot (VE.toB (ve_cmp (opv_ne ⟨s.lib, tk, hr, du⟩) (ve_var (i := 0)) (ve_make M_Lot_2 hr1 tk rfl s.g_Lot (va_cons (ve_var (i := 1)) (va_consB (VE.toB (ve_revL (p3 := ⟨0, 0, 0, 0⟩) (vl_var (i := 2)))) va_nil))) (nomark _))) (VE.toB ve_bl) (nomark _)) (vw_one' (vt_cmpB opb_isNot (VE.toB (ve_cmp (opv_ne ⟨s.lib, tk, hr, du⟩) (ve_var (i := 0)) (ve_make M_Lot_2 hr1 tk rfl s.g_Lot (va_cons (ve_var (i := 1)) (va_consB (VE.toB (ve_bltT (cv_list) rfl s.n_list (by decide +kernel) (vab_cons (vl_var (i := 3)) vab_nil))) va_nil))) (nomark _))) (VE.toB ve_bl) (nomark _))))) (vss_one (vs_ret ve_bl)) vss_nil)
    (vss_cons (vs_if (vt_w (vw_and (vt_cmp (opv_lt ⟨s.lib, tk, hr, du⟩) (ve_var (i := 1)) ve_int (nomark _)) (vw_one (vt_cmpB opb_isNot (VE.toB (ve_cmp (opv_ne ⟨s.lib, tk, hr, du⟩) (ve_var (i := 0)) (ve_make M_Lot_2 hr1 tk rfl s.g_Lot (va_cons (ve_bin (opv_add ⟨s.lib, tk, hr, du⟩) (ve_var (i := 1)) ve_int) (va_consB (VE.toB (ve_bltT (cv_list) rfl s.n_list (by decide +kernel) (vab_cons (vl_var (i := 2)) vab_nil))) va_nil))) (nomark _))) (VE.toB ve_bl) (nomark _))))) (vss_one (vs_ret ve_bl)) vss_nil)
    (vss_cons (vs_for po rfl (vi_seq (ve_lst (va_cons (ve_bltT (cv_list) rfl s.n_list (by decide +kernel) (vab_cons (vl_var (i := 2)) vab_nil)) (va_cons ve_non (va_cons (ve_var (i := 1)) (va_cons ve_str va_nil)))))) (vg_nm nd (i := 4)) (vss_one (vs_if (vt_w (vw_or (vt_cmpB opb_isNot (VE.toB (ve_cmp (opv_eq ⟨s.lib, tk, hr, du⟩) (ve_var (i := 0)) (ve_var (i := 4)) (nomark _))) (VE.toB ve_bl) (nomark _)) (vw_one' (vt_cmpB opb_isNot (VE.toB (ve_cmp (opv_ne ⟨s.lib, tk, hr, du⟩) (ve_var (i := 0)) (ve_var (i := 4)) (nomark _))) (VE.toB ve_bl) (nomark _))))) (vss_one (vs_ret ve_bl)) vss_nil)))
    (vss_one (vs_ret ve_bl)))))))))
theorem d__law_membership {P : Program} {w : World} {K : PySem.W.Frag} {mg : Str → Option Value} {base : Heap} (s : Sx K mg) {r : Nat}  (du : ∀ c m sp, dnL c m = some sp → c < (tab K).n → DnOk P w K mg base (tab K) r c m m.ms sp) {f : Addr} {cdv : Value} {A : Around} {outer : List Env} {st : Shared} {H : Hp} {E : XK} (hr : Room (r + 2) (A.deeper (envOfC "_law_membership" (defScope s__law_membership) st.heap.objs.size f cdv))) :
    VSs (cxOf (L2.CX P w) P w K mg base ["lot", "n", "due", "far", "r"] "_law_membership" (defScope s__law_membership) f cdv A outer st H E) (tab K) (fun cls d _ H => E cls d H) z0 (defBody s__law_membership) t__law_membership := by
  have hr0 := hr.mono (Nat.le_add_right r 2)
  have hr1 := hr.mono (show r + 1 ≤ r + 2 by omega)
  have tk : Takes (cxOf (L2.CX P w) P w K mg base ["lot", "n", "due", "far", "r"] "_law_membership" (defScope s__law_membership) f cdv A outer st H E) (fun cls d _ H => E cls d H) := takes_of rfl rfl rfl rfl
  have po : PassesOwn (model P w) (Cx.A (cxOf (L2.CX P w) P w K mg base ["lot", "n", "due", "far", "r"] "_law_membership" (defScope s__law_membership) f cdv A outer st H E)) (Cx.env (cxOf (L2.CX P w) P w K mg base ["lot", "n", "due", "far", "r"] "_law_membership" (defScope s__law_membership) f cdv A outer st H E)) (Cx.xe (cxOf (L2.CX P w) P w K mg base ["lot", "n", "due", "far", "r"] "_law_membership" (defScope s__law_membership) f cdv A outer st H E)) := passes_of (X := (cxOf (L2.CX P w) P w K mg base ["lot", "n", "due", "far", "r"] "_law_membership" (defScope s__law_membership) f cdv A outer st H E)) rfl
  have nd : (["lot", "n", "due", "far", "r"] : List Str).Nodup := by decide
  exact (vss_cons (vs_for po rfl (vi_rng1 rfl s.n_range (ve_var (i := 1))) (vg_nm nd (i := 4)) (vss_one (vs_if (vt_w (vw_or (vt_cmp (opv_ne ⟨s.lib, tk, hr, du⟩) (ve_cmp (opv_in ⟨s.lib, tk, hr, du⟩) (ve_var (i := 4)) (ve_var (i := 0)) (by with_unfolding_all rfl)) (ve_cmp (opv_in ⟨s.lib, tk, hr, du⟩) (ve_var (i := 4)) (ve_var (i := 2)) (by with_unfolding_all rfl)) (nomark _)) (vw_one' (vt_cmp (opv_ne ⟨s.lib, tk, hr, du⟩) (ve_cmp (opv_in ⟨s.lib, tk, hr, du⟩) (ve_bin (opv_add ⟨s.lib, tk, hr, du⟩) (ve_var (i := 4)) (ve_bin (opv_mul ⟨s.lib, tk, hr, du⟩) (ve_var (i := 1)) (ve_var (i := 3)))) (ve_var (i := 0)) (by with_unfolding_all rfl)) (ve_cmp (opv_in ⟨s.lib, tk, hr, du⟩) (ve_var (i := 4)) (ve_var (i := 2)) (by with_unfolding_all rfl)) (nomark _))))) (vss_one (vs_ret ve_bl)) vss_nil)))
    (vss_one (vs_ret ve_bl)))
theorem d__law_part_a {P : Program} {w : World} {K : PySem.W.Frag} {mg : Str → Option Value} {base : Heap} (s : Sx K mg) {r : Nat} (C__law_hours_1 : FnV P w K mg base (tab K) r (ga K "_law_hours") [false] [] sp__law_hours) (C__law_values_2 : FnV P w K mg base (tab K) r (ga K "_law_values") [false, false] [] sp__law_values) (C__law_told_lot_2 : FnV P w K mg base (tab K) r (ga K "_law_told_lot") [false, true] [] sp__law_told_lot) (C__law_same_2 : FnV P w K mg base (tab K) r (ga K "_law_same") [false, false] [] sp__law_same) (C__law_told_full_1 : FnV P w K mg base (tab K) r (ga K "_law_told_full") [false] [] sp__law_told_full) (C__law_kinds_2 : FnV P w K mg base (tab K) r (ga K "_law_kinds") [false, false] [] sp__law_kinds) (C__law_first_repeated_1 : FnV P w K mg base (tab K) r (ga K "_law_first_repeated") [false] [] sp__law_first_repeated) (C__law_is_lot_3 : FnV P w K mg base (tab K) r (ga K "_law_is_lot") [false, false, false] [] sp__law_is_lot) (C__law_equalities_3 : FnV P w K mg base (tab K) r (ga K "_law_equalities") [false, false, false] [] sp__law_equalities) (C__law_cell_2 : FnV P w K mg base (tab K) r (ga K "_law_cell") [false, false] [] sp__law_cell) (C__law_draws_3 : FnV P w K mg base (tab K) r (ga K "_law_draws") [false, false, false] [] sp__law_draws) (C__law_zigzag_1 : FnV P w K mg base (tab K) r (ga K "_law_zigzag") [false] [] sp__law_zigzag) (C__law_membership_4 : FnV P w K mg base (tab K) r (ga K "_law_membership") [false, false, false, false] [] sp__law_membership) (K_Lot_full_1 : FnV P w K mg base (tab K) r (cga K ((tab K).cls 0) "full") [false, false] [] sp_Lot_full) (P_Lot_members : FnV P w K mg base (tab K) r (pga K (ma K (ga K "Lot") "members")) [false] [] sp_Lot_members) (du : ∀ c m sp, dnL c m = some sp → c < (tab K).n → DnOk P w K mg base (tab K) r c m m.ms sp) {f : Addr} {cdv : Value} {A : Around} {outer : List Env} {st : Shared} {H : Hp} {E : XK} (hr : Room (r + 2) (A.deeper (envOfC "_law_part_a" (defScope s__law_part_a) st.heap.objs.size f cdv))) :
    VSs (cxOf (L2.CX P w) P w K mg base ["script", "hours", "values", "due", "residues", "repeated", "passed", "lot", "far", "shown", "value", "h"] "_law_part_a" (defScope s__law_part_a) f cdv A outer st H E) (tab K) (fun cls d _ H => E cls d H) z0 (defBody s__law_part_a) t__law_part_a := by
  have hr0 := hr.mono (Nat.le_add_right r 2)
  have hr1 := hr.mono (show r + 1 ≤ r + 2 by omega)
  have tk : Takes (cxOf (L2.CX P w) P w K mg base ["script", "hours", "values", "due", "residues", "repeated", "passed", "lot", "far", "shown", "value", "h"] "_law_part_a" (defScope s__law_part_a) f cdv A outer st H E) (fun cls d _ H => E cls d H) := takes_of rfl rfl rfl rfl
  have po : PassesOwn (model P w) (Cx.A (cxOf (L2.CX P w) P w K mg base ["script", "hours", "values", "due", "residues", "repeated", "passed", "lot", "far", "shown", "value", "h"] "_law_part_a" (defScope s__law_part_a) f cdv A outer st H E)) (Cx.env (cxOf (L2.CX P w) P w K mg base ["script", "hours", "values", "due", "residues", "repeated", "passed", "lot", "far", "shown", "value", "h"] "_law_part_a" (defScope s__law_part_a) f cdv A outer st H E)) (Cx.xe (cxOf (L2.CX P w) P w K mg base ["script", "hours", "values", "due", "residues", "repeated", "passed", "lot", "far", "shown", "value", "h"] "_law_part_a" (defScope s__law_part_a) f cdv A outer st H E)) := passes_of (X := (cxOf (L2.CX P w) P w K mg base ["script", "hours", "values", "due", "residues", "repeated", "passed", "lot", "far", "shown", "value", "h"] "_law_part_a" (defScope s__law_part_a) f cdv A outer st H E)) rfl
  have nd : (["script", "hours", "values", "due", "residues", "repeated", "passed", "lot", "far", "shown", "value", "h"] : List Str).Nodup := by decide
  exact (vss_cons (vs_set nd (i := 1) (ve_call C__law_hours_1 hr0 tk rfl s.g__law_hours (va_cons (ve_var (i := 0)) va_nil)))
    (vss_cons (vs_if (vt_w (vw_or (vt_cmp (opv_lt ⟨s.lib, tk, hr, du⟩) (ve_var (i := 1)) ve_int (nomark _)) (vw_one' (vt_cmp (opv_gt ⟨s.lib, tk, hr, du⟩) (ve_var (i := 1)) ve_int (nomark _))))) (vss_cons (vs_set nd (i := 2) (ve_call C__law_values_2 hr0 tk rfl s.g__law_values (va_cons (ve_var (i := 0)) (va_cons ve_int va_nil))))
    (vss_cons (vs_set nd (i := 3) (ve_tup (va_cons ve_str (va_cons ve_str (va_cons (ve_var (i := 1)) va_nil)))))
    (vss_cons (vs_if (vt_w (vw_or (vt_not (vt_ofB (VLr.toB (VE.toL (ve_call C__law_same_2 hr0 tk rfl s.g__law_same (va_cons (ve_call C__law_told_lot_2 hr0 tk rfl s.g__law_told_lot (va_cons (ve_var (i := 1)) (va_consB (VE.toB (ve_bltT (cv_list) rfl s.n_list (by decide +kernel) (vab_cons (vl_var (i := 2)) vab_nil))) va_nil))) (va_cons (ve_var (i := 3)) va_nil))))))) (vw_one' (vt_not (vt_ofB (VLr.toB (VE.toL (ve_call C__law_same_2 hr0 tk rfl s.g__law_same (va_cons (ve_call C__law_told_full_1 hr0 tk rfl s.g__law_told_full (va_cons (ve_var (i := 1)) va_nil)) (va_cons (ve_var (i := 3)) va_nil)))))))))) (vss_one (vs_ret ve_bl)) vss_nil)
    (vss_one (vs_ret (ve_cmp (opv_eq ⟨s.lib, tk, hr, du⟩) (ve_call C__law_kinds_2 hr0 tk rfl s.g__law_kinds (va_cons (ve_var (i := 1)) (va_cons (ve_bltT (cv_list) rfl s.n_list (by decide +kernel) (vab_cons (vl_var (i := 2)) vab_nil)) va_nil))) (ve_lst (va_cons ve_bl (va_cons ve_bl (va_cons ve_bl (va_cons ve_bl (va_cons ve_bl va_nil)))))) (nomark _))))))) vss_nil)
    (vss_cons (vs_set nd (i := 2) (ve_call C__law_values_2 hr0 tk rfl s.g__law_values (va_cons (ve_var (i := 0)) (va_cons (ve_var (i := 1)) va_nil))))
    (vss_cons (by first | exact vs_setLc (i := 4) (own := [("value", 10)]) rfl nd (vi_seq (ve_var (i := 2))) (blkOk_by (by kernel_rfl)) (fun _ _ _ _ _ => (vgw_nm nd (i := 10))) (fun _ _ _ _ _ => vts_nil) (fun _ _ _ _ _ => (ve_bin (opv_mod ⟨s.lib, takes_no, hr, du⟩) (ve_bltT (cv_int) rfl s.n_int (by decide +kernel) (vab_cons (vl_var (i := 10)) vab_nil)) (ve_var (i := 1)))) (sw_true rfl rfl rfl (by decide +kernel)) | exact vs_set nd (i := 4) (ve_lc (own := [("value", 10)]) rfl nd (vi_seq (ve_var (i := 2))) (blkOk_by (by kernel_rfl)) (fun _ _ _ _ _ => (vgw_nm nd (i := 10))) (fun _ _ _ _ _ => vts_nil) (fun _ _ _ _ _ => (ve_bin (opv_mod ⟨s.lib, takes_no, hr, du⟩) (ve_bltT (cv_int) rfl s.n_int (by decide +kernel) (vab_cons (vl_var (i := 10)) vab_nil)) (ve_var (i := 1))))))
    (vss_cons (vs_set nd (i := 5) (ve_call C__law_first_repeated_1 hr0 tk rfl s.g__law_first_repeated (va_cons (ve_var (i := 4)) va_nil)))
    (vss_cons (vs_own nd (i := 6) (ve_bltT (cv_list) rfl s.n_list (by decide +kernel) (vab_cons (vl_var (i := 2)) vab_nil)))
    (vss_cons (vs_set nd (i := 7) (ve_call C__law_told_lot_2 hr0 tk rfl s.g__law_told_lot (va_cons (ve_var (i := 1)) (va_consB (vb_var (i := 6)) va_nil))))
    (vss_cons (vs_if (vt_not (vt_ofB (VLr.toB (VE.toL (ve_callS C__law_same_2 hr0 tk rfl s.g__law_same (vaq_cons (vl_var (i := 6)) (vaq_cons (vl_var (i := 2)) vaq_nil))))))) (vss_one (vs_ret ve_bl)) vss_nil)
    (vss_cons (vs_if (vt_cmp (opv_ge ⟨s.lib, tk, hr, du⟩) (ve_var (i := 5)) ve_int (nomark _)) (vss_cons (vs_if (vt_not (vt_ofB (VLr.toB (VE.toL (ve_call C__law_same_2 hr0 tk rfl s.g__law_same (va_cons (ve_var (i := 7)) (va_cons (ve_tup (va_cons ve_str (va_cons (ve_var (i := 5)) va_nil))) va_nil))))))) (vss_one (vs_ret ve_bl)) vss_nil)
    (vss_one (vs_ret (ve_cmp (opv_eq ⟨s.lib, tk, hr, du⟩) (ve_call C__law_kinds_2 hr0 tk rfl s.g__law_kinds (va_cons (ve_var (i := 1)) (va_cons (ve_bltT (cv_list) rfl s.n_list (by decide +kernel) (vab_cons (vl_var (i := 2)) vab_nil)) va_nil))) (ve_lst (va_cons ve_bl (va_cons ve_bl (va_cons ve_bl (va_cons ve_bl (va_cons ve_bl va_nil)))))) (nomark _))))) vss_nil)
    (vss_cons (by first | exact vs_setLc (i := 3) (own := [("h", 11)]) rfl nd (vi_rng1 rfl s.n_range (ve_var (i := 1))) (blkOk_by (by kernel_rfl)) (fun _ _ _ _ _ => (vgw_nm nd (i := 11))) (fun _ _ _ _ _ => (vts_one (vt_cmp (opv_in ⟨s.lib, takes_no, hr, du⟩) (ve_var (i := 11)) (ve_var (i := 4)) (by with_unfolding_all rfl)))) (fun _ _ _ _ _ => (ve_var (i := 11))) (sw_true rfl rfl rfl (by decide +kernel)) | exact vs_set nd (i := 3) (ve_lc (own := [("h", 11)]) rfl nd (vi_rng1 rfl s.n_range (ve_var (i := 1))) (blkOk_by (by kernel_rfl)) (fun _ _ _ _ _ => (vgw_nm nd (i := 11))) (fun _ _ _ _ _ => (vts_one (vt_cmp (opv_in ⟨s.lib, takes_no, hr, du⟩) (ve_var (i := 11)) (ve_var (i := 4)) (by with_unfolding_all rfl)))) (fun _ _ _ _ _ => (ve_var (i := 11)))))
    (vss_cons (vs_if (vt_w (vw_or (vt_not (vt_ofB (VLr.toB (VE.toL (ve_call C__law_is_lot_3 hr0 tk rfl s.g__law_is_lot (va_cons (ve_var (i := 7)) (va_cons (ve_var (i := 1)) (va_cons (ve_var (i := 3)) va_nil)))))))) (vw_one' (vt_not (vt_ofB (VLr.toB (VE.toL (ve_call C__law_equalities_3 hr0 tk rfl s.g__law_equalities (va_cons (ve_var (i := 7)) (va_cons (ve_var (i := 1)) (va_cons (ve_var (i := 3)) va_nil))))))))))) (vss_one (vs_ret ve_bl)) vss_nil)
    (vss_cons (vs_set nd (i := 8) (ve_call C__law_zigzag_1 hr0 tk rfl s.g__law_zigzag (va_cons (ve_ix (VE.toL (ve_call C__law_draws_3 hr0 tk rfl s.g__law_draws (va_cons (ve_call C__law_cell_2 hr0 tk rfl s.g__law_cell (va_cons (ve_var (i := 0)) (va_cons ve_int va_nil))) (va_cons ve_int (va_cons (ve_lst (va_cons ve_int (va_cons ve_int (va_cons ve_int (va_cons (ve_bin (opv_pow ⟨s.lib, tk, hr, du⟩) ve_int ve_int) va_nil))))) va_nil))))) ve_int) va_nil)))
    (vss_cons (vs_if (vt_w (vw_or (vt_not (vt_ofB (VLr.toB (VE.toL (ve_call C__law_membership_4 hr0 tk rfl s.g__law_membership (va_cons (ve_var (i := 7)) (va_cons (ve_var (i := 1)) (va_cons (ve_var (i := 3)) (va_cons (ve_var (i := 8)) va_nil))))))))) (vw_one' (vt_not (vt_ofB (VLr.toB (VE.toL (ve_call C__law_is_lot_3 hr0 tk rfl s.g__law_is_lot (va_cons (ve_cmeth (ve_gcls (c := 0) rfl s.g_Lot) s.cm_Lot_full K_Lot_full_1 hr0 tk (va_cons (ve_var (i := 1)) va_nil)) (va_cons (ve_var (i := 1)) (va_cons (ve_listRg1 rfl rfl s.n_list rfl s.n_range (ve_var (i := 1))) va_nil))))))))))) (vss_one (vs_ret ve_bl)) vss_nil)
    (vss_cons (vs_meth (i := 6) mu_append PySem.F.slot_list_append PySem.F.type_list_append (va_cons ve_int va_nil))
    (vss_cons (vs_setIx (i := 6) (ve_bin (opv_add ⟨s.lib, tk, hr, du⟩) (ve_ix (vl_var (i := 6)) ve_int) ve_int) ve_int)
    (vss_cons (vs_own nd (i := 9) (ve_prop s.lib (ve_var (i := 7)) s.p_Lot_members P_Lot_members hr1))
    (vss_cons (vs_meth (i := 9) mu_append PySem.F.slot_list_append PySem.F.type_list_append (va_cons (ve_var (i := 1)) va_nil))
    (vss_one (vs_ret (ve_and (ve_call C__law_is_lot_3 hr0 tk rfl s.g__law_is_lot (va_cons (ve_var (i := 7)) (va_cons (ve_var (i := 1)) (va_cons (ve_var (i := 3)) va_nil)))) (ve_one (ve_call C__law_same_2 hr0 tk rfl s.g__law_same (va_cons (ve_clsCon (ve_gcls (c := 0) rfl s.g_Lot) (fun p hp => by rw [List.mem_singleton.mp hp]; exact s.cc_Lot_MOST)) (va_cons ve_int va_nil))))))))))))))))))))))))
theorem d__law_drawn_lot {P : Program} {w : World} {K : PySem.W.Frag} {mg : Str → Option Value} {base : Heap} (s : Sx K mg) {r : Nat} (C__law_subset_3 : FnV P w K mg base (tab K) r (ga K "_law_subset") [false, false, false] [] sp__law_subset) (du : ∀ c m sp, dnL c m = some sp → c < (tab K).n → DnOk P w K mg base (tab K) r c m m.ms sp) {f : Addr} {cdv : Value} {A : Around} {outer : List Env} {st : Shared} {H : Hp} {E : XK} (hr : Room (r + 2) (A.deeper (envOfC "_law_drawn_lot" (defScope s__law_drawn_lot) st.heap.objs.size f cdv))) :
    VSs (cxOf (L2.CX P w) P w K mg base ["cell", "salt", "n", "way", "drawn"] "_law_drawn_lot" (defScope s__law_drawn_lot) f cdv A outer st H E) (tab K) (fun cls d _ H => E cls d H) z0 (defBody s__law_drawn_lot) t__law_drawn_lot := by
  have hr0 := hr.mono (Nat.le_add_right r 2)
  have hr1 := hr.mono (show r + 1 ≤ r + 2 by omega)
  have tk : Takes (cxOf (L2.CX P w) P w K mg base ["cell", "salt", "n", "way", "drawn"] "_law_drawn_lot" (defScope s__law_drawn_lot) f cdv A outer st H E) (fun cls d _ H => E cls d H) := takes_of rfl rfl rfl rfl
  have po : PassesOwn (model P w) (Cx.A (cxOf (L2.CX P w) P w K mg base ["cell", "salt", "n", "way", "drawn"] "_law_drawn_lot" (defScope s__law_drawn_lot) f cdv A outer st H E)) (Cx.env (cxOf (L2.CX P w) P w K mg base ["cell", "salt", "n", "way", "drawn"] "_law_drawn_lot" (defScope s__law_drawn_lot) f cdv A outer st H E)) (Cx.xe (cxOf (L2.CX P w) P w K mg base ["cell", "salt", "n", "way", "drawn"] "_law_drawn_lot" (defScope s__law_drawn_lot) f cdv A outer st H E)) := passes_of (X := (cxOf (L2.CX P w) P w K mg base ["cell", "salt", "n", "way", "drawn"] "_law_drawn_lot" (defScope s__law_drawn_lot) f cdv A outer st H E)) rfl
  have nd : (["cell", "salt", "n", "way", "drawn"] : List Str).Nodup := by decide
  exact (vss_cons (vs_if (vt_cmp (opv_eq ⟨s.lib, tk, hr, du⟩) (ve_var (i := 3)) ve_int (nomark _)) (vss_one (vs_ret (ve_lst va_nil))) vss_nil)
    (vss_cons (vs_if (vt_cmp (opv_eq ⟨s.lib, tk, hr, du⟩) (ve_var (i := 3)) ve_int (nomark _)) (vss_one (vs_ret (ve_listRg1 rfl rfl s.n_list rfl s.n_range (ve_var (i := 2))))) vss_nil)
    (vss_cons (vs_set nd (i := 4) (ve_call C__law_subset_3 hr0 tk rfl s.g__law_subset (va_cons (ve_var (i := 0)) (va_cons (ve_var (i := 1)) (va_cons (ve_var (i := 2)) va_nil)))))
    (vss_cons (vs_if (vt_cmp (opv_eq ⟨s.lib, tk, hr, du⟩) (ve_var (i := 3)) ve_int (nomark _)) (vss_one (vs_ret (ve_sl (vl_var (i := 4)) vo_none (vo_some ve_int)))) vss_nil)
    (vss_one (vs_ret (ve_var (i := 4))))))))
theorem d__law_other_ring {P : Program} {w : World} {K : PySem.W.Frag} {mg : Str → Option Value} {base : Heap} (s : Sx K mg) {r : Nat}  (du : ∀ c m sp, dnL c m = some sp → c < (tab K).n → DnOk P w K mg base (tab K) r c m m.ms sp) {f : Addr} {cdv : Value} {A : Around} {outer : List Env} {st : Shared} {H : Hp} {E : XK} (hr : Room (r + 2) (A.deeper (envOfC "_law_other_ring" (defScope s__law_other_ring) st.heap.objs.size f cdv))) :
    VSs (cxOf (L2.CX P w) P w K mg base ["n", "way"] "_law_other_ring" (defScope s__law_other_ring) f cdv A outer st H E) (tab K) (fun cls d _ H => E cls d H) z0 (defBody s__law_other_ring) t__law_other_ring := by
  have hr0 := hr.mono (Nat.le_add_right r 2)
  have hr1 := hr.mono (show r + 1 ≤ r + 2 by omega)
  have tk : Takes (cxOf (L2.CX P w) P w K mg base ["n", "way"] "_law_other_ring" (defScope s__law_other_ring) f cdv A outer st H E) (fun cls d _ H => E cls d H) := takes_of rfl rfl rfl rfl
  have po : PassesOwn (model P w) (Cx.A (cxOf (L2.CX P w) P w K mg base ["n", "way"] "_law_other_ring" (defScope s__law_other_ring) f cdv A outer st H E)) (Cx.env (cxOf (L2.CX P w) P w K mg base ["n", "way"] "_law_other_ring" (defScope s__law_other_ring) f cdv A outer st H E)) (Cx.xe (cxOf (L2.CX P w) P w K mg base ["n", "way"] "_law_other_ring" (defScope s__law_other_ring) f cdv A outer st H E)) := passes_of (X := (cxOf (L2.CX P w) P w K mg base ["n", "way"] "_law_other_ring" (defScope s__law_other_ring) f cdv A outer st H E)) rfl
  have nd : (["n", "way"] : List Str).Nodup := by decide
  exact (vss_cons (vs_if (vt_w (vw_and (vt_cmp (opv_eq ⟨s.lib, tk, hr, du⟩) (ve_var (i := 1)) ve_int (nomark _)) (vw_one (vt_cmp (opv_le ⟨s.lib, tk, hr, du⟩) (ve_bin (opv_mul ⟨s.lib, tk, hr, du⟩) ve_int (ve_var (i := 0))) ve_int (nomark _))))) (vss_one (vs_ret (ve_bin (opv_mul ⟨s.lib, tk, hr, du⟩) ve_int (ve_var (i := 0))))) vss_nil)
    (vss_cons (vs_if (vt_cmp (opv_le ⟨s.lib, tk, hr, du⟩) (ve_var (i := 1)) ve_int (nomark _)) (vss_one (vs_ret (ve_bin (opv_add ⟨s.lib, tk, hr, du⟩) (ve_bin (opv_mod ⟨s.lib, tk, hr, du⟩) (ve_bltT (cv_int) rfl s.n_int (by decide +kernel) (vab_cons (vl_var (i := 0)) vab_nil)) ve_int) ve_int))) vss_nil)
    (vss_one (vs_ret (ve_var (i := 0))))))
theorem d__law_turn {P : Program} {w : World} {K : PySem.W.Frag} {mg : Str → Option Value} {base : Heap} (s : Sx K mg) {r : Nat} (C__law_cell_2 : FnV P w K mg base (tab K) r (ga K "_law_cell") [false, false] [] sp__law_cell) (C__law_digits_2 : FnV P w K mg base (tab K) r (ga K "_law_digits") [false, false] [] sp__law_digits) (du : ∀ c m sp, dnL c m = some sp → c < (tab K).n → DnOk P w K mg base (tab K) r c m m.ms sp) {f : Addr} {cdv : Value} {A : Around} {outer : List Env} {st : Shared} {H : Hp} {E : XK} (hr : Room (r + 2) (A.deeper (envOfC "_law_turn" (defScope s__law_turn) st.heap.objs.size f cdv))) :
    VSs (cxOf (L2.CX P w) P w K mg base ["script", "n", "way", "sign", "number"] "_law_turn" (defScope s__law_turn) f cdv A outer st H E) (tab K) (fun cls d _ H => E cls d H) z0 (defBody s__law_turn) t__law_turn := by
  have hr0 := hr.mono (Nat.le_add_right r 2)
  have hr1 := hr.mono (show r + 1 ≤ r + 2 by omega)
  have tk : Takes (cxOf (L2.CX P w) P w K mg base ["script", "n", "way", "sign", "number"] "_law_turn" (defScope s__law_turn) f cdv A outer st H E) (fun cls d _ H => E cls d H) := takes_of rfl rfl rfl rfl
  have po : PassesOwn (model P w) (Cx.A (cxOf (L2.CX P w) P w K mg base ["script", "n", "way", "sign", "number"] "_law_turn" (defScope s__law_turn) f cdv A outer st H E)) (Cx.env (cxOf (L2.CX P w) P w K mg base ["script", "n", "way", "sign", "number"] "_law_turn" (defScope s__law_turn) f cdv A outer st H E)) (Cx.xe (cxOf (L2.CX P w) P w K mg base ["script", "n", "way", "sign", "number"] "_law_turn" (defScope s__law_turn) f cdv A outer st H E)) := passes_of (X := (cxOf (L2.CX P w) P w K mg base ["script", "n", "way", "sign", "number"] "_law_turn" (defScope s__law_turn) f cdv A outer st H E)) rfl
  have nd : (["script", "n", "way", "sign", "number"] : List Str).Nodup := by decide
  exact (vss_cons (vs_set nd (i := 4) (ve_call C__law_digits_2 hr0 tk rfl s.g__law_digits (va_cons (ve_call C__law_cell_2 hr0 tk rfl s.g__law_cell (va_cons (ve_var (i := 0)) (va_cons ve_int va_nil))) (va_cons ve_int va_nil))))
    (vss_cons (vs_if (vt_cmp (opv_le ⟨s.lib, tk, hr, du⟩) (ve_var (i := 2)) ve_int (nomark _)) (vss_one (vs_set nd (i := 4) (ve_ix (VE.toL (ve_lst (va_cons ve_int (va_cons (ve_var (i := 1)) (va_cons ve_int va_nil))))) (ve_var (i := 2))))) vss_nil)
    (vss_cons (vs_if (vt_cmp (opv_eq ⟨s.lib, tk, hr, du⟩) (ve_var (i := 3)) ve_int (nomark _)) (vss_one (vs_set nd (i := 4) (ve_bin (opv_sub ⟨s.lib, tk, hr, du⟩) ve_int (ve_var (i := 4))))) vss_nil)
    (vss_one (vs_ret (ve_var (i := 4)))))))
theorem d__law_is_lot_b {P : Program} {w : World} {K : PySem.W.Frag} {mg : Str → Option Value} {base : Heap} (s : Sx K mg) {r : Nat} (C__law_same_2 : FnV P w K mg base (tab K) r (ga K "_law_same") [false, false] [] sp__law_same) (P_Lot_members : FnV P w K mg base (tab K) r (pga K (ma K (ga K "Lot") "members")) [false] [] sp_Lot_members) (du : ∀ c m sp, dnL c m = some sp → c < (tab K).n → DnOk P w K mg base (tab K) r c m m.ms sp) {f : Addr} {cdv : Value} {A : Around} {outer : List Env} {st : Shared} {H : Hp} {E : XK} (hr : Room (r + 2) (A.deeper (envOfC "_law_is_lot_b" (defScope s__law_is_lot_b) st.heap.objs.size f cdv))) :
    VSs (cxOf (L2.CX P w) P w K mg base ["lot", "n", "due"] "_law_is_lot_b" (defScope s__law_is_lot_b) f cdv A outer st H E) (tab K) (fun cls d _ H => E cls d H) z0 (defBody s__law_is_lot_b) t__law_is_lot_b := by
  have hr0 := hr.mono (Nat.le_add_right r 2)
  have hr1 := hr.mono (show r + 1 ≤ r + 2 by omega)
  have tk : Takes (cxOf (L2.CX P w) P w K mg base ["lot", "n", "due"] "_law_is_lot_b" (defScope s__law_is_lot_b) f cdv A outer st H E) (fun cls d _ H => E cls d H) := takes_of rfl rfl rfl rfl
  have po : PassesOwn (model P w) (Cx.A (cxOf (L2.CX P w) P w K mg base ["lot", "n", "due"] "_law_is_lot_b" (defScope s__law_is_lot_b) f cdv A outer st H E)) (Cx.env (cxOf (L2.CX P w) P w K mg base ["lot", "n", "due"] "_law_is_lot_b" (defScope s__law_is_lot_b) f cdv A outer st H E)) (Cx.xe (cxOf (L2.CX P w) P w K mg base ["lot", "n", "due"] "_law_is_lot_b" (defScope s__law_is_lot_b) f cdv A outer st H E)) := passes_of (X := (cxOf (L2.CX P w) P w K mg base ["lot", "n", "due"] "_law_is_lot_b" (defScope s__law_is_lot_b) f cdv A outer st H E)) rfl
  have nd : (["lot", "n", "due"] : List Str).Nodup := by decide
  exact (vss_cons (vs_if (vt_w (vw_or (vt_not (vt_ofB (VLr.toB (VE.toL (ve_isC s.lib (c0 := 0) (show (0 : Nat) < 1 by decide) rfl s.n_isinstance rfl s.g_Lot (vl_var (i := 0))))))) (vw_or (vt_not (vt_ofB (VLr.toB (VE.toL (ve_call C__law_same_2 hr0 tk rfl s.g__law_same (va_cons (ve_fld s.lib (vb_var (i := 0)) (fl_hours K)) (va_cons (ve_var (i := 1)) va_nil))))))) (vw_one' (vt_not (vt_ofB (VLr.toB (VE.toL (ve_call C__law_same_2 hr0 tk rfl s.g__law_same (va_cons (ve_prop s.lib (ve_var (i := 0)) s.p_Lot_members P_Lot_members hr1) (va_cons (ve_var (i := 2)) va_nil))))))))))) (vss_one (vs_ret ve_bl)) vss_nil)
    (vss_one (vs_ret (ve_cmp (opv_eq ⟨s.lib, tk, hr, du⟩) (ve_blt (cv_len ⟨s.lib, tk, hr, du⟩) rfl s.n_len (by decide +kernel) (vab_cons (vl_var (i := 0)) vab_nil)) (ve_blt (cv_len ⟨s.lib, tk, hr, du⟩) rfl s.n_len (by decide +kernel) (vab_cons (vl_var (i := 2)) vab_nil)) (nomark _)))))
theorem d__law_moved {P : Program} {w : World} {K : PySem.W.Frag} {mg : Str → Option Value} {base : Heap} (s : Sx K mg) {r : Nat} (C__law_is_lot_b_3 : FnV P w K mg base (tab K) r (ga K "_law_is_lot_b") [false, false, false] [] sp__law_is_lot_b) (du : ∀ c m sp, dnL c m = some sp → c < (tab K).n → DnOk P w K mg base (tab K) r c m m.ms sp) {f : Addr} {cdv : Value} {A : Around} {outer : List Env} {st : Shared} {H : Hp} {E : XK} (hr : Room (r + 2) (A.deeper (envOfC "_law_moved" (defScope s__law_moved) st.heap.objs.size f cdv))) :
    VSs (cxOf (L2.CX P w) P w K mg base ["lot", "n", "members", "by", "marks", "h"] "_law_moved" (defScope s__law_moved) f cdv A outer st H E) (tab K) (fun cls d _ H => E cls d H) z0 (defBody s__law_moved) t__law_moved := by
  have hr0 := hr.mono (Nat.le_add_right r 2)
  have hr1 := hr.mono (show r + 1 ≤ r + 2 by omega)
  have tk : Takes (cxOf (L2.CX P w) P w K mg base ["lot", "n", "members", "by", "marks", "h"] "_law_moved" (defScope s__law_moved) f cdv A outer st H E) (fun cls d _ H => E cls d H) := takes_of rfl rfl rfl rfl
  have po : PassesOwn (model P w) (Cx.A (cxOf (L2.CX P w) P w K mg base ["lot", "n", "members", "by", "marks", "h"] "_law_moved" (defScope s__law_moved) f cdv A outer st H E)) (Cx.env (cxOf (L2.CX P w) P w K mg base ["lot", "n", "members", "by", "marks", "h"] "_law_moved" (defScope s__law_moved) f cdv A outer st H E)) (Cx.xe (cxOf (L2.CX P w) P w K mg base ["lot", "n", "members", "by", "marks", "h"] "_law_moved" (defScope s__law_moved) f cdv A outer st H E)) := passes_of (X := (cxOf (L2.CX P w) P w K mg base ["lot", "n", "members", "by", "marks", "h"] "_law_moved" (defScope s__law_moved) f cdv A outer st H E)) rfl
  have nd : (["lot", "n", "members", "by", "marks", "h"] : List Str).Nodup := by decide
  exact (vss_cons (by first | exact vs_setLc (i := 4) (own := [("h", 5)]) rfl nd (vi_rng1 rfl s.n_range (ve_var (i := 1))) (blkOk_by (by kernel_rfl)) (fun _ _ _ _ _ => (vgw_nm nd (i := 5))) (fun _ _ _ _ _ => vts_nil) (fun _ _ _ _ _ => (ve_cmp (opv_in ⟨s.lib, takes_no, hr, du⟩) (ve_var (i := 5)) (ve_var (i := 2)) (by with_unfolding_all rfl))) (sw_true rfl rfl rfl (by decide +kernel)) | exact vs_set nd (i := 4) (ve_lc (own := [("h", 5)]) rfl nd (vi_rng1 rfl s.n_range (ve_var (i := 1))) (blkOk_by (by kernel_rfl)) (fun _ _ _ _ _ => (vgw_nm nd (i := 5))) (fun _ _ _ _ _ => vts_nil) (fun _ _ _ _ _ => (ve_cmp (opv_in ⟨s.lib, takes_no, hr, du⟩) (ve_var (i := 5)) (ve_var (i := 2)) (by with_unfolding_all rfl)))))
    (vss_cons (vs_if (vt_not (vt_ofB (VLr.toB (VE.toL (ve_call C__law_is_lot_b_3 hr0 tk rfl s.g__law_is_lot_b (va_cons (ve_bin (opv_lsh ⟨s.lib, tk, hr, du⟩) (ve_var (i := 0)) (ve_var (i := 3))) (va_cons (ve_var (i := 1)) (va_cons (ve_lc (own := [("h", 5)]) rfl nd (vi_rng1 rfl s.n_range (ve_var (i := 1))) (blkOk_by (by kernel_rfl)) (fun _ _ _ _ _ => (vgw_nm nd (i := 5))) (fun _ _ _ _ _ => (vts_one (vt_ofB (VLr.toB (VE.toL (ve_ix (vl_var (i := 4)) (ve_bin (opv_mod ⟨s.lib, takes_no, hr, du⟩) (ve_bltT (cv_int) rfl s.n_int (by decide +kernel) (vab_cons (VE.toL (ve_bin (opv_sub ⟨s.lib, takes_no, hr, du⟩) (ve_var (i := 5)) (ve_var (i := 3)))) vab_nil)) (ve_var (i := 1))))))))) (fun _ _ _ _ _ => (ve_var (i := 5)))) va_nil)))))))) (vss_one (vs_ret ve_bl)) vss_nil)
    (vss_cons (vs_if (vt_not (vt_ofB (VLr.toB (VE.toL (ve_call C__law_is_lot_b_3 hr0 tk rfl s.g__law_is_lot_b (va_cons (ve_bin (opv_rsh ⟨s.lib, tk, hr, du⟩) (ve_var (i := 0)) (ve_var (i := 3))) (va_cons (ve_var (i := 1)) (va_cons (ve_lc (own := [("h", 5)]) rfl nd (vi_rng1 rfl s.n_range (ve_var (i := 1))) (blkOk_by (by kernel_rfl)) (fun _ _ _ _ _ => (vgw_nm nd (i := 5))) (fun _ _ _ _ _ => (vts_one (vt_ofB (VLr.toB (VE.toL (ve_ix (vl_var (i := 4)) (ve_bin (opv_mod ⟨s.lib, takes_no, hr, du⟩) (ve_bltT (cv_int) rfl s.n_int (by decide +kernel) (vab_cons (VE.toL (ve_bin (opv_add ⟨s.lib, takes_no, hr, du⟩) (ve_var (i := 5)) (ve_var (i := 3)))) vab_nil)) (ve_var (i := 1))))))))) (fun _ _ _ _ _ => (ve_var (i := 5)))) va_nil)))))))) (vss_one (vs_ret ve_bl)) vss_nil)
    (vss_cons (vs_if (vt_not (vt_ofB (VLr.toB (VE.toL (ve_call C__law_is_lot_b_3 hr0 tk rfl s.g__law_is_lot_b (va_cons (ve_un (opu_neg ⟨s.lib, tk, hr, du⟩) (ve_var (i := 0))) (va_cons (ve_var (i := 1)) (va_cons (ve_lc (own := [("h", 5)]) rfl nd (vi_rng1 rfl s.n_range (ve_var (i := 1))) (blkOk_by (by kernel_rfl)) (fun _ _ _ _ _ => (vgw_nm nd (i := 5))) (fun _ _ _ _ _ => (vts_one (vt_ofB (VLr.toB (VE.toL (ve_ix (vl_var (i := 4)) (ve_bin (opv_mod ⟨s.lib, takes_no, hr, du⟩) (ve_bltT (cv_int) rfl s.n_int (by decide +kernel) (vab_cons (VE.toL (ve_bin (opv_sub ⟨s.lib, takes_no, hr, du⟩) ve_int (ve_var (i := 5)))) vab_nil)) (ve_var (i := 1))))))))) (fun _ _ _ _ _ => (ve_var (i := 5)))) va_nil)))))))) (vss_one (vs_ret ve_bl)) vss_nil)
    (vss_cons (vs_if (vt_not (vt_ofB (VLr.toB (VE.toL (ve_call C__law_is_lot_b_3 hr0 tk rfl s.g__law_is_lot_b (va_cons (ve_un (opu_inv ⟨s.lib, tk, hr, du⟩) (ve_var (i := 0))) (va_cons (ve_var (i := 1)) (va_cons (ve_lc (own := [("h", 5)]) rfl nd (vi_rng1 rfl s.n_range (ve_var (i := 1))) (blkOk_by (by kernel_rfl)) (fun _ _ _ _ _ => (vgw_nm nd (i := 5))) (fun _ _ _ _ _ => (vts_one (vt_not (vt_ofB (VLr.toB (VE.toL (ve_ix (vl_var (i := 4)) (ve_var (i := 5))))))))) (fun _ _ _ _ _ => (ve_var (i := 5)))) va_nil)))))))) (vss_one (vs_ret ve_bl)) vss_nil)
    (vss_cons (vs_if (vt_w (vw_or (vt_cmpB opb_isNot (VE.toB (ve_cmp (opv_eq ⟨s.lib, tk, hr, du⟩) (ve_bin (opv_rsh ⟨s.lib, tk, hr, du⟩) (ve_bin (opv_lsh ⟨s.lib, tk, hr, du⟩) (ve_var (i := 0)) (ve_var (i := 3))) (ve_var (i := 3))) (ve_var (i := 0)) (nomark _))) (VE.toB ve_bl) (nomark _)) (vw_one' (vt_cmpB opb_isNot (VE.toB (ve_cmp (opv_eq ⟨s.lib, tk, hr, du⟩) (ve_un (opu_neg ⟨s.lib, tk, hr, du⟩) (ve_un (opu_neg ⟨s.lib, tk, hr, du⟩) (ve_var (i := 0)))) (ve_var (i := 0)) (nomark _))) (VE.toB ve_bl) (nomark _))))) (vss_one (vs_ret ve_bl)) vss_nil)
    (vss_one (vs_ret (ve_cmpB opb_is (VE.toB (ve_cmp (opv_eq ⟨s.lib, tk, hr, du⟩) (ve_un (opu_inv ⟨s.lib, tk, hr, du⟩) (ve_un (opu_inv ⟨s.lib, tk, hr, du⟩) (ve_var (i := 0)))) (ve_var (i := 0)) (nomark _))) (VE.toB ve_bl) (nomark _))))))))))
theorem d__law_joined {P : Program} {w : World} {K : PySem.W.Frag} {mg : Str → Option Value} {base : Heap} (s : Sx K mg) {r : Nat} (C__law_is_lot_b_3 : FnV P w K mg base (tab K) r (ga K "_law_is_lot_b") [false, false, false] [] sp__law_is_lot_b) (du : ∀ c m sp, dnL c m = some sp → c < (tab K).n → DnOk P w K mg base (tab K) r c m m.ms sp) {f : Addr} {cdv : Value} {A : Around} {outer : List Env} {st : Shared} {H : Hp} {E : XK} (hr : Room (r + 2) (A.deeper (envOfC "_law_joined" (defScope s__law_joined) st.heap.objs.size f cdv))) :
    VSs (cxOf (L2.CX P w) P w K mg base ["one", "two", "n", "first", "second", "either", "both", "h"] "_law_joined" (defScope s__law_joined) f cdv A outer st H E) (tab K) (fun cls d _ H => E cls d H) z0 (defBody s__law_joined) t__law_joined := by
  have hr0 := hr.mono (Nat.le_add_right r 2)
  have hr1 := hr.mono (show r + 1 ≤ r + 2 by omega)
  have tk : Takes (cxOf (L2.CX P w) P w K mg base ["one", "two", "n", "first", "second", "either", "both", "h"] "_law_joined" (defScope s__law_joined) f cdv A outer st H E) (fun cls d _ H => E cls d H) := takes_of rfl rfl rfl rfl
  have po : PassesOwn (model P w) (Cx.A (cxOf (L2.CX P w) P w K mg base ["one", "two", "n", "first", "second", "either", "both", "h"] "_law_joined" (defScope s__law_joined) f cdv A outer st H E)) (Cx.env (cxOf (L2.CX P w) P w K mg base ["one", "two", "n", "first", "second", "either", "both", "h"] "_law_joined" (defScope s__law_joined) f cdv A outer st H E)) (Cx.xe (cxOf (L2.CX P w) P w K mg base ["one", "two", "n", "first", "second", "either", "both", "h"] "_law_joined" (defScope s__law_joined) f cdv A outer st H E)) := passes_of (X := (cxOf (L2.CX P w) P w K mg base ["one", "two", "n", "first", "second", "either", "both", "h"] "_law_joined" (defScope s__law_joined) f cdv A outer st H E)) rfl
  have nd : (["one", "two", "n", "first", "second", "either", "both", "h"] : List Str).Nodup := by decide
  exact (vss_cons (by first | exact vs_setLc (i := 5) (own := [("h", 7)]) rfl nd (vi_rng1 rfl s.n_range (ve_var (i := 2))) (blkOk_by (by kernel_rfl)) (fun _ _ _ _ _ => (vgw_nm nd (i := 7))) (fun _ _ _ _ _ => (vts_one (vt_w (vw_or (vt_cmp (opv_in ⟨s.lib, takes_no, hr, du⟩) (ve_var (i := 7)) (ve_var (i := 3)) (by with_unfolding_all rfl)) (vw_one' (vt_cmp (opv_in ⟨s.lib, takes_no, hr, du⟩) (ve_var (i := 7)) (ve_var (i := 4)) (by with_unfolding_all rfl))))))) (fun _ _ _ _ _ => (ve_var (i := 7))) (sw_true rfl rfl rfl (by decide +kernel)) | exact vs_set nd (i := 5) (ve_lc (own := [("h", 7)]) rfl nd (vi_rng1 rfl s.n_range (ve_var (i := 2))) (blkOk_by (by kernel_rfl)) (fun _ _ _ _ _ => (vgw_nm nd (i := 7))) (fun _ _ _ _ _ => (vts_one (vt_w (vw_or (vt_cmp (opv_in ⟨s.lib, takes_no, hr, du⟩) (ve_var (i := 7)) (ve_var (i := 3)) (by with_unfolding_all rfl)) (vw_one' (vt_cmp (opv_in ⟨s.lib, takes_no, hr, du⟩) (ve_var (i := 7)) (ve_var (i := 4)) (by with_unfolding_all rfl))))))) (fun _ _ _ _ _ => (ve_var (i := 7)))))
    (vss_cons (by first | exact vs_setLc (i := 6) (own := [("h", 7)]) rfl nd (vi_seq (ve_var (i := 3))) (blkOk_by (by kernel_rfl)) (fun _ _ _ _ _ => (vgw_nm nd (i := 7))) (fun _ _ _ _ _ => (vts_one (vt_cmp (opv_in ⟨s.lib, takes_no, hr, du⟩) (ve_var (i := 7)) (ve_var (i := 4)) (by with_unfolding_all rfl)))) (fun _ _ _ _ _ => (ve_var (i := 7))) (sw_true rfl rfl rfl (by decide +kernel)) | exact vs_set nd (i := 6) (ve_lc (own := [("h", 7)]) rfl nd (vi_seq (ve_var (i := 3))) (blkOk_by (by kernel_rfl)) (fun _ _ _ _ _ => (vgw_nm nd (i := 7))) (fun _ _ _ _ _ => (vts_one (vt_cmp (opv_in ⟨s.lib, takes_no, hr, du⟩) (ve_var (i := 7)) (ve_var (i := 4)) (by with_unfolding_all rfl)))) (fun _ _ _ _ _ => (ve_var (i := 7)))))
    (vss_cons (vs_if (vt_w (vw_or (vt_not (vt_ofB (VLr.toB (VE.toL (ve_call C__law_is_lot_b_3 hr0 tk rfl s.g__law_is_lot_b (va_cons (ve_bin (opv_bor ⟨s.lib, tk, hr, du⟩) (ve_var (i := 0)) (ve_var (i := 1))) (va_cons (ve_var (i := 2)) (va_cons (ve_var (i := 5)) va_nil)))))))) (vw_one' (vt_not (vt_ofB (VLr.toB (VE.toL (ve_call C__law_is_lot_b_3 hr0 tk rfl s.g__law_is_lot_b (va_cons (ve_bin (opv_bor ⟨s.lib, tk, hr, du⟩) (ve_var (i := 1)) (ve_var (i := 0))) (va_cons (ve_var (i := 2)) (va_cons (ve_var (i := 5)) va_nil))))))))))) (vss_one (vs_ret ve_bl)) vss_nil)
    (vss_one (vs_ret (ve_and (ve_call C__law_is_lot_b_3 hr0 tk rfl s.g__law_is_lot_b (va_cons (ve_bin (opv_band ⟨s.lib, tk, hr, du⟩) (ve_var (i := 0)) (ve_var (i := 1))) (va_cons (ve_var (i := 2)) (va_cons (ve_var (i := 6)) va_nil)))) (ve_one (ve_call C__law_is_lot_b_3 hr0 tk rfl s.g__law_is_lot_b (va_cons (ve_bin (opv_band ⟨s.lib, tk, hr, du⟩) (ve_var (i := 1)) (ve_var (i := 0))) (va_cons (ve_var (i := 2)) (va_cons (ve_var (i := 6)) va_nil)))))))))))
theorem d__law_kept_apart {P : Program} {w : World} {K : PySem.W.Frag} {mg : Str → Option Value} {base : Heap} (s : Sx K mg) {r : Nat}  (du : ∀ c m sp, dnL c m = some sp → c < (tab K).n → DnOk P w K mg base (tab K) r c m m.ms sp) {f : Addr} {cdv : Value} {A : Around} {outer : List Env} {st : Shared} {H : Hp} {E : XK} (hr : Room (r + 2) (A.deeper (envOfC "_law_kept_apart" (defScope s__law_kept_apart) st.heap.objs.size f cdv))) :
    VSs (cxOf (L2.CX P w) P w K mg base ["one", "two", "way", "told", "found", "e"] "_law_kept_apart" (defScope s__law_kept_apart) f cdv A outer st H E) (tab K) (fun cls d _ H => E cls d H) z0 (defBody s__law_kept_apart) t__law_kept_apart := by
  have hr0 := hr.mono (Nat.le_add_right r 2)
  have hr1 := hr.mono (show r + 1 ≤ r + 2 by omega)
  have tk : Takes (cxOf (L2.CX P w) P w K mg base ["one", "two", "way", "told", "found", "e"] "_law_kept_apart" (defScope s__law_kept_apart) f cdv A outer st H E) (fun cls d _ H => E cls d H) := takes_of rfl rfl rfl rfl
  have po : PassesOwn (model P w) (Cx.A (cxOf (L2.CX P w) P w K mg base ["one", "two", "way", "told", "found", "e"] "_law_kept_apart" (defScope s__law_kept_apart) f cdv A outer st H E)) (Cx.env (cxOf (L2.CX P w) P w K mg base ["one", "two", "way", "told", "found", "e"] "_law_kept_apart" (defScope s__law_kept_apart) f cdv A outer st H E)) (Cx.xe (cxOf (L2.CX P w) P w K mg base ["one", "two", "way", "told", "found", "e"] "_law_kept_apart" (defScope s__law_kept_apart) f cdv A outer st H E)) := passes_of (X := (cxOf (L2.CX P w) P w K mg base ["one", "two", "way", "told", "found", "e"] "_law_kept_apart" (defScope s__law_kept_apart) f cdv A outer st H E)) rfl
  have nd : (["one", "two", "way", "told", "found", "e"] : List Str).Nodup := by decide
  exact (vss_cons (vs_set nd (i := 3) (ve_lst va_nil))
    (vss_cons (vs_set nd (i := 4) ve_non)
    (vss_cons (vs_tryAs (i := 5) rfl rfl nd ⟨rfl, by decide, .inl s.g_WatchError⟩ tk s.e_WatchError (fun W pn xe tk po => (vss_one (vs_if (vt_cmp (opv_eq ⟨s.lib, tk, hr, du⟩) (ve_var (i := 2)) ve_int (nomark _)) (vss_one (vs_set nd (i := 4) (ve_bin (opv_bor ⟨s.lib, tk, hr, du⟩) (ve_var (i := 0)) (ve_var (i := 1))))) (vss_one (vs_set nd (i := 4) (ve_bin (opv_band ⟨s.lib, tk, hr, du⟩) (ve_var (i := 0)) (ve_var (i := 1)))))))) (fun a oe cls d pn hz hf => (vss_cons (vs_set nd (i := 3) (ve_lst (va_cons (ve_isX (i := 5) (cvV := .ref (ga K "OtherHours")) (cv := .ref (ga K "OtherHours")) hz hf (fun u h => h) s.x_OtherHours rfl s.n_isinstance (pe_glob rfl s.g_OtherHours rfl)) (va_cons (ve_isX (i := 5) (cvV := .ty "ValueError") (cv := .type "ValueError") hz hf (fun u h => h) s.x_ValueError rfl s.n_isinstance (pe_bltn (v := .ty "ValueError") rfl s.n_ValueError (by decide +kernel) rfl)) (va_cons (ve_isX (i := 5) (cvV := .ref (ga K "OtherHouse")) (cv := .ref (ga K "OtherHouse")) hz hf (fun u h => h) s.x_OtherHouse rfl s.n_isinstance (pe_glob rfl s.g_OtherHouse rfl)) (va_cons (ve_isX (i := 5) (cvV := .ref (ga K "Meets")) (cv := .ref (ga K "Meets")) hz hf (fun u h => h) s.x_Meets rfl s.n_isinstance (pe_glob rfl s.g_Meets rfl)) va_nil))))))
    (vss_one (vs_set nd (i := 3) (ve_binB opb_addF (vb_var (i := 3)) (VE.toB (ve_lst (va_cons (ve_isX (i := 5) (cvV := .ref (ga K "NotADivisor")) (cv := .ref (ga K "NotADivisor")) hz hf (fun u h => h) s.x_NotADivisor rfl s.n_isinstance (pe_glob rfl s.g_NotADivisor rfl)) va_nil)))))))))
    (vss_one (vs_ret (ve_and (ve_cmpB opb_is (vb_var (i := 4)) (VE.toB ve_non) (nomark _)) (ve_one (ve_cmp (opv_eq ⟨s.lib, tk, hr, du⟩) (ve_var (i := 3)) (ve_lst (va_cons ve_bl (va_cons ve_bl (va_cons ve_bl (va_cons ve_bl (va_cons ve_bl va_nil)))))) (nomark _)))))))))
theorem d__law_part_b {P : Program} {w : World} {K : PySem.W.Frag} {mg : Str → Option Value} {base : Heap} (s : Sx K mg) {r : Nat} (C__law_cell_2 : FnV P w K mg base (tab K) r (ga K "_law_cell") [false, false] [] sp__law_cell) (C__law_draws_3 : FnV P w K mg base (tab K) r (ga K "_law_draws") [false, false, false] [] sp__law_draws) (C__law_drawn_lot_4 : FnV P w K mg base (tab K) r (ga K "_law_drawn_lot") [false, false, false, false] [] sp__law_drawn_lot) (C__law_other_ring_2 : FnV P w K mg base (tab K) r (ga K "_law_other_ring") [false, false] [] sp__law_other_ring) (C__law_turn_4 : FnV P w K mg base (tab K) r (ga K "_law_turn") [false, false, false, false] [] sp__law_turn) (M_Lot_2 : MkV P w K mg base (tab K) r 0 [false, true] [] sp_Lot___init__) (C__law_moved_4 : FnV P w K mg base (tab K) r (ga K "_law_moved") [false, false, false, false] [] sp__law_moved) (C__law_joined_5 : FnV P w K mg base (tab K) r (ga K "_law_joined") [false, false, false, false, false] [] sp__law_joined) (C__law_kept_apart_3 : FnV P w K mg base (tab K) r (ga K "_law_kept_apart") [false, false, false] [] sp__law_kept_apart) (C__law_is_lot_b_3 : FnV P w K mg base (tab K) r (ga K "_law_is_lot_b") [false, false, false] [] sp__law_is_lot_b) (du : ∀ c m sp, dnL c m = some sp → c < (tab K).n → DnOk P w K mg base (tab K) r c m m.ms sp) {f : Addr} {cdv : Value} {A : Around} {outer : List Env} {st : Shared} {H : Hp} {E : XK} (hr : Room (r + 2) (A.deeper (envOfC "_law_part_b" (defScope s__law_part_b) st.heap.objs.size f cdv))) :
    VSs (cxOf (L2.CX P w) P w K mg base ["script", "ways", "n", "first", "ring", "second", "by", "one", "two", "grown", "h"] "_law_part_b" (defScope s__law_part_b) f cdv A outer st H E) (tab K) (fun cls d _ H => E cls d H) z0 (defBody s__law_part_b) t__law_part_b := by
  have hr0 := hr.mono (Nat.le_add_right r 2)
  have hr1 := hr.mono (show r + 1 ≤ r + 2 by omega)
  have tk : Takes (cxOf (L2.CX P w) P w K mg base ["script", "ways", "n", "first", "ring", "second", "by", "one", "two", "grown", "h"] "_law_part_b" (defScope s__law_part_b) f cdv A outer st H E) (fun cls d _ H => E cls d H) := takes_of rfl rfl rfl rfl
  have po : PassesOwn (model P w) (Cx.A (cxOf (L2.CX P w) P w K mg base ["script", "ways", "n", "first", "ring", "second", "by", "one", "two", "grown", "h"] "_law_part_b" (defScope s__law_part_b) f cdv A outer st H E)) (Cx.env (cxOf (L2.CX P w) P w K mg base ["script", "ways", "n", "first", "ring", "second", "by", "one", "two", "grown", "h"] "_law_part_b" (defScope s__law_part_b) f cdv A outer st H E)) (Cx.xe (cxOf (L2.CX P w) P w K mg base ["script", "ways", "n", "first", "ring", "second", "by", "one", "two", "grown", "h"] "_law_part_b" (defScope s__law_part_b) f cdv A outer st H E)) := passes_of (X := (cxOf (L2.CX P w) P w K mg base ["script", "ways", "n", "first", "ring", "second", "by", "one", "two", "grown", "h"] "_law_part_b" (defScope s__law_part_b) f cdv A outer st H E)) rfl
  have nd : (["script", "ways", "n", "first", "ring", "second", "by", "one", "two", "grown", "h"] : List Str).Nodup := by decide
  exact (vss_cons (vs_set nd (i := 1) (ve_call C__law_draws_3 hr0 tk rfl s.g__law_draws (va_cons (ve_call C__law_cell_2 hr0 tk rfl s.g__law_cell (va_cons (ve_var (i := 0)) (va_cons ve_int va_nil))) (va_cons ve_int (va_cons (ve_lst (va_cons ve_int (va_cons ve_int (va_cons ve_int (va_cons ve_int (va_cons ve_int (va_cons ve_int (va_cons ve_int (va_cons ve_int va_nil))))))))) va_nil)))))
    (vss_cons (vs_set nd (i := 2) (ve_bin (opv_add ⟨s.lib, tk, hr, du⟩) ve_int (ve_ix (vl_var (i := 1)) ve_int)))
    (vss_cons (vs_if (vt_cmp (opv_eq ⟨s.lib, tk, hr, du⟩) (ve_ix (vl_var (i := 1)) ve_int) ve_int (nomark _)) (vss_one (vs_set nd (i := 2) (ve_bin (opv_add ⟨s.lib, tk, hr, du⟩) ve_int (ve_ix (vl_var (i := 1)) ve_int)))) vss_nil)
    (vss_cons (vs_set nd (i := 3) (ve_call C__law_drawn_lot_4 hr0 tk rfl s.g__law_drawn_lot (va_cons (ve_call C__law_cell_2 hr0 tk rfl s.g__law_cell (va_cons (ve_var (i := 0)) (va_cons ve_int va_nil))) (va_cons ve_int (va_cons (ve_var (i := 2)) (va_cons (ve_ix (vl_var (i := 1)) ve_int) va_nil))))))
    (vss_cons (vs_set nd (i := 4) (ve_call C__law_other_ring_2 hr0 tk rfl s.g__law_other_ring (va_cons (ve_var (i := 2)) (va_cons (ve_ix (vl_var (i := 1)) ve_int) va_nil))))
    (vss_cons (vs_set nd (i := 5) (ve_call C__law_drawn_lot_4 hr0 tk rfl s.g__law_drawn_lot (va_cons (ve_call C__law_cell_2 hr0 tk rfl s.g__law_cell (va_cons (ve_var (i := 0)) (va_cons ve_int va_nil))) (va_cons ve_int (va_cons (ve_var (i := 4)) (va_cons (ve_ix (vl_var (i := 1)) ve_int) va_nil))))))
    (vss_cons (vs_if (vt_cmp (opv_eq ⟨s.lib, tk, hr, du⟩) (ve_ix (vl_var (i := 1)) ve_int) ve_int (nomark _)) (vss_one (by first | exact vs_setLc (i := 5) (own := [("h", 10)]) rfl nd (vi_seq (ve_var (i := 3))) (blkOk_by (by kernel_rfl)) (fun _ _ _ _ _ => (vgw_nm nd (i := 10))) (fun _ _ _ _ _ => (vts_one (vt_cmp (opv_lt ⟨s.lib, takes_no, hr, du⟩) (ve_var (i := 10)) (ve_var (i := 4)) (nomark _)))) (fun _ _ _ _ _ => (ve_var (i := 10))) (sw_true rfl rfl rfl (by decide +kernel)) | exact vs_set nd (i := 5) (ve_lc (own := [("h", 10)]) rfl nd (vi_seq (ve_var (i := 3))) (blkOk_by (by kernel_rfl)) (fun _ _ _ _ _ => (vgw_nm nd (i := 10))) (fun _ _ _ _ _ => (vts_one (vt_cmp (opv_lt ⟨s.lib, takes_no, hr, du⟩) (ve_var (i := 10)) (ve_var (i := 4)) (nomark _)))) (fun _ _ _ _ _ => (ve_var (i := 10)))))) vss_nil)
    (vss_cons (vs_if (vt_cmp (opv_eq ⟨s.lib, tk, hr, du⟩) (ve_ix (vl_var (i := 1)) ve_int) ve_int (nomark _)) (vss_one (by first | exact vs_setLc (i := 5) (own := [("h", 10)]) rfl nd (vi_rng1 rfl s.n_range (ve_var (i := 4))) (blkOk_by (by kernel_rfl)) (fun _ _ _ _ _ => (vgw_nm nd (i := 10))) (fun _ _ _ _ _ => (vts_one (vt_cmp (opv_notIn ⟨s.lib, takes_no, hr, du⟩) (ve_var (i := 10)) (ve_var (i := 3)) (by with_unfolding_all rfl)))) (fun _ _ _ _ _ => (ve_var (i := 10))) (sw_true rfl rfl rfl (by decide +kernel)) | exact vs_set nd (i := 5) (ve_lc (own := [("h", 10)]) rfl nd (vi_rng1 rfl s.n_range (ve_var (i := 4))) (blkOk_by (by kernel_rfl)) (fun _ _ _ _ _ => (vgw_nm nd (i := 10))) (fun _ _ _ _ _ => (vts_one (vt_cmp (opv_notIn ⟨s.lib, takes_no, hr, du⟩) (ve_var (i := 10)) (ve_var (i := 3)) (by with_unfolding_all rfl)))) (fun _ _ _ _ _ => (ve_var (i := 10)))))) vss_nil)
    (vss_cons (vs_set nd (i := 6) (ve_call C__law_turn_4 hr0 tk rfl s.g__law_turn (va_cons (ve_var (i := 0)) (va_cons (ve_var (i := 2)) (va_cons (ve_ix (vl_var (i := 1)) ve_int) (va_cons (ve_ix (vl_var (i := 1)) ve_int) va_nil))))))
    (vss_cons (vs_set nd (i := 7) (ve_make M_Lot_2 hr1 tk rfl s.g_Lot (va_cons (ve_var (i := 2)) (va_consB (VE.toB (ve_bltT (cv_list) rfl s.n_list (by decide +kernel) (vab_cons (vl_var (i := 3)) vab_nil))) va_nil))))
    (vss_cons (vs_set nd (i := 8) (ve_make M_Lot_2 hr1 tk rfl s.g_Lot (va_cons (ve_var (i := 4)) (va_consB (VE.toB (ve_bltT (cv_list) rfl s.n_list (by decide +kernel) (vab_cons (vl_var (i := 5)) vab_nil))) va_nil))))
    (vss_cons (vs_if (vt_w (vw_or (vt_not (vt_ofB (VLr.toB (VE.toL (ve_call C__law_moved_4 hr0 tk rfl s.g__law_moved (va_cons (ve_var (i := 7)) (va_cons (ve_var (i := 2)) (va_cons (ve_var (i := 3)) (va_cons (ve_var (i := 6)) va_nil))))))))) (vw_one' (vt_not (vt_ofB (VLr.toB (VE.toL (ve_call C__law_moved_4 hr0 tk rfl s.g__law_moved (va_cons (ve_var (i := 8)) (va_cons (ve_var (i := 4)) (va_cons (ve_var (i := 5)) (va_cons (ve_var (i := 6)) va_nil)))))))))))) (vss_one (vs_ret ve_bl)) vss_nil)
    (vss_cons (vs_if (vt_w (vw_and (vt_cmp (opv_eq ⟨s.lib, tk, hr, du⟩) (ve_var (i := 2)) (ve_var (i := 4)) (nomark _)) (vw_one (vt_not (vt_ofB (VLr.toB (VE.toL (ve_call C__law_joined_5 hr0 tk rfl s.g__law_joined (va_cons (ve_var (i := 7)) (va_cons (ve_var (i := 8)) (va_cons (ve_var (i := 2)) (va_cons (ve_var (i := 3)) (va_cons (ve_var (i := 5)) va_nil))))))))))))) (vss_one (vs_ret ve_bl)) vss_nil)
    (vss_cons (vs_if (vt_cmp (opv_ne ⟨s.lib, tk, hr, du⟩) (ve_var (i := 2)) (ve_var (i := 4)) (nomark _)) (vss_cons (vs_if (vt_w (vw_or (vt_not (vt_ofB (VLr.toB (VE.toL (ve_call C__law_kept_apart_3 hr0 tk rfl s.g__law_kept_apart (va_cons (ve_var (i := 7)) (va_cons (ve_var (i := 8)) (va_cons ve_int va_nil)))))))) (vw_one' (vt_not (vt_ofB (VLr.toB (VE.toL (ve_call C__law_kept_apart_3 hr0 tk rfl s.g__law_kept_apart (va_cons (ve_var (i := 8)) (va_cons (ve_var (i := 7)) (va_cons ve_int va_nil))))))))))) (vss_one (vs_ret ve_bl)) vss_nil)
    (vss_one (vs_if (vt_w (vw_or (vt_not (vt_ofB (VLr.toB (VE.toL (ve_call C__law_kept_apart_3 hr0 tk rfl s.g__law_kept_apart (va_cons (ve_var (i := 7)) (va_cons (ve_var (i := 8)) (va_cons ve_int va_nil)))))))) (vw_one' (vt_not (vt_ofB (VLr.toB (VE.toL (ve_call C__law_kept_apart_3 hr0 tk rfl s.g__law_kept_apart (va_cons (ve_var (i := 8)) (va_cons (ve_var (i := 7)) (va_cons ve_int va_nil))))))))))) (vss_one (vs_ret ve_bl)) vss_nil))) vss_nil)
    (vss_cons (vs_set nd (i := 9) (ve_var (i := 7)))
    (vss_cons (vs_aug nd (i := 9) (opv_ilsh ⟨s.lib, tk, hr, du⟩) (ve_var (i := 6)))
    (vss_cons (vs_if (vt_w (vw_or (vt_not (vt_ofB (VLr.toB (VE.toL (ve_call C__law_is_lot_b_3 hr0 tk rfl s.g__law_is_lot_b (va_cons (ve_var (i := 9)) (va_cons (ve_var (i := 2)) (va_cons (ve_blt (cv_sorted) rfl s.n_sorted (by decide +kernel) (vab_cons (VE.toL (ve_lc (own := [("h", 10)]) rfl nd (vi_seq (ve_var (i := 3))) (blkOk_by (by kernel_rfl)) (fun _ _ _ _ _ => (vgw_nm nd (i := 10))) (fun _ _ _ _ _ => vts_nil) (fun _ _ _ _ _ => (ve_bltT (cv_int) rfl s.n_int (by decide +kernel) (vab_cons (VE.toL (ve_bin (opv_mod ⟨s.lib, takes_no, hr, du⟩) (ve_bltT (cv_int) rfl s.n_int (by decide +kernel) (vab_cons (VE.toL (ve_bin (opv_add ⟨s.lib, takes_no, hr, du⟩) (ve_var (i := 10)) (ve_var (i := 6)))) vab_nil)) (ve_var (i := 2)))) vab_nil))))) vab_nil)) va_nil)))))))) (vw_one' (vt_not (vt_ofB (VLr.toB (VE.toL (ve_call C__law_is_lot_b_3 hr0 tk rfl s.g__law_is_lot_b (va_cons (ve_var (i := 7)) (va_cons (ve_var (i := 2)) (va_cons (ve_var (i := 3)) va_nil))))))))))) (vss_one (vs_ret ve_bl)) vss_nil)
    (vss_cons (vs_set nd (i := 9) (ve_var (i := 7)))
    (vss_cons (vs_aug nd (i := 9) (opv_irsh ⟨s.lib, tk, hr, du⟩) (ve_var (i := 6)))
    (vss_cons (vs_if (vt_w (vw_or (vt_not (vt_ofB (VLr.toB (VE.toL (ve_call C__law_is_lot_b_3 hr0 tk rfl s.g__law_is_lot_b (va_cons (ve_var (i := 9)) (va_cons (ve_var (i := 2)) (va_cons (ve_blt (cv_sorted) rfl s.n_sorted (by decide +kernel) (vab_cons (VE.toL (ve_lc (own := [("h", 10)]) rfl nd (vi_seq (ve_var (i := 3))) (blkOk_by (by kernel_rfl)) (fun _ _ _ _ _ => (vgw_nm nd (i := 10))) (fun _ _ _ _ _ => vts_nil) (fun _ _ _ _ _ => (ve_bltT (cv_int) rfl s.n_int (by decide +kernel) (vab_cons (VE.toL (ve_bin (opv_mod ⟨s.lib, takes_no, hr, du⟩) (ve_bltT (cv_int) rfl s.n_int (by decide +kernel) (vab_cons (VE.toL (ve_bin (opv_sub ⟨s.lib, takes_no, hr, du⟩) (ve_var (i := 10)) (ve_var (i := 6)))) vab_nil)) (ve_var (i := 2)))) vab_nil))))) vab_nil)) va_nil)))))))) (vw_one' (vt_not (vt_ofB (VLr.toB (VE.toL (ve_call C__law_is_lot_b_3 hr0 tk rfl s.g__law_is_lot_b (va_cons (ve_var (i := 7)) (va_cons (ve_var (i := 2)) (va_cons (ve_var (i := 3)) va_nil))))))))))) (vss_one (vs_ret ve_bl)) vss_nil)
    (vss_cons (vs_if (vt_cmp (opv_eq ⟨s.lib, tk, hr, du⟩) (ve_var (i := 2)) (ve_var (i := 4)) (nomark _)) (vss_cons (vs_set nd (i := 9) (ve_var (i := 7)))
    (vss_cons (vs_aug nd (i := 9) (opv_ibor ⟨s.lib, tk, hr, du⟩) (ve_var (i := 8)))
    (vss_cons (vs_if (vt_not (vt_ofB (VLr.toB (VE.toL (ve_call C__law_is_lot_b_3 hr0 tk rfl s.g__law_is_lot_b (va_cons (ve_var (i := 9)) (va_cons (ve_var (i := 2)) (va_cons (ve_lc (own := [("h", 10)]) rfl nd (vi_rng1 rfl s.n_range (ve_var (i := 2))) (blkOk_by (by kernel_rfl)) (fun _ _ _ _ _ => (vgw_nm nd (i := 10))) (fun _ _ _ _ _ => (vts_one (vt_w (vw_or (vt_cmp (opv_in ⟨s.lib, takes_no, hr, du⟩) (ve_var (i := 10)) (ve_var (i := 3)) (by with_unfolding_all rfl)) (vw_one' (vt_cmp (opv_in ⟨s.lib, takes_no, hr, du⟩) (ve_var (i := 10)) (ve_var (i := 5)) (by with_unfolding_all rfl))))))) (fun _ _ _ _ _ => (ve_var (i := 10)))) va_nil)))))))) (vss_one (vs_ret ve_bl)) vss_nil)
    (vss_cons (vs_set nd (i := 9) (ve_var (i := 7)))
    (vss_cons (vs_aug nd (i := 9) (opv_iband ⟨s.lib, tk, hr, du⟩) (ve_var (i := 8)))
    (vss_one (vs_if (vt_not (vt_ofB (VLr.toB (VE.toL (ve_call C__law_is_lot_b_3 hr0 tk rfl s.g__law_is_lot_b (va_cons (ve_var (i := 9)) (va_cons (ve_var (i := 2)) (va_cons (ve_lc (own := [("h", 10)]) rfl nd (vi_seq (ve_var (i := 3))) (blkOk_by (by kernel_rfl)) (fun _ _ _ _ _ => (vgw_nm nd (i := 10))) (fun _ _ _ _ _ => (vts_one (vt_cmp (opv_in ⟨s.lib, takes_no, hr, du⟩) (ve_var (i := 10)) (ve_var (i := 5)) (by with_unfolding_all rfl)))) (fun _ _ _ _ _ => (ve_var (i := 10)))) va_nil)))))))) (vss_one (vs_ret ve_bl)) vss_nil))))))) vss_nil)
    (vss_one (vs_ret (ve_and (ve_call C__law_is_lot_b_3 hr0 tk rfl s.g__law_is_lot_b (va_cons (ve_var (i := 7)) (va_cons (ve_var (i := 2)) (va_cons (ve_var (i := 3)) va_nil)))) (ve_one (ve_call C__law_is_lot_b_3 hr0 tk rfl s.g__law_is_lot_b (va_cons (ve_var (i := 8)) (va_cons (ve_var (i := 4)) (va_cons (ve_var (i := 5)) va_nil)))))))))))))))))))))))))))))
theorem d_law {P : Program} {w : World} {K : PySem.W.Frag} {mg : Str → Option Value} {base : Heap} (s : Sx K mg) {r : Nat} (C__law_part_a_1 : FnV P w K mg base (tab K) r (ga K "_law_part_a") [false] [] sp__law_part_a) (C__law_part_b_1 : FnV P w K mg base (tab K) r (ga K "_law_part_b") [false] [] sp__law_part_b) (du : ∀ c m sp, dnL c m = some sp → c < (tab K).n → DnOk P w K mg base (tab K) r c m m.ms sp) {f : Addr} {cdv : Value} {A : Around} {outer : List Env} {st : Shared} {H : Hp} {E : XK} (hr : Room (r + 2) (A.deeper (envOfC "law" (defScope s_law) st.heap.objs.size f cdv))) :
    VSs (cxOf (L2.CX P w) P w K mg base ["script"] "law" (defScope s_law) f cdv A outer st H E) (tab K) (fun cls d _ H => E cls d H) z0 (defBody s_law) t_law := by
  have hr0 := hr.mono (Nat.le_add_right r 2)
  have hr1 := hr.mono (show r + 1 ≤ r + 2 by omega)
  have tk : Takes (cxOf (L2.CX P w) P w K mg base ["script"] "law" (defScope s_law) f cdv A outer st H E) (fun cls d _ H => E cls d H) := takes_of rfl rfl rfl rfl
  have po : PassesOwn (model P w) (Cx.A (cxOf (L2.CX P w) P w K mg base ["script"] "law" (defScope s_law) f cdv A outer st H E)) (Cx.env (cxOf (L2.CX P w) P w K mg base ["script"] "law" (defScope s_law) f cdv A outer st H E)) (Cx.xe (cxOf (L2.CX P w) P w K mg base ["script"] "law" (defScope s_law) f cdv A outer st H E)) := passes_of (X := (cxOf (L2.CX P w) P w K mg base ["script"] "law" (defScope s_law) f cdv A outer st H E)) rfl
  have nd : (["script"] : List Str).Nodup := by decide
  exact (vss_cons (vs_if (vt_not (vt_ofB (VLr.toB (VE.toL (ve_call C__law_part_a_1 hr0 tk rfl s.g__law_part_a (va_cons (ve_var (i := 0)) va_nil)))))) (vss_one (vs_ret ve_bl)) vss_nil)
    (vss_one (vs_ret (ve_call C__law_part_b_1 hr0 tk rfl s.g__law_part_b (va_cons (ve_var (i := 0)) va_nil)))))
end VL
end
section
set_option Elab.async false
set_option linter.all false
set_option maxRecDepth 100000
set_option maxHeartbeats 0
namespace VL
open PySem PySem.Spec PyProof.Rows L2 He
abbrev dv_hours_checked : DV := ⟨fun K => (ga K "hours_checked"), "hours_checked", "hours_checked", defArgs s_hours_checked, defBody s_hours_checked, defScope s_hours_checked, []⟩
abbrev dv_rings_checked : DV := ⟨fun K => (ga K "rings_checked"), "rings_checked", "rings_checked", defArgs s_rings_checked, defBody s_rings_checked, defScope s_rings_checked, []⟩
abbrev dv_first_repeated : DV := ⟨fun K => (ga K "first_repeated"), "first_repeated", "first_repeated", defArgs s_first_repeated, defBody s_first_repeated, defScope s_first_repeated, []⟩
abbrev dv_Lot___init__ : DV := ⟨fun K => (ma K (ga K "Lot") "__init__"), "__init__", "Lot.__init__", defArgs s_Lot___init__, defBody s_Lot___init__, defScope s_Lot___init__, []⟩
abbrev dv_Lot_full : DV := ⟨fun K => (cga K (ga K "Lot") "full"), "full", "Lot.full", defArgs s_Lot_full, defBody s_Lot_full, defScope s_Lot_full, []⟩
abbrev dv_Lot_members : DV := ⟨fun K => (pga K (ma K (ga K "Lot") "members")), "members", "Lot.members", defArgs s_Lot_members, defBody s_Lot_members, defScope s_Lot_members, []⟩
abbrev dv_Lot___len__ : DV := ⟨fun K => (ma K (ga K "Lot") "__len__"), "__len__", "Lot.__len__", defArgs s_Lot___len__, defBody s_Lot___len__, defScope s_Lot___len__, []⟩
abbrev dv_Lot___contains__ : DV := ⟨fun K => (ma K (ga K "Lot") "__contains__"), "__contains__", "Lot.__contains__", defArgs s_Lot___contains__, defBody s_Lot___contains__, defScope s_Lot___contains__, []⟩
abbrev dv_Lot___eq__ : DV := ⟨fun K => (ma K (ga K "Lot") "__eq__"), "__eq__", "Lot.__eq__", defArgs s_Lot___eq__, defBody s_Lot___eq__, defScope s_Lot___eq__, []⟩
abbrev dv_Lot___lshift__ : DV := ⟨fun K => (ma K (ga K "Lot") "__lshift__"), "__lshift__", "Lot.__lshift__", defArgs s_Lot___lshift__, defBody s_Lot___lshift__, defScope s_Lot___lshift__, []⟩
abbrev dv_Lot___rshift__ : DV := ⟨fun K => (ma K (ga K "Lot") "__rshift__"), "__rshift__", "Lot.__rshift__", defArgs s_Lot___rshift__, defBody s_Lot___rshift__, defScope s_Lot___rshift__, []⟩
abbrev dv_Lot___neg__ : DV := ⟨fun K => (ma K (ga K "Lot") "__neg__"), "__neg__", "Lot.__neg__", defArgs s_Lot___neg__, defBody s_Lot___neg__, defScope s_Lot___neg__, []⟩
abbrev dv_Lot___invert__ : DV := ⟨fun K => (ma K (ga K "Lot") "__invert__"), "__invert__", "Lot.__invert__", defArgs s_Lot___invert__, defBody s_Lot___invert__, defScope s_Lot___invert__, []⟩
abbrev dv_Lot___or__ : DV := ⟨fun K => (ma K (ga K "Lot") "__or__"), "__or__", "Lot.__or__", defArgs s_Lot___or__, defBody s_Lot___or__, defScope s_Lot___or__, []⟩
abbrev dv_Lot___and__ : DV := ⟨fun K => (ma K (ga K "Lot") "__and__"), "__and__", "Lot.__and__", defArgs s_Lot___and__, defBody s_Lot___and__, defScope s_Lot___and__, []⟩
abbrev dv__law_cell : DV := ⟨fun K => (ga K "_law_cell"), "_law_cell", "_law_cell", defArgs s__law_cell, defBody s__law_cell, defScope s__law_cell, []⟩
abbrev dv__law_draws : DV := ⟨fun K => (ga K "_law_draws"), "_law_draws", "_law_draws", defArgs s__law_draws, defBody s__law_draws, defScope s__law_draws, []⟩
abbrev dv__law_is_int : DV := ⟨fun K => (ga K "_law_is_int"), "_law_is_int", "_law_is_int", defArgs s__law_is_int, defBody s__law_is_int, defScope s__law_is_int, []⟩
abbrev dv__law_same : DV := ⟨fun K => (ga K "_law_same"), "_law_same", "_law_same", defArgs s__law_same, defBody s__law_same, defScope s__law_same, []⟩
abbrev dv__law_digits : DV := ⟨fun K => (ga K "_law_digits"), "_law_digits", "_law_digits", defArgs s__law_digits, defBody s__law_digits, defScope s__law_digits, []⟩
abbrev dv__law_zigzag : DV := ⟨fun K => (ga K "_law_zigzag"), "_law_zigzag", "_law_zigzag", defArgs s__law_zigzag, defBody s__law_zigzag, defScope s__law_zigzag, []⟩
abbrev dv__law_bits : DV := ⟨fun K => (ga K "_law_bits"), "_law_bits", "_law_bits", defArgs s__law_bits, defBody s__law_bits, defScope s__law_bits, []⟩
abbrev dv__law_subset : DV := ⟨fun K => (ga K "_law_subset"), "_law_subset", "_law_subset", defArgs s__law_subset, defBody s__law_subset, defScope s__law_subset, []⟩
abbrev dv__law_hours : DV := ⟨fun K => (ga K "_law_hours"), "_law_hours", "_law_hours", defArgs s__law_hours, defBody s__law_hours, defScope s__law_hours, []⟩
abbrev dv__law_values : DV := ⟨fun K => (ga K "_law_values"), "_law_values", "_law_values", defArgs s__law_values, defBody s__law_values, defScope s__law_values, []⟩
abbrev dv__law_first_repeated : DV := ⟨fun K => (ga K "_law_first_repeated"), "_law_first_repeated", "_law_first_repeated", defArgs s__law_first_repeated, defBody s__law_first_repeated, defScope s__law_first_repeated, []⟩
abbrev dv__law_told_lot : DV := ⟨fun K => (ga K "_law_told_lot"), "_law_told_lot", "_law_told_lot", defArgs s__law_told_lot, defBody s__law_told_lot, defScope s__law_told_lot, []⟩
abbrev dv__law_told_full : DV := ⟨fun K => (ga K "_law_told_full"), "_law_told_full", "_law_told_full", defArgs s__law_told_full, defBody s__law_told_full, defScope s__law_told_full, []⟩
abbrev dv__law_kinds : DV := ⟨fun K => (ga K "_law_kinds"), "_law_kinds", "_law_kinds", defArgs s__law_kinds, defBody s__law_kinds, defScope s__law_kinds, []⟩
abbrev dv__law_is_lot : DV := ⟨fun K => (ga K "_law_is_lot"), "_law_is_lot", "_law_is_lot", defArgs s__law_is_lot, defBody s__law_is_lot, defScope s__law_is_lot, []⟩
abbrev dv__law_equalities : DV := ⟨fun K => (ga K "_law_equalities"), "_law_equalities", "_law_equalities", defArgs s__law_equalities, defBody s__law_equalities, defScope s__law_equalities, []⟩
abbrev dv__law_membership : DV := ⟨fun K => (ga K "_law_membership"), "_law_membership", "_law_membership", defArgs s__law_membership, defBody s__law_membership, defScope s__law_membership, []⟩
abbrev dv__law_part_a : DV := ⟨fun K => (ga K "_law_part_a"), "_law_part_a", "_law_part_a", defArgs s__law_part_a, defBody s__law_part_a, defScope s__law_part_a, []⟩
abbrev dv__law_drawn_lot : DV := ⟨fun K => (ga K "_law_drawn_lot"), "_law_drawn_lot", "_law_drawn_lot", defArgs s__law_drawn_lot, defBody s__law_drawn_lot, defScope s__law_drawn_lot, []⟩
abbrev dv__law_other_ring : DV := ⟨fun K => (ga K "_law_other_ring"), "_law_other_ring", "_law_other_ring", defArgs s__law_other_ring, defBody s__law_other_ring, defScope s__law_other_ring, []⟩
abbrev dv__law_turn : DV := ⟨fun K => (ga K "_law_turn"), "_law_turn", "_law_turn", defArgs s__law_turn, defBody s__law_turn, defScope s__law_turn, []⟩
abbrev dv__law_is_lot_b : DV := ⟨fun K => (ga K "_law_is_lot_b"), "_law_is_lot_b", "_law_is_lot_b", defArgs s__law_is_lot_b, defBody s__law_is_lot_b, defScope s__law_is_lot_b, []⟩
abbrev dv__law_moved : DV := ⟨fun K => (ga K "_law_moved"), "_law_moved", "_law_moved", defArgs s__law_moved, defBody s__law_moved, defScope s__law_moved, []⟩
abbrev dv__law_joined : DV := ⟨fun K => (ga K "_law_joined"), "_law_joined", "_law_joined", defArgs s__law_joined, defBody s__law_joined, defScope s__law_joined, []⟩
abbrev dv__law_kept_apart : DV := ⟨fun K => (ga K "_law_kept_apart"), "_law_kept_apart", "_law_kept_apart", defArgs s__law_kept_apart, defBody s__law_kept_apart, defScope s__law_kept_apart, []⟩
abbrev dv__law_part_b : DV := ⟨fun K => (ga K "_law_part_b"), "_law_part_b", "_law_part_b", defArgs s__law_part_b, defBody s__law_part_b, defScope s__law_part_b, []⟩
abbrev dv_law : DV := ⟨fun K => (ga K "law"), "law", "law", defArgs s_law, defBody s_law, defScope s_law, []⟩
abbrev dv_Lot___iter__ : DV := ⟨fun K => (ma K (ga K "Lot") "__iter__"), "__iter__", "Lot.__iter__", defArgs s_Lot___iter__, defBody s_Lot___iter__, defScope s_Lot___iter__, []⟩
def fnL : List DV := [dv_hours_checked, dv_rings_checked, dv_first_repeated, dv_Lot___init__, dv_Lot_full, dv_Lot_members, dv_Lot___len__, dv_Lot___contains__, dv_Lot___eq__, dv_Lot___lshift__, dv_Lot___rshift__, dv_Lot___neg__, dv_Lot___invert__, dv_Lot___or__, dv_Lot___and__, dv__law_cell, dv__law_draws, dv__law_is_int, dv__law_same, dv__law_digits, dv__law_zigzag, dv__law_bits, dv__law_subset, dv__law_hours, dv__law_values, dv__law_first_repeated, dv__law_told_lot, dv__law_told_full, dv__law_kinds, dv__law_is_lot, dv__law_equalities, dv__law_membership, dv__law_part_a, dv__law_drawn_lot, dv__law_other_ring, dv__law_turn, dv__law_is_lot_b, dv__law_moved, dv__law_joined, dv__law_kept_apart, dv__law_part_b, dv_law, dv_Lot___iter__]
def PP : Program := (PySem.Challenge.rw_beatswatched_k01_lots_told).prog
abbrev xv_BadNumber : XV := ⟨"BadNumber", "__init__", "BadNumber.__init__", defArgs s_BadNumber___init__, defBody s_BadNumber___init__, defScope s_BadNumber___init__, ["name", "value"], PP.main.file⟩
abbrev xv_RepeatedHour : XV := ⟨"RepeatedHour", "__init__", "RepeatedHour.__init__", defArgs s_RepeatedHour___init__, defBody s_RepeatedHour___init__, defScope s_RepeatedHour___init__, ["hour"], PP.main.file⟩
def xnL : List XV := [xv_BadNumber, xv_RepeatedHour]
def ckL (K : PySem.W.Frag) : List Bool := [libB (tab K) K,
  (Fa.glo "BadNumber").ok K,
  raiseB (tab K) K 5,
  (Fa.glo "OtherHours").ok K,
  (Fa.free "len").ok K,
  (Fa.free "range").ok K,
  (conGet K && conB (tab K) K "MOST" 0 360),
  (Fa.glo "hours_checked").ok K,
  (Fa.free "set").ok K,
  (Fa.glo "first_repeated").ok K,
  (Fa.glo "RepeatedHour").ok K,
  (Fa.free "int").ok K,
  (Fa.free "sorted").ok K,
  clsConB (tab K) K "MOST" 0 360,
  (Fa.free "list").ok K,
  (Fa.free "isinstance").ok K,
  (Fa.glo "Lot").ok K,
  (Fa.glo "rings_checked").ok K,
  (Fa.free "abs").ok K,
  (Fa.free "bool").ok K,
  (Fa.glo "_law_is_int").ok K,
  (Fa.free "str").ok K,
  (Fa.free "tuple").ok K,
  (Fa.glo "_law_same").ok K,
  (Fa.glo "_law_draws").ok K,
  (Fa.glo "_law_bits").ok K,
  (Fa.glo "_law_cell").ok K,
  (Fa.glo "_law_digits").ok K,
  (Fa.glo "_law_subset").ok K,
  (Fa.free "max").ok K,
  (Fa.glo "_law_zigzag").ok K,
  xfsB (tab K) K "name" [(2, 0)],
  xfsB (tab K) K "value" [(2, 1)],
  exmB (tab K) K 9 ct_BadNumber (.ref (ga K "BadNumber")),
  xfsB (tab K) K "hour" [(3, 0), (4, 0)],
  exmB (tab K) K 9 ct_RepeatedHour (.ref (ga K "RepeatedHour")),
  cmethB (tab K) K 0 "full",
  (Fa.free "ValueError").ok K,
  isxB (tab K) K 9 ix_ValueError (.type "ValueError"),
  isxB (tab K) K 9 ix_BadNumber (.ref (ga K "BadNumber")),
  isxB (tab K) K 9 ix_RepeatedHour (.ref (ga K "RepeatedHour")),
  (Fa.glo "Meets").ok K,
  isxB (tab K) K 9 ix_Meets (.ref (ga K "Meets")),
  (Fa.glo "Refused").ok K,
  isxB (tab K) K 9 ix_Refused (.ref (ga K "Refused")),
  exmB (tab K) K 9 ct_WatchError (.ref (ga K "WatchError")),
  (Fa.glo "WatchError").ok K,
  propB K (ga K "Lot") "members",
  (Fa.glo "_law_hours").ok K,
  (Fa.glo "_law_values").ok K,
  (Fa.glo "_law_told_lot").ok K,
  (Fa.glo "_law_told_full").ok K,
  (Fa.glo "_law_kinds").ok K,
  (Fa.glo "_law_first_repeated").ok K,
  (Fa.glo "_law_is_lot").ok K,
  (Fa.glo "_law_equalities").ok K,
  (Fa.glo "_law_membership").ok K,
  (Fa.glo "_law_is_lot_b").ok K,
  isxB (tab K) K 9 ix_OtherHours (.ref (ga K "OtherHours")),
  (Fa.glo "OtherHouse").ok K,
  isxB (tab K) K 9 ix_OtherHouse (.ref (ga K "OtherHouse")),
  (Fa.glo "NotADivisor").ok K,
  isxB (tab K) K 9 ix_NotADivisor (.ref (ga K "NotADivisor")),
  (Fa.glo "_law_drawn_lot").ok K,
  (Fa.glo "_law_other_ring").ok K,
  (Fa.glo "_law_turn").ok K,
  (Fa.glo "_law_moved").ok K,
  (Fa.glo "_law_joined").ok K,
  (Fa.glo "_law_kept_apart").ok K,
  (Fa.glo "_law_part_a").ok K,
  (Fa.glo "_law_part_b").ok K,
  (Fa.free "super").ok K,
  (Fa.free "iter").ok K,
  methB (tab K) K 0 "__iter__",
  methB (tab K) K 0 "__len__",
  methB (tab K) K 0 "__eq__",
  methB (tab K) K 0 "__lshift__",
  methB (tab K) K 0 "__rshift__",
  methB (tab K) K 0 "__neg__",
  methB (tab K) K 0 "__invert__",
  methB (tab K) K 0 "__or__",
  methB (tab K) K 0 "__and__",
  methB (tab K) K 0 "__contains__",
  (Fa.mkr "Lot").ok K,
  (Fa.glo "law").ok K]
def ck (K : PySem.W.Frag) : Bool := (ckL K).all id
theorem sx {K : PySem.W.Frag} {h : Heap} {mg : Str → Option Value} (X : K.In h) (G : h.Ns mainGlobals mg) (c : SaysW ck fnL xnL K) : Sx K mg where
  lib := libB_ok (chk_at c.chk 0)
  g_BadNumber := glo_ok X G (chk_at c.chk 1)
  r_OtherHours := raiseB_ok (chk_at c.chk 2)
  g_OtherHours := glo_ok X G (chk_at c.chk 3)
  n_len := free_ok X G (chk_at c.chk 4)
  n_range := free_ok X G (chk_at c.chk 5)
  c_Lot_MOST := (fun h => conB_ok (ba h).1 (ba h).2) (chk_at c.chk 6)
  g_hours_checked := glo_ok X G (chk_at c.chk 7)
  n_set := free_ok X G (chk_at c.chk 8)
  g_first_repeated := glo_ok X G (chk_at c.chk 9)
  g_RepeatedHour := glo_ok X G (chk_at c.chk 10)
  n_int := free_ok X G (chk_at c.chk 11)
  n_sorted := free_ok X G (chk_at c.chk 12)
  cc_Lot_MOST := clsConB_ok (chk_at c.chk 13)
  n_list := free_ok X G (chk_at c.chk 14)
  n_isinstance := free_ok X G (chk_at c.chk 15)
  g_Lot := glo_ok X G (chk_at c.chk 16)
  g_rings_checked := glo_ok X G (chk_at c.chk 17)
  n_abs := free_ok X G (chk_at c.chk 18)
  n_bool := free_ok X G (chk_at c.chk 19)
  g__law_is_int := glo_ok X G (chk_at c.chk 20)
  n_str := free_ok X G (chk_at c.chk 21)
  n_tuple := free_ok X G (chk_at c.chk 22)
  g__law_same := glo_ok X G (chk_at c.chk 23)
  g__law_draws := glo_ok X G (chk_at c.chk 24)
  g__law_bits := glo_ok X G (chk_at c.chk 25)
  g__law_cell := glo_ok X G (chk_at c.chk 26)
  g__law_digits := glo_ok X G (chk_at c.chk 27)
  g__law_subset := glo_ok X G (chk_at c.chk 28)
  n_max := free_ok X G (chk_at c.chk 29)
  g__law_zigzag := glo_ok X G (chk_at c.chk 30)
  xf_name := xfsB_ok (chk_at c.chk 31)
  xf_value := xfsB_ok (chk_at c.chk 32)
  e_BadNumber := (fun h => exmB_ok h lt_ct_BadNumber) (chk_at c.chk 33)
  xf_hour := xfsB_ok (chk_at c.chk 34)
  e_RepeatedHour := (fun h => exmB_ok h lt_ct_RepeatedHour) (chk_at c.chk 35)
  cm_Lot_full := cmethB_ok (chk_at c.chk 36)
  n_ValueError := free_ok X G (chk_at c.chk 37)
  x_ValueError := (fun h => isxB_ok h lt_ix_ValueError) (chk_at c.chk 38)
  x_BadNumber := (fun h => isxB_ok h lt_ix_BadNumber) (chk_at c.chk 39)
  x_RepeatedHour := (fun h => isxB_ok h lt_ix_RepeatedHour) (chk_at c.chk 40)
  g_Meets := glo_ok X G (chk_at c.chk 41)
  x_Meets := (fun h => isxB_ok h lt_ix_Meets) (chk_at c.chk 42)
  g_Refused := glo_ok X G (chk_at c.chk 43)
  x_Refused := (fun h => isxB_ok h lt_ix_Refused) (chk_at c.chk 44)
  e_WatchError := (fun h => exmB_ok h lt_ct_WatchError) (chk_at c.chk 45)
  g_WatchError := glo_ok X G (chk_at c.chk 46)
  p_Lot_members := propB_ok (chk_at c.chk 47)
  g__law_hours := glo_ok X G (chk_at c.chk 48)
  g__law_values := glo_ok X G (chk_at c.chk 49)
  g__law_told_lot := glo_ok X G (chk_at c.chk 50)
  g__law_told_full := glo_ok X G (chk_at c.chk 51)
  g__law_kinds := glo_ok X G (chk_at c.chk 52)
  g__law_first_repeated := glo_ok X G (chk_at c.chk 53)
  g__law_is_lot := glo_ok X G (chk_at c.chk 54)
  g__law_equalities := glo_ok X G (chk_at c.chk 55)
  g__law_membership := glo_ok X G (chk_at c.chk 56)
  g__law_is_lot_b := glo_ok X G (chk_at c.chk 57)
  x_OtherHours := (fun h => isxB_ok h lt_ix_OtherHours) (chk_at c.chk 58)
  g_OtherHouse := glo_ok X G (chk_at c.chk 59)
  x_OtherHouse := (fun h => isxB_ok h lt_ix_OtherHouse) (chk_at c.chk 60)
  g_NotADivisor := glo_ok X G (chk_at c.chk 61)
  x_NotADivisor := (fun h => isxB_ok h lt_ix_NotADivisor) (chk_at c.chk 62)
  g__law_drawn_lot := glo_ok X G (chk_at c.chk 63)
  g__law_other_ring := glo_ok X G (chk_at c.chk 64)
  g__law_turn := glo_ok X G (chk_at c.chk 65)
  g__law_moved := glo_ok X G (chk_at c.chk 66)
  g__law_joined := glo_ok X G (chk_at c.chk 67)
  g__law_kept_apart := glo_ok X G (chk_at c.chk 68)
  g__law_part_a := glo_ok X G (chk_at c.chk 69)
  g__law_part_b := glo_ok X G (chk_at c.chk 70)
  n_super := free_ok X G (chk_at c.chk 71)
  n_iter := free_ok X G (chk_at c.chk 72)
  m_Lot___iter__ := methB_ok (chk_at c.chk 73)
theorem sc_hours_checked : FnScope ["hours", "most"] ["hours", "most"] (defScope s_hours_checked) := ⟨rfl, rfl, rfl, by decide +kernel, rfl, by decide +kernel, by decide +kernel⟩
theorem sc_rings_checked : FnScope ["one", "other"] ["one", "other"] (defScope s_rings_checked) := ⟨rfl, rfl, rfl, by decide +kernel, rfl, by decide +kernel, by decide +kernel⟩
theorem sc_first_repeated : FnScope ["residues", "at"] ["residues"] (defScope s_first_repeated) := ⟨rfl, rfl, rfl, by decide +kernel, rfl, by decide +kernel, by decide +kernel⟩
theorem sc_Lot___init__ : FnScope ["self", "hours", "members", "residues", "member", "residue"] ["self", "hours", "members"] (defScope s_Lot___init__) := ⟨rfl, rfl, rfl, by decide +kernel, rfl, by decide +kernel, by decide +kernel⟩
theorem sc_Lot_full : FnScope ["cls", "hours"] ["cls", "hours"] (defScope s_Lot_full) := ⟨rfl, rfl, rfl, by decide +kernel, rfl, by decide +kernel, by decide +kernel⟩
theorem sc_Lot_members : FnScope ["self"] ["self"] (defScope s_Lot_members) := ⟨rfl, rfl, rfl, by decide +kernel, rfl, by decide +kernel, by decide +kernel⟩
theorem sc_Lot___len__ : FnScope ["self"] ["self"] (defScope s_Lot___len__) := ⟨rfl, rfl, rfl, by decide +kernel, rfl, by decide +kernel, by decide +kernel⟩
theorem sc_Lot___contains__ : FnScope ["self", "number"] ["self", "number"] (defScope s_Lot___contains__) := ⟨rfl, rfl, rfl, by decide +kernel, rfl, by decide +kernel, by decide +kernel⟩
theorem sc_Lot___eq__ : FnScope ["self", "other"] ["self", "other"] (defScope s_Lot___eq__) := ⟨rfl, rfl, rfl, by decide +kernel, rfl, by decide +kernel, by decide +kernel⟩
theorem sc_Lot___lshift__ : FnScope ["self", "by", "member"] ["self", "by"] (defScope s_Lot___lshift__) := ⟨rfl, rfl, rfl, by decide +kernel, rfl, by decide +kernel, by decide +kernel⟩
theorem sc_Lot___rshift__ : FnScope ["self", "by", "member"] ["self", "by"] (defScope s_Lot___rshift__) := ⟨rfl, rfl, rfl, by decide +kernel, rfl, by decide +kernel, by decide +kernel⟩
theorem sc_Lot___neg__ : FnScope ["self", "member"] ["self"] (defScope s_Lot___neg__) := ⟨rfl, rfl, rfl, by decide +kernel, rfl, by decide +kernel, by decide +kernel⟩
theorem sc_Lot___invert__ : FnScope ["self", "hour"] ["self"] (defScope s_Lot___invert__) := ⟨rfl, rfl, rfl, by decide +kernel, rfl, by decide +kernel, by decide +kernel⟩
theorem sc_Lot___or__ : FnScope ["self", "other", "member"] ["self", "other"] (defScope s_Lot___or__) := ⟨rfl, rfl, rfl, by decide +kernel, rfl, by decide +kernel, by decide +kernel⟩
theorem sc_Lot___and__ : FnScope ["self", "other", "member"] ["self", "other"] (defScope s_Lot___and__) := ⟨rfl, rfl, rfl, by decide +kernel, rfl, by decide +kernel, by decide +kernel⟩
theorem sc__law_cell : FnScope ["script", "k"] ["script", "k"] (defScope s__law_cell) := ⟨rfl, rfl, rfl, by decide +kernel, rfl, by decide +kernel, by decide +kernel⟩
theorem sc__law_draws : FnScope ["cell", "salt", "menu", "found", "rest", "mixed", "k"] ["cell", "salt", "menu"] (defScope s__law_draws) := ⟨rfl, rfl, rfl, by decide +kernel, rfl, by decide +kernel, by decide +kernel⟩
theorem sc__law_is_int : FnScope ["x"] ["x"] (defScope s__law_is_int) := ⟨rfl, rfl, rfl, by decide +kernel, rfl, by decide +kernel, by decide +kernel⟩
theorem sc__law_same : FnScope ["got", "due", "k"] ["got", "due"] (defScope s__law_same) := ⟨rfl, rfl, rfl, by decide +kernel, rfl, by decide +kernel, by decide +kernel⟩
theorem sc__law_digits : FnScope ["cell", "salt", "number", "piece"] ["cell", "salt"] (defScope s__law_digits) := ⟨rfl, rfl, rfl, by decide +kernel, rfl, by decide +kernel, by decide +kernel⟩
theorem sc__law_zigzag : FnScope ["number"] ["number"] (defScope s__law_zigzag) := ⟨rfl, rfl, rfl, by decide +kernel, rfl, by decide +kernel, by decide +kernel⟩
theorem sc__law_bits : FnScope ["n", "number", "found", "h"] ["n", "number"] (defScope s__law_bits) := ⟨rfl, rfl, rfl, by decide +kernel, rfl, by decide +kernel, by decide +kernel⟩
theorem sc__law_subset : FnScope ["cell", "salt", "n", "found", "pieces", "k", "h"] ["cell", "salt", "n"] (defScope s__law_subset) := ⟨rfl, rfl, rfl, by decide +kernel, rfl, by decide +kernel, by decide +kernel⟩
theorem sc__law_hours : FnScope ["script", "ways", "far"] ["script"] (defScope s__law_hours) := ⟨rfl, rfl, rfl, by decide +kernel, rfl, by decide +kernel, by decide +kernel⟩
theorem sc__law_values : FnScope ["script", "n", "ways", "hours", "drawn", "values", "kept", "seen", "value", "at", "again", "number", "h"] ["script", "n"] (defScope s__law_values) := ⟨rfl, rfl, rfl, by decide +kernel, rfl, by decide +kernel, by decide +kernel⟩
theorem sc__law_first_repeated : FnScope ["residues", "k"] ["residues"] (defScope s__law_first_repeated) := ⟨rfl, rfl, rfl, by decide +kernel, rfl, by decide +kernel, by decide +kernel⟩
theorem sc__law_told_lot : FnScope ["hours", "values", "told", "e"] ["hours", "values"] (defScope s__law_told_lot) := ⟨rfl, rfl, rfl, by decide +kernel, rfl, by decide +kernel, by decide +kernel⟩
theorem sc__law_told_full : FnScope ["hours", "told", "e"] ["hours"] (defScope s__law_told_full) := ⟨rfl, rfl, rfl, by decide +kernel, rfl, by decide +kernel, by decide +kernel⟩
theorem sc__law_kinds : FnScope ["hours", "values", "kinds", "e"] ["hours", "values"] (defScope s__law_kinds) := ⟨rfl, rfl, rfl, by decide +kernel, rfl, by decide +kernel, by decide +kernel⟩
theorem sc__law_is_lot : FnScope ["lot", "n", "due", "member"] ["lot", "n", "due"] (defScope s__law_is_lot) := ⟨rfl, rfl, rfl, by decide +kernel, rfl, by decide +kernel, by decide +kernel⟩
theorem sc__law_equalities : FnScope ["lot", "n", "due", "unlike", "thing"] ["lot", "n", "due"] (defScope s__law_equalities) := ⟨rfl, rfl, rfl, by decide +kernel, rfl, by decide +kernel, by decide +kernel⟩
theorem sc__law_membership : FnScope ["lot", "n", "due", "far", "r"] ["lot", "n", "due", "far"] (defScope s__law_membership) := ⟨rfl, rfl, rfl, by decide +kernel, rfl, by decide +kernel, by decide +kernel⟩
theorem sc__law_part_a : FnScope ["script", "hours", "values", "due", "residues", "repeated", "passed", "lot", "far", "shown", "value", "h"] ["script"] (defScope s__law_part_a) := ⟨rfl, rfl, rfl, by decide +kernel, rfl, by decide +kernel, by decide +kernel⟩
theorem sc__law_drawn_lot : FnScope ["cell", "salt", "n", "way", "drawn"] ["cell", "salt", "n", "way"] (defScope s__law_drawn_lot) := ⟨rfl, rfl, rfl, by decide +kernel, rfl, by decide +kernel, by decide +kernel⟩
theorem sc__law_other_ring : FnScope ["n", "way"] ["n", "way"] (defScope s__law_other_ring) := ⟨rfl, rfl, rfl, by decide +kernel, rfl, by decide +kernel, by decide +kernel⟩
theorem sc__law_turn : FnScope ["script", "n", "way", "sign", "number"] ["script", "n", "way", "sign"] (defScope s__law_turn) := ⟨rfl, rfl, rfl, by decide +kernel, rfl, by decide +kernel, by decide +kernel⟩
theorem sc__law_is_lot_b : FnScope ["lot", "n", "due"] ["lot", "n", "due"] (defScope s__law_is_lot_b) := ⟨rfl, rfl, rfl, by decide +kernel, rfl, by decide +kernel, by decide +kernel⟩
theorem sc__law_moved : FnScope ["lot", "n", "members", "by", "marks", "h"] ["lot", "n", "members", "by"] (defScope s__law_moved) := ⟨rfl, rfl, rfl, by decide +kernel, rfl, by decide +kernel, by decide +kernel⟩
theorem sc__law_joined : FnScope ["one", "two", "n", "first", "second", "either", "both", "h"] ["one", "two", "n", "first", "second"] (defScope s__law_joined) := ⟨rfl, rfl, rfl, by decide +kernel, rfl, by decide +kernel, by decide +kernel⟩
theorem sc__law_kept_apart : FnScope ["one", "two", "way", "told", "found", "e"] ["one", "two", "way"] (defScope s__law_kept_apart) := ⟨rfl, rfl, rfl, by decide +kernel, rfl, by decide +kernel, by decide +kernel⟩
theorem sc__law_part_b : FnScope ["script", "ways", "n", "first", "ring", "second", "by", "one", "two", "grown", "h"] ["script"] (defScope s__law_part_b) := ⟨rfl, rfl, rfl, by decide +kernel, rfl, by decide +kernel, by decide +kernel⟩
theorem sc_law : FnScope ["script"] ["script"] (defScope s_law) := ⟨rfl, rfl, rfl, by decide +kernel, rfl, by decide +kernel, by decide +kernel⟩
section
variable {w : World} {K : PySem.W.Frag} {mg : Str → Option Value} {base : Heap}
theorem fx_BadNumber (s : Sx K mg) (c : SaysW ck fnL xnL K) : XkV PP w K mg base (tab K) 1 2 2 true := by
  obtain ⟨e, c2⟩ := c.exc_ 0 (d := xv_BadNumber)
  obtain ⟨⟨cc, cda, F⟩, h1, h2, h3, h4⟩ := XV.supF (P := PP) e c2 s.n_super rfl (by decide +kernel) (by decide +kernel) (by decide +kernel) (by decide +kernel) ⟨_, rfl, rfl⟩
  have hf : (tab K).flds 2 = (["name", "value"] : List Str) := by simp [tab, tabOf, cs]
  exact mkX (k := 0) (T := tab K) (c := 2) (n := 2) (N := ["self", "name", "value", "__class__"]) (ps := ["self", "name", "value"]) F (NdefX.nscope_by (by decide +kernel)) rfl h1 h2 (by rw [hf]; exact h3) hf rfl rfl (by decide) (by rw [hf]; exact h4) (.cons rfl rfl rfl rfl (.cons rfl rfl rfl rfl .nil)) (.join (by decide) rfl rfl rfl rfl) (fun env => rfl) (fun env => ⟨_, rfl⟩) (fun _ _ _ _ _ us hl => match us, hl with | [_, _, _], _ => rfl)
theorem fx_RepeatedHour (s : Sx K mg) (c : SaysW ck fnL xnL K) : XkV PP w K mg base (tab K) 1 3 1 false := by
  obtain ⟨e, c2⟩ := c.exc_ 1 (d := xv_RepeatedHour)
  obtain ⟨⟨cc, cda, F⟩, h1, h2, h3, h4⟩ := XV.supF (P := PP) e c2 s.n_super rfl (by decide +kernel) (by decide +kernel) (by decide +kernel) (by decide +kernel) ⟨_, rfl, rfl⟩
  have hf : (tab K).flds 3 = (["hour"] : List Str) := by simp [tab, tabOf, cs]
  exact mkX (k := 0) (T := tab K) (c := 3) (n := 1) (N := ["self", "hour", "__class__"]) (ps := ["self", "hour"]) F (NdefX.nscope_by (by decide +kernel)) rfl h1 h2 (by rw [hf]; exact h3) hf rfl rfl (by decide) (by rw [hf]; exact h4) (.cons rfl rfl rfl rfl .nil) .txt (fun env => rfl) (fun env => ⟨_, rfl⟩) (fun _ _ _ _ _ us hl => match us, hl with | [_, _], _ => rfl)
theorem it_Lot_1 (s : Sx K mg) (c : SaysW ck fnL xnL K) : ItV PP w K mg base (tab K) 0 1 := by
  obtain ⟨fd, F⟩ := c.def_ 42 (d := dv_Lot___iter__)
  have hf : (tab K).flds 0 = (["hours", "_members"] : List Str) := by simp [tab, tabOf, cs]
  exact ItV.of s.m_Lot___iter__ fun h1 h2 => mkIt (T := tab K) (c := 0) (j := 1) F ⟨rfl, rfl, rfl, by decide +kernel, rfl, by decide +kernel, by decide +kernel⟩ (by decide +kernel) (by first | exact Or.inl rfl | exact Or.inr (Or.inl rfl) | exact Or.inr (Or.inr rfl)) s.n_iter (by rw [hf]; rfl) s.lib (show (0 : Nat) < 1 by decide) h1 h2 fun _ _ _ _ _ _ us hl => match us, hl with | [_], _ => rfl
theorem ok_hours_checked (s : Sx K mg) (c : SaysW ck fnL xnL K) : ∃ fd, FunD K "hours_checked" "hours_checked" (defArgs s_hours_checked) (defBody s_hours_checked) (defScope s_hours_checked) [] [] (ga K "hours_checked") fd ∧ FnOk PP w K mg base (L2.CX PP w) 4 (ga K "hours_checked") fd ["hours", "most"] (SpV (tab K) K [false, false] sp_hours_checked) := by
  obtain ⟨fd, F⟩ := c.def_ 0 (d := dv_hours_checked)
  exact ⟨fd, F, fnV F sc_hours_checked rfl (fun cdv A outer st H E hr => d_hours_checked (r := 1) s ((fx_BadNumber s c).mono (by decide)) hr) (fun ds Q X _ h => p_hours_checked ds Q X h)⟩
theorem fv_hours_checked_2 (s : Sx K mg) (c : SaysW ck fnL xnL K) : FnV PP w K mg base (tab K) 4 (ga K "hours_checked") [false, false] [] sp_hours_checked := by
  obtain ⟨fd, F, G⟩ := ok_hours_checked (w := w) (base := base) s c
  exact mkFn0 F G fun _ _ _ _ _ _ us hl => match us, hl with | [_, _], _ => rfl
theorem ok_rings_checked (s : Sx K mg) (c : SaysW ck fnL xnL K) : ∃ fd, FunD K "rings_checked" "rings_checked" (defArgs s_rings_checked) (defBody s_rings_checked) (defScope s_rings_checked) [] [] (ga K "rings_checked") fd ∧ FnOk PP w K mg base (L2.CX PP w) 3 (ga K "rings_checked") fd ["one", "other"] (SpV (tab K) K [false, false] sp_rings_checked) := by
  obtain ⟨fd, F⟩ := c.def_ 1 (d := dv_rings_checked)
  exact ⟨fd, F, fnV F sc_rings_checked rfl (fun cdv A outer st H E hr => d_rings_checked (r := 0) s  hr) (fun ds Q X _ h => p_rings_checked ds Q X h)⟩
theorem fv_rings_checked_2 (s : Sx K mg) (c : SaysW ck fnL xnL K) : FnV PP w K mg base (tab K) 3 (ga K "rings_checked") [false, false] [] sp_rings_checked := by
  obtain ⟨fd, F, G⟩ := ok_rings_checked (w := w) (base := base) s c
  exact mkFn0 F G fun _ _ _ _ _ _ us hl => match us, hl with | [_, _], _ => rfl
theorem ok_first_repeated (s : Sx K mg) (c : SaysW ck fnL xnL K) : ∃ fd, FunD K "first_repeated" "first_repeated" (defArgs s_first_repeated) (defBody s_first_repeated) (defScope s_first_repeated) [] [] (ga K "first_repeated") fd ∧ FnOk PP w K mg base (L2.CX PP w) 3 (ga K "first_repeated") fd ["residues"] (SpV (tab K) K [false] sp_first_repeated) := by
  obtain ⟨fd, F⟩ := c.def_ 2 (d := dv_first_repeated)
  exact ⟨fd, F, fnV F sc_first_repeated rfl (fun cdv A outer st H E hr => d_first_repeated (r := 0) s  hr) (fun ds Q X _ h => p_first_repeated ds Q X h)⟩
theorem fv_first_repeated_1 (s : Sx K mg) (c : SaysW ck fnL xnL K) : FnV PP w K mg base (tab K) 3 (ga K "first_repeated") [false] [] sp_first_repeated := by
  obtain ⟨fd, F, G⟩ := ok_first_repeated (w := w) (base := base) s c
  exact mkFn0 F G fun _ _ _ _ _ _ us hl => match us, hl with | [_], _ => rfl
theorem ok_Lot___init__ (s : Sx K mg) (c : SaysW ck fnL xnL K) : ∃ fd, FunD K "__init__" "Lot.__init__" (defArgs s_Lot___init__) (defBody s_Lot___init__) (defScope s_Lot___init__) [] [] (ma K (ga K "Lot") "__init__") fd ∧ FnOk PP w K mg base (L2.CX PP w) 7 (ma K (ga K "Lot") "__init__") fd ["self", "hours", "members"] (SpI (tab K) K 0 [false, true] sp_Lot___init__) := by
  obtain ⟨fd, F⟩ := c.def_ 3 (d := dv_Lot___init__)
  exact ⟨fd, F, fnI (n := 2) F sc_Lot___init__ rfl (show (0 : Nat) < 1 by decide) rfl (fun a cdv A outer st H E hr => d_Lot___init__ (r := 4) s ((fv_hours_checked_2 s c).mono (by decide)) ((fv_first_repeated_1 s c).mono (by decide)) ((fx_RepeatedHour s c).mono (by decide)) a hr) (fun ds Q X _ h => p_Lot___init__ ds Q X h)⟩
theorem fv_Lot___init___3 (s : Sx K mg) (c : SaysW ck fnL xnL K) : MkV PP w K mg base (tab K) 7 0 [false, true] [] sp_Lot___init__ := by
  obtain ⟨fd, F, G⟩ := ok_Lot___init__ (w := w) (base := base) s c
  exact mkMk0 (show (0 : Nat) < 1 by decide) (mkr_ok (chk_at c.chk 83)) F G fun _ _ _ _ _ _ us hl => match us, hl with | [_, _, _], _ => rfl
theorem ok_Lot_full (s : Sx K mg) (c : SaysW ck fnL xnL K) : ∃ fd, FunD K "full" "Lot.full" (defArgs s_Lot_full) (defBody s_Lot_full) (defScope s_Lot_full) [] [] (cga K (ga K "Lot") "full") fd ∧ FnOk PP w K mg base (L2.CX PP w) 10 (cga K (ga K "Lot") "full") fd ["cls", "hours"] (SpV (tab K) K [false, false] sp_Lot_full) := by
  obtain ⟨fd, F⟩ := c.def_ 4 (d := dv_Lot_full)
  exact ⟨fd, F, fnV F sc_Lot_full rfl (fun cdv A outer st H E hr => d_Lot_full (r := 7) s ((fv_hours_checked_2 s c).mono (by decide)) ((fv_Lot___init___3 s c).mono (by decide)) hr) (fun ds Q X _ h => p_Lot_full ds Q X h)⟩
theorem fv_Lot_full_2 (s : Sx K mg) (c : SaysW ck fnL xnL K) : FnV PP w K mg base (tab K) 10 (cga K ((tab K).cls 0) "full") [false, false] [] sp_Lot_full := by
  obtain ⟨fd, F, G⟩ := ok_Lot_full (w := w) (base := base) s c
  exact mkFn0 F G fun _ _ _ _ _ _ us hl => match us, hl with | [_, _], _ => rfl
theorem ok_Lot_members (s : Sx K mg) (c : SaysW ck fnL xnL K) : ∃ fd, FunD K "members" "Lot.members" (defArgs s_Lot_members) (defBody s_Lot_members) (defScope s_Lot_members) [] [] (pga K (ma K (ga K "Lot") "members")) fd ∧ FnOk PP w K mg base (L2.CX PP w) 3 (pga K (ma K (ga K "Lot") "members")) fd ["self"] (SpV (tab K) K [false] sp_Lot_members) := by
  obtain ⟨fd, F⟩ := c.def_ 5 (d := dv_Lot_members)
  exact ⟨fd, F, fnV F sc_Lot_members rfl (fun cdv A outer st H E hr => d_Lot_members (r := 0) s  hr) (fun ds Q X _ h => p_Lot_members ds Q X h)⟩
theorem fv_Lot_members_1 (s : Sx K mg) (c : SaysW ck fnL xnL K) : FnV PP w K mg base (tab K) 3 (pga K (ma K (ga K "Lot") "members")) [false] [] sp_Lot_members := by
  obtain ⟨fd, F, G⟩ := ok_Lot_members (w := w) (base := base) s c
  exact mkFn0 F G fun _ _ _ _ _ _ us hl => match us, hl with | [_], _ => rfl
theorem ok_Lot___len__ (s : Sx K mg) (c : SaysW ck fnL xnL K) : ∃ fd, FunD K "__len__" "Lot.__len__" (defArgs s_Lot___len__) (defBody s_Lot___len__) (defScope s_Lot___len__) [] [] (ma K (ga K "Lot") "__len__") fd ∧ FnOk PP w K mg base (L2.CX PP w) 3 (ma K (ga K "Lot") "__len__") fd ["self"] (SpV (tab K) K [false] sp_Lot___len__) := by
  obtain ⟨fd, F⟩ := c.def_ 6 (d := dv_Lot___len__)
  exact ⟨fd, F, fnV F sc_Lot___len__ rfl (fun cdv A outer st H E hr => d_Lot___len__ (r := 0) s  hr) (fun ds Q X _ h => p_Lot___len__ ds Q X h)⟩
theorem fv_Lot___len___1 (s : Sx K mg) (c : SaysW ck fnL xnL K) : FnV PP w K mg base (tab K) 3 (ma K ((tab K).cls 0) "__len__") [false] [] sp_Lot___len__ := by
  obtain ⟨fd, F, G⟩ := ok_Lot___len__ (w := w) (base := base) s c
  exact mkFn0 F G fun _ _ _ _ _ _ us hl => match us, hl with | [_], _ => rfl
theorem ok_Lot___contains__ (s : Sx K mg) (c : SaysW ck fnL xnL K) : ∃ fd, FunD K "__contains__" "Lot.__contains__" (defArgs s_Lot___contains__) (defBody s_Lot___contains__) (defScope s_Lot___contains__) [] [] (ma K (ga K "Lot") "__contains__") fd ∧ FnOk PP w K mg base (L2.CX PP w) 3 (ma K (ga K "Lot") "__contains__") fd ["self", "number"] (SpV (tab K) K [false, false] sp_Lot___contains__) := by
  obtain ⟨fd, F⟩ := c.def_ 7 (d := dv_Lot___contains__)
  exact ⟨fd, F, fnV F sc_Lot___contains__ rfl (fun cdv A outer st H E hr => d_Lot___contains__ (r := 0) s  hr) (fun ds Q X _ h => p_Lot___contains__ ds Q X h)⟩
theorem fv_Lot___contains___2 (s : Sx K mg) (c : SaysW ck fnL xnL K) : FnV PP w K mg base (tab K) 3 (ma K ((tab K).cls 0) "__contains__") [false, false] [] sp_Lot___contains__ := by
  obtain ⟨fd, F, G⟩ := ok_Lot___contains__ (w := w) (base := base) s c
  exact mkFn0 F G fun _ _ _ _ _ _ us hl => match us, hl with | [_, _], _ => rfl
theorem ok_Lot___eq__ (s : Sx K mg) (c : SaysW ck fnL xnL K) : ∃ fd, FunD K "__eq__" "Lot.__eq__" (defArgs s_Lot___eq__) (defBody s_Lot___eq__) (defScope s_Lot___eq__) [] [] (ma K (ga K "Lot") "__eq__") fd ∧ FnOk PP w K mg base (L2.CX PP w) 3 (ma K (ga K "Lot") "__eq__") fd ["self", "other"] (SpV (tab K) K [false, false] sp_Lot___eq__) := by
  obtain ⟨fd, F⟩ := c.def_ 8 (d := dv_Lot___eq__)
  exact ⟨fd, F, fnV F sc_Lot___eq__ rfl (fun cdv A outer st H E hr => d_Lot___eq__ (r := 0) s  hr) (fun ds Q X _ h => p_Lot___eq__ ds Q X h)⟩
theorem fv_Lot___eq___2 (s : Sx K mg) (c : SaysW ck fnL xnL K) : FnV PP w K mg base (tab K) 3 (ma K ((tab K).cls 0) "__eq__") [false, false] [] sp_Lot___eq__ := by
  obtain ⟨fd, F, G⟩ := ok_Lot___eq__ (w := w) (base := base) s c
  exact mkFn0 F G fun _ _ _ _ _ _ us hl => match us, hl with | [_, _], _ => rfl
theorem ok_Lot___lshift__ (s : Sx K mg) (c : SaysW ck fnL xnL K) : ∃ fd, FunD K "__lshift__" "Lot.__lshift__" (defArgs s_Lot___lshift__) (defBody s_Lot___lshift__) (defScope s_Lot___lshift__) [] [] (ma K (ga K "Lot") "__lshift__") fd ∧ FnOk PP w K mg base (L2.CX PP w) 10 (ma K (ga K "Lot") "__lshift__") fd ["self", "by"] (SpV (tab K) K [false, false] sp_Lot___lshift__) := by
  obtain ⟨fd, F⟩ := c.def_ 9 (d := dv_Lot___lshift__)
  exact ⟨fd, F, fnV F sc_Lot___lshift__ rfl (fun cdv A outer st H E hr => d_Lot___lshift__ (r := 7) s ((fv_Lot___init___3 s c).mono (by decide)) hr) (fun ds Q X _ h => p_Lot___lshift__ ds Q X h)⟩
theorem fv_Lot___lshift___2 (s : Sx K mg) (c : SaysW ck fnL xnL K) : FnV PP w K mg base (tab K) 10 (ma K ((tab K).cls 0) "__lshift__") [false, false] [] sp_Lot___lshift__ := by
  obtain ⟨fd, F, G⟩ := ok_Lot___lshift__ (w := w) (base := base) s c
  exact mkFn0 F G fun _ _ _ _ _ _ us hl => match us, hl with | [_, _], _ => rfl
theorem ok_Lot___rshift__ (s : Sx K mg) (c : SaysW ck fnL xnL K) : ∃ fd, FunD K "__rshift__" "Lot.__rshift__" (defArgs s_Lot___rshift__) (defBody s_Lot___rshift__) (defScope s_Lot___rshift__) [] [] (ma K (ga K "Lot") "__rshift__") fd ∧ FnOk PP w K mg base (L2.CX PP w) 10 (ma K (ga K "Lot") "__rshift__") fd ["self", "by"] (SpV (tab K) K [false, false] sp_Lot___rshift__) := by
  obtain ⟨fd, F⟩ := c.def_ 10 (d := dv_Lot___rshift__)
  exact ⟨fd, F, fnV F sc_Lot___rshift__ rfl (fun cdv A outer st H E hr => d_Lot___rshift__ (r := 7) s ((fv_Lot___init___3 s c).mono (by decide)) hr) (fun ds Q X _ h => p_Lot___rshift__ ds Q X h)⟩
theorem fv_Lot___rshift___2 (s : Sx K mg) (c : SaysW ck fnL xnL K) : FnV PP w K mg base (tab K) 10 (ma K ((tab K).cls 0) "__rshift__") [false, false] [] sp_Lot___rshift__ := by
  obtain ⟨fd, F, G⟩ := ok_Lot___rshift__ (w := w) (base := base) s c
  exact mkFn0 F G fun _ _ _ _ _ _ us hl => match us, hl with | [_, _], _ => rfl
theorem ok_Lot___neg__ (s : Sx K mg) (c : SaysW ck fnL xnL K) : ∃ fd, FunD K "__neg__" "Lot.__neg__" (defArgs s_Lot___neg__) (defBody s_Lot___neg__) (defScope s_Lot___neg__) [] [] (ma K (ga K "Lot") "__neg__") fd ∧ FnOk PP w K mg base (L2.CX PP w) 10 (ma K (ga K "Lot") "__neg__") fd ["self"] (SpV (tab K) K [false] sp_Lot___neg__) := by
  obtain ⟨fd, F⟩ := c.def_ 11 (d := dv_Lot___neg__)
  exact ⟨fd, F, fnV F sc_Lot___neg__ rfl (fun cdv A outer st H E hr => d_Lot___neg__ (r := 7) s ((fv_Lot___init___3 s c).mono (by decide)) hr) (fun ds Q X _ h => p_Lot___neg__ ds Q X h)⟩
theorem fv_Lot___neg___1 (s : Sx K mg) (c : SaysW ck fnL xnL K) : FnV PP w K mg base (tab K) 10 (ma K ((tab K).cls 0) "__neg__") [false] [] sp_Lot___neg__ := by
  obtain ⟨fd, F, G⟩ := ok_Lot___neg__ (w := w) (base := base) s c
  exact mkFn0 F G fun _ _ _ _ _ _ us hl => match us, hl with | [_], _ => rfl
theorem ok_Lot___invert__ (s : Sx K mg) (c : SaysW ck fnL xnL K) : ∃ fd, FunD K "__invert__" "Lot.__invert__" (defArgs s_Lot___invert__) (defBody s_Lot___invert__) (defScope s_Lot___invert__) [] [] (ma K (ga K "Lot") "__invert__") fd ∧ FnOk PP w K mg base (L2.CX PP w) 10 (ma K (ga K "Lot") "__invert__") fd ["self"] (SpV (tab K) K [false] sp_Lot___invert__) := by
  obtain ⟨fd, F⟩ := c.def_ 12 (d := dv_Lot___invert__)
  exact ⟨fd, F, fnV F sc_Lot___invert__ rfl (fun cdv A outer st H E hr => d_Lot___invert__ (r := 7) s ((fv_Lot___init___3 s c).mono (by decide)) hr) (fun ds Q X _ h => p_Lot___invert__ ds Q X h)⟩
theorem fv_Lot___invert___1 (s : Sx K mg) (c : SaysW ck fnL xnL K) : FnV PP w K mg base (tab K) 10 (ma K ((tab K).cls 0) "__invert__") [false] [] sp_Lot___invert__ := by
  obtain ⟨fd, F, G⟩ := ok_Lot___invert__ (w := w) (base := base) s c
  exact mkFn0 F G fun _ _ _ _ _ _ us hl => match us, hl with | [_], _ => rfl
theorem ok_Lot___or__ (s : Sx K mg) (c : SaysW ck fnL xnL K) : ∃ fd, FunD K "__or__" "Lot.__or__" (defArgs s_Lot___or__) (defBody s_Lot___or__) (defScope s_Lot___or__) [] [] (ma K (ga K "Lot") "__or__") fd ∧ FnOk PP w K mg base (L2.CX PP w) 10 (ma K (ga K "Lot") "__or__") fd ["self", "other"] (SpV (tab K) K [false, false] sp_Lot___or__) := by
  obtain ⟨fd, F⟩ := c.def_ 13 (d := dv_Lot___or__)
  exact ⟨fd, F, fnV F sc_Lot___or__ rfl (fun cdv A outer st H E hr => d_Lot___or__ (r := 7) s ((fv_rings_checked_2 s c).mono (by decide)) ((fv_Lot___init___3 s c).mono (by decide)) hr) (fun ds Q X _ h => p_Lot___or__ ds Q X h)⟩
theorem fv_Lot___or___2 (s : Sx K mg) (c : SaysW ck fnL xnL K) : FnV PP w K mg base (tab K) 10 (ma K ((tab K).cls 0) "__or__") [false, false] [] sp_Lot___or__ := by
  obtain ⟨fd, F, G⟩ := ok_Lot___or__ (w := w) (base := base) s c
  exact mkFn0 F G fun _ _ _ _ _ _ us hl => match us, hl with | [_, _], _ => rfl
theorem ok_Lot___and__ (s : Sx K mg) (c : SaysW ck fnL xnL K) : ∃ fd, FunD K "__and__" "Lot.__and__" (defArgs s_Lot___and__) (defBody s_Lot___and__) (defScope s_Lot___and__) [] [] (ma K (ga K "Lot") "__and__") fd ∧ FnOk PP w K mg base (L2.CX PP w) 10 (ma K (ga K "Lot") "__and__") fd ["self", "other"] (SpV (tab K) K [false, false] sp_Lot___and__) := by
  obtain ⟨fd, F⟩ := c.def_ 14 (d := dv_Lot___and__)
  exact ⟨fd, F, fnV F sc_Lot___and__ rfl (fun cdv A outer st H E hr => d_Lot___and__ (r := 7) s ((fv_rings_checked_2 s c).mono (by decide)) ((fv_Lot___init___3 s c).mono (by decide)) hr) (fun ds Q X _ h => p_Lot___and__ ds Q X h)⟩
theorem fv_Lot___and___2 (s : Sx K mg) (c : SaysW ck fnL xnL K) : FnV PP w K mg base (tab K) 10 (ma K ((tab K).cls 0) "__and__") [false, false] [] sp_Lot___and__ := by
  obtain ⟨fd, F, G⟩ := ok_Lot___and__ (w := w) (base := base) s c
  exact mkFn0 F G fun _ _ _ _ _ _ us hl => match us, hl with | [_, _], _ => rfl
theorem du_dnL (s : Sx K mg) (c : SaysW ck fnL xnL K) : ∀ i m sp, dnL i m = some sp → i < (tab K).n → DnOk PP w K mg base (tab K) 10 i m m.ms sp := by
  intro i m sp h _
  unfold dnL at h
  split at h
  · cases h
    exact (DnOk.mk' (methB_ok (chk_at c.chk 74)) (fv_Lot___len___1 s c)).mono (by decide)
  · cases h
    exact (DnOk.mk' (methB_ok (chk_at c.chk 75)) (fv_Lot___eq___2 s c)).mono (by decide)
  · cases h
    exact (DnOk.mk' (methB_ok (chk_at c.chk 76)) (fv_Lot___lshift___2 s c)).mono (by decide)
  · cases h
    exact (DnOk.mk' (methB_ok (chk_at c.chk 77)) (fv_Lot___rshift___2 s c)).mono (by decide)
  · cases h
    exact (DnOk.mk' (methB_ok (chk_at c.chk 78)) (fv_Lot___neg___1 s c)).mono (by decide)
  · cases h
    exact (DnOk.mk' (methB_ok (chk_at c.chk 79)) (fv_Lot___invert___1 s c)).mono (by decide)
  · cases h
    exact (DnOk.mk' (methB_ok (chk_at c.chk 80)) (fv_Lot___or___2 s c)).mono (by decide)
  · cases h
    exact (DnOk.mk' (methB_ok (chk_at c.chk 81)) (fv_Lot___and___2 s c)).mono (by decide)
  · cases h
    exact (DnOk.mk' (methB_ok (chk_at c.chk 82)) (fv_Lot___contains___2 s c)).mono (by decide)
  · cases h
theorem ok__law_cell (s : Sx K mg) (c : SaysW ck fnL xnL K) : ∃ fd, FunD K "_law_cell" "_law_cell" (defArgs s__law_cell) (defBody s__law_cell) (defScope s__law_cell) [] [] (ga K "_law_cell") fd ∧ FnOk PP w K mg base (L2.CX PP w) 13 (ga K "_law_cell") fd ["script", "k"] (SpV (tab K) K [false, false] sp__law_cell) := by
  obtain ⟨fd, F⟩ := c.def_ 15 (d := dv__law_cell)
  exact ⟨fd, F, fnV F sc__law_cell rfl (fun cdv A outer st H E hr => d__law_cell (r := 10) s (fun i m sp h hi => (du_dnL s c i m sp h hi).mono (by decide)) hr) (fun ds Q X _ h => p__law_cell ds Q X h)⟩
theorem fv__law_cell_2 (s : Sx K mg) (c : SaysW ck fnL xnL K) : FnV PP w K mg base (tab K) 13 (ga K "_law_cell") [false, false] [] sp__law_cell := by
  obtain ⟨fd, F, G⟩ := ok__law_cell (w := w) (base := base) s c
  exact mkFn0 F G fun _ _ _ _ _ _ us hl => match us, hl with | [_, _], _ => rfl
theorem ok__law_draws (s : Sx K mg) (c : SaysW ck fnL xnL K) : ∃ fd, FunD K "_law_draws" "_law_draws" (defArgs s__law_draws) (defBody s__law_draws) (defScope s__law_draws) [] [] (ga K "_law_draws") fd ∧ FnOk PP w K mg base (L2.CX PP w) 13 (ga K "_law_draws") fd ["cell", "salt", "menu"] (SpV (tab K) K [false, false, false] sp__law_draws) := by
  obtain ⟨fd, F⟩ := c.def_ 16 (d := dv__law_draws)
  exact ⟨fd, F, fnV F sc__law_draws rfl (fun cdv A outer st H E hr => d__law_draws (r := 10) s (fun i m sp h hi => (du_dnL s c i m sp h hi).mono (by decide)) hr) (fun ds Q X _ h => p__law_draws ds Q X h)⟩
theorem fv__law_draws_3 (s : Sx K mg) (c : SaysW ck fnL xnL K) : FnV PP w K mg base (tab K) 13 (ga K "_law_draws") [false, false, false] [] sp__law_draws := by
  obtain ⟨fd, F, G⟩ := ok__law_draws (w := w) (base := base) s c
  exact mkFn0 F G fun _ _ _ _ _ _ us hl => match us, hl with | [_, _, _], _ => rfl
theorem ok__law_is_int (s : Sx K mg) (c : SaysW ck fnL xnL K) : ∃ fd, FunD K "_law_is_int" "_law_is_int" (defArgs s__law_is_int) (defBody s__law_is_int) (defScope s__law_is_int) [] [] (ga K "_law_is_int") fd ∧ FnOk PP w K mg base (L2.CX PP w) 13 (ga K "_law_is_int") fd ["x"] (SpV (tab K) K [false] sp__law_is_int) := by
  obtain ⟨fd, F⟩ := c.def_ 17 (d := dv__law_is_int)
  exact ⟨fd, F, fnV F sc__law_is_int rfl (fun cdv A outer st H E hr => d__law_is_int (r := 10) s (fun i m sp h hi => (du_dnL s c i m sp h hi).mono (by decide)) hr) (fun ds Q X _ h => p__law_is_int ds Q X h)⟩
theorem fv__law_is_int_1 (s : Sx K mg) (c : SaysW ck fnL xnL K) : FnV PP w K mg base (tab K) 13 (ga K "_law_is_int") [false] [] sp__law_is_int := by
  obtain ⟨fd, F, G⟩ := ok__law_is_int (w := w) (base := base) s c
  exact mkFn0 F G fun _ _ _ _ _ _ us hl => match us, hl with | [_], _ => rfl
theorem fvr__law_same (s : Sx K mg) (c : SaysW ck fnL xnL K) : ∀ n : Nat, FnV PP w K mg base (tab K) (13 + 3 * n) (ga K "_law_same") [false, false] [] (sp__law_same_n n) := by
  intro n
  obtain ⟨fd, F⟩ := c.def_ 18 (d := dv__law_same)
  induction n with
  | zero => exact fnNever (ps := ["got", "due"]) F rfl fun _ _ _ _ _ _ us hl => match us, hl with | [_, _], _ => rfl
  | succ n ih => exact mkFn0 F (fnV F sc__law_same rfl (fun cdv A outer st H E hr => d__law_same (r := 13 + 3 * n) s ih ((fv__law_is_int_1 s c).mono (Nat.le_trans (by decide) (Nat.le_add_right 13 (3 * n)))) (fun i m sp h hi => (du_dnL s c i m sp h hi).mono (Nat.le_trans (by decide) (Nat.le_add_right 13 (3 * n)))) hr) (fun ds Q X _ h => p__law_same n ds Q X h)) fun _ _ _ _ _ _ us hl => match us, hl with | [_, _], _ => rfl
theorem fv__law_same_2 (s : Sx K mg) (c : SaysW ck fnL xnL K) : FnV PP w K mg base (tab K) 19 (ga K "_law_same") [false, false] [] sp__law_same := fvr__law_same s c 2
theorem ok__law_digits (s : Sx K mg) (c : SaysW ck fnL xnL K) : ∃ fd, FunD K "_law_digits" "_law_digits" (defArgs s__law_digits) (defBody s__law_digits) (defScope s__law_digits) [] [] (ga K "_law_digits") fd ∧ FnOk PP w K mg base (L2.CX PP w) 16 (ga K "_law_digits") fd ["cell", "salt"] (SpV (tab K) K [false, false] sp__law_digits) := by
  obtain ⟨fd, F⟩ := c.def_ 19 (d := dv__law_digits)
  exact ⟨fd, F, fnV F sc__law_digits rfl (fun cdv A outer st H E hr => d__law_digits (r := 13) s ((fv__law_draws_3 s c).mono (by decide)) (fun i m sp h hi => (du_dnL s c i m sp h hi).mono (by decide)) hr) (fun ds Q X _ h => p__law_digits ds Q X h)⟩
theorem fv__law_digits_2 (s : Sx K mg) (c : SaysW ck fnL xnL K) : FnV PP w K mg base (tab K) 16 (ga K "_law_digits") [false, false] [] sp__law_digits := by
  obtain ⟨fd, F, G⟩ := ok__law_digits (w := w) (base := base) s c
  exact mkFn0 F G fun _ _ _ _ _ _ us hl => match us, hl with | [_, _], _ => rfl
theorem ok__law_zigzag (s : Sx K mg) (c : SaysW ck fnL xnL K) : ∃ fd, FunD K "_law_zigzag" "_law_zigzag" (defArgs s__law_zigzag) (defBody s__law_zigzag) (defScope s__law_zigzag) [] [] (ga K "_law_zigzag") fd ∧ FnOk PP w K mg base (L2.CX PP w) 13 (ga K "_law_zigzag") fd ["number"] (SpV (tab K) K [false] sp__law_zigzag) := by
  obtain ⟨fd, F⟩ := c.def_ 20 (d := dv__law_zigzag)
  exact ⟨fd, F, fnV F sc__law_zigzag rfl (fun cdv A outer st H E hr => d__law_zigzag (r := 10) s (fun i m sp h hi => (du_dnL s c i m sp h hi).mono (by decide)) hr) (fun ds Q X _ h => p__law_zigzag ds Q X h)⟩
theorem fv__law_zigzag_1 (s : Sx K mg) (c : SaysW ck fnL xnL K) : FnV PP w K mg base (tab K) 13 (ga K "_law_zigzag") [false] [] sp__law_zigzag := by
  obtain ⟨fd, F, G⟩ := ok__law_zigzag (w := w) (base := base) s c
  exact mkFn0 F G fun _ _ _ _ _ _ us hl => match us, hl with | [_], _ => rfl
theorem ok__law_bits (s : Sx K mg) (c : SaysW ck fnL xnL K) : ∃ fd, FunD K "_law_bits" "_law_bits" (defArgs s__law_bits) (defBody s__law_bits) (defScope s__law_bits) [] [] (ga K "_law_bits") fd ∧ FnOk PP w K mg base (L2.CX PP w) 13 (ga K "_law_bits") fd ["n", "number"] (SpV (tab K) K [false, false] sp__law_bits) := by
  obtain ⟨fd, F⟩ := c.def_ 21 (d := dv__law_bits)
  exact ⟨fd, F, fnV F sc__law_bits rfl (fun cdv A outer st H E hr => d__law_bits (r := 10) s (fun i m sp h hi => (du_dnL s c i m sp h hi).mono (by decide)) hr) (fun ds Q X _ h => p__law_bits ds Q X h)⟩
theorem fv__law_bits_2 (s : Sx K mg) (c : SaysW ck fnL xnL K) : FnV PP w K mg base (tab K) 13 (ga K "_law_bits") [false, false] [] sp__law_bits := by
  obtain ⟨fd, F, G⟩ := ok__law_bits (w := w) (base := base) s c
  exact mkFn0 F G fun _ _ _ _ _ _ us hl => match us, hl with | [_, _], _ => rfl
theorem ok__law_subset (s : Sx K mg) (c : SaysW ck fnL xnL K) : ∃ fd, FunD K "_law_subset" "_law_subset" (defArgs s__law_subset) (defBody s__law_subset) (defScope s__law_subset) [] [] (ga K "_law_subset") fd ∧ FnOk PP w K mg base (L2.CX PP w) 16 (ga K "_law_subset") fd ["cell", "salt", "n"] (SpV (tab K) K [false, false, false] sp__law_subset) := by
  obtain ⟨fd, F⟩ := c.def_ 22 (d := dv__law_subset)
  exact ⟨fd, F, fnV F sc__law_subset rfl (fun cdv A outer st H E hr => d__law_subset (r := 13) s ((fv__law_draws_3 s c).mono (by decide)) ((fv__law_bits_2 s c).mono (by decide)) (fun i m sp h hi => (du_dnL s c i m sp h hi).mono (by decide)) hr) (fun ds Q X _ h => p__law_subset ds Q X h)⟩
theorem fv__law_subset_3 (s : Sx K mg) (c : SaysW ck fnL xnL K) : FnV PP w K mg base (tab K) 16 (ga K "_law_subset") [false, false, false] [] sp__law_subset := by
  obtain ⟨fd, F, G⟩ := ok__law_subset (w := w) (base := base) s c
  exact mkFn0 F G fun _ _ _ _ _ _ us hl => match us, hl with | [_, _, _], _ => rfl
theorem ok__law_hours (s : Sx K mg) (c : SaysW ck fnL xnL K) : ∃ fd, FunD K "_law_hours" "_law_hours" (defArgs s__law_hours) (defBody s__law_hours) (defScope s__law_hours) [] [] (ga K "_law_hours") fd ∧ FnOk PP w K mg base (L2.CX PP w) 19 (ga K "_law_hours") fd ["script"] (SpV (tab K) K [false] sp__law_hours) := by
  obtain ⟨fd, F⟩ := c.def_ 23 (d := dv__law_hours)
  exact ⟨fd, F, fnV F sc__law_hours rfl (fun cdv A outer st H E hr => d__law_hours (r := 16) s ((fv__law_cell_2 s c).mono (by decide)) ((fv__law_draws_3 s c).mono (by decide)) ((fv__law_digits_2 s c).mono (by decide)) (fun i m sp h hi => (du_dnL s c i m sp h hi).mono (by decide)) hr) (fun ds Q X _ h => p__law_hours ds Q X h)⟩
theorem fv__law_hours_1 (s : Sx K mg) (c : SaysW ck fnL xnL K) : FnV PP w K mg base (tab K) 19 (ga K "_law_hours") [false] [] sp__law_hours := by
  obtain ⟨fd, F, G⟩ := ok__law_hours (w := w) (base := base) s c
  exact mkFn0 F G fun _ _ _ _ _ _ us hl => match us, hl with | [_], _ => rfl
theorem ok__law_values (s : Sx K mg) (c : SaysW ck fnL xnL K) : ∃ fd, FunD K "_law_values" "_law_values" (defArgs s__law_values) (defBody s__law_values) (defScope s__law_values) [] [] (ga K "_law_values") fd ∧ FnOk PP w K mg base (L2.CX PP w) 19 (ga K "_law_values") fd ["script", "n"] (SpV (tab K) K [false, false] sp__law_values) := by
  obtain ⟨fd, F⟩ := c.def_ 24 (d := dv__law_values)
  exact ⟨fd, F, fnV F sc__law_values rfl (fun cdv A outer st H E hr => d__law_values (r := 16) s ((fv__law_cell_2 s c).mono (by decide)) ((fv__law_draws_3 s c).mono (by decide)) ((fv__law_subset_3 s c).mono (by decide)) ((fv__law_zigzag_1 s c).mono (by decide)) (fun i m sp h hi => (du_dnL s c i m sp h hi).mono (by decide)) hr) (fun ds Q X _ h => p__law_values ds Q X h)⟩
theorem fv__law_values_2 (s : Sx K mg) (c : SaysW ck fnL xnL K) : FnV PP w K mg base (tab K) 19 (ga K "_law_values") [false, false] [] sp__law_values := by
  obtain ⟨fd, F, G⟩ := ok__law_values (w := w) (base := base) s c
  exact mkFn0 F G fun _ _ _ _ _ _ us hl => match us, hl with | [_, _], _ => rfl
theorem ok__law_first_repeated (s : Sx K mg) (c : SaysW ck fnL xnL K) : ∃ fd, FunD K "_law_first_repeated" "_law_first_repeated" (defArgs s__law_first_repeated) (defBody s__law_first_repeated) (defScope s__law_first_repeated) [] [] (ga K "_law_first_repeated") fd ∧ FnOk PP w K mg base (L2.CX PP w) 13 (ga K "_law_first_repeated") fd ["residues"] (SpV (tab K) K [false] sp__law_first_repeated) := by
  obtain ⟨fd, F⟩ := c.def_ 25 (d := dv__law_first_repeated)
  exact ⟨fd, F, fnV F sc__law_first_repeated rfl (fun cdv A outer st H E hr => d__law_first_repeated (r := 10) s (fun i m sp h hi => (du_dnL s c i m sp h hi).mono (by decide)) hr) (fun ds Q X _ h => p__law_first_repeated ds Q X h)⟩
theorem fv__law_first_repeated_1 (s : Sx K mg) (c : SaysW ck fnL xnL K) : FnV PP w K mg base (tab K) 13 (ga K "_law_first_repeated") [false] [] sp__law_first_repeated := by
  obtain ⟨fd, F, G⟩ := ok__law_first_repeated (w := w) (base := base) s c
  exact mkFn0 F G fun _ _ _ _ _ _ us hl => match us, hl with | [_], _ => rfl
theorem ok__law_told_lot (s : Sx K mg) (c : SaysW ck fnL xnL K) : ∃ fd, FunD K "_law_told_lot" "_law_told_lot" (defArgs s__law_told_lot) (defBody s__law_told_lot) (defScope s__law_told_lot) [] [] (ga K "_law_told_lot") fd ∧ FnOk PP w K mg base (L2.CX PP w) 13 (ga K "_law_told_lot") fd ["hours", "values"] (SpV (tab K) K [false, true] sp__law_told_lot) := by
  obtain ⟨fd, F⟩ := c.def_ 26 (d := dv__law_told_lot)
  exact ⟨fd, F, fnV F sc__law_told_lot rfl (fun cdv A outer st H E hr => d__law_told_lot (r := 10) s ((fv_Lot___init___3 s c).mono (by decide)) (fun i m sp h hi => (du_dnL s c i m sp h hi).mono (by decide)) hr) (fun ds Q X _ h => p__law_told_lot ds Q X h)⟩
theorem fv__law_told_lot_2 (s : Sx K mg) (c : SaysW ck fnL xnL K) : FnV PP w K mg base (tab K) 13 (ga K "_law_told_lot") [false, true] [] sp__law_told_lot := by
  obtain ⟨fd, F, G⟩ := ok__law_told_lot (w := w) (base := base) s c
  exact mkFn0 F G fun _ _ _ _ _ _ us hl => match us, hl with | [_, _], _ => rfl
theorem ok__law_told_full (s : Sx K mg) (c : SaysW ck fnL xnL K) : ∃ fd, FunD K "_law_told_full" "_law_told_full" (defArgs s__law_told_full) (defBody s__law_told_full) (defScope s__law_told_full) [] [] (ga K "_law_told_full") fd ∧ FnOk PP w K mg base (L2.CX PP w) 13 (ga K "_law_told_full") fd ["hours"] (SpV (tab K) K [false] sp__law_told_full) := by
  obtain ⟨fd, F⟩ := c.def_ 27 (d := dv__law_told_full)
  exact ⟨fd, F, fnV F sc__law_told_full rfl (fun cdv A outer st H E hr => d__law_told_full (r := 10) s ((fv_Lot_full_2 s c).mono (by decide)) (fun i m sp h hi => (du_dnL s c i m sp h hi).mono (by decide)) hr) (fun ds Q X _ h => p__law_told_full ds Q X h)⟩
theorem fv__law_told_full_1 (s : Sx K mg) (c : SaysW ck fnL xnL K) : FnV PP w K mg base (tab K) 13 (ga K "_law_told_full") [false] [] sp__law_told_full := by
  obtain ⟨fd, F, G⟩ := ok__law_told_full (w := w) (base := base) s c
  exact mkFn0 F G fun _ _ _ _ _ _ us hl => match us, hl with | [_], _ => rfl
theorem ok__law_kinds (s : Sx K mg) (c : SaysW ck fnL xnL K) : ∃ fd, FunD K "_law_kinds" "_law_kinds" (defArgs s__law_kinds) (defBody s__law_kinds) (defScope s__law_kinds) [] [] (ga K "_law_kinds") fd ∧ FnOk PP w K mg base (L2.CX PP w) 13 (ga K "_law_kinds") fd ["hours", "values"] (SpV (tab K) K [false, false] sp__law_kinds) := by
  obtain ⟨fd, F⟩ := c.def_ 28 (d := dv__law_kinds)
  exact ⟨fd, F, fnV F sc__law_kinds rfl (fun cdv A outer st H E hr => d__law_kinds (r := 10) s ((fv_Lot___init___3 s c).mono (by decide)) (fun i m sp h hi => (du_dnL s c i m sp h hi).mono (by decide)) hr) (fun ds Q X _ h => p__law_kinds ds Q X h)⟩
theorem fv__law_kinds_2 (s : Sx K mg) (c : SaysW ck fnL xnL K) : FnV PP w K mg base (tab K) 13 (ga K "_law_kinds") [false, false] [] sp__law_kinds := by
  obtain ⟨fd, F, G⟩ := ok__law_kinds (w := w) (base := base) s c
  exact mkFn0 F G fun _ _ _ _ _ _ us hl => match us, hl with | [_, _], _ => rfl
theorem ok__law_is_lot (s : Sx K mg) (c : SaysW ck fnL xnL K) : ∃ fd, FunD K "_law_is_lot" "_law_is_lot" (defArgs s__law_is_lot) (defBody s__law_is_lot) (defScope s__law_is_lot) [] [] (ga K "_law_is_lot") fd ∧ FnOk PP w K mg base (L2.CX PP w) 22 (ga K "_law_is_lot") fd ["lot", "n", "due"] (SpV (tab K) K [false, false, false] sp__law_is_lot) := by
  obtain ⟨fd, F⟩ := c.def_ 29 (d := dv__law_is_lot)
  exact ⟨fd, F, fnV F sc__law_is_lot rfl (fun cdv A outer st H E hr => d__law_is_lot (r := 19) s ((fv__law_same_2 s c).mono (by decide)) ((fv_Lot_members_1 s c).mono (by decide)) (it_Lot_1 s c) (fun i m sp h hi => (du_dnL s c i m sp h hi).mono (by decide)) hr) (fun ds Q X _ h => p__law_is_lot ds Q X h)⟩
theorem fv__law_is_lot_3 (s : Sx K mg) (c : SaysW ck fnL xnL K) : FnV PP w K mg base (tab K) 22 (ga K "_law_is_lot") [false, false, false] [] sp__law_is_lot := by
  obtain ⟨fd, F, G⟩ := ok__law_is_lot (w := w) (base := base) s c
  exact mkFn0 F G fun _ _ _ _ _ _ us hl => match us, hl with | [_, _, _], _ => rfl
theorem ok__law_equalities (s : Sx K mg) (c : SaysW ck fnL xnL K) : ∃ fd, FunD K "_law_equalities" "_law_equalities" (defArgs s__law_equalities) (defBody s__law_equalities) (defScope s__law_equalities) [] [] (ga K "_law_equalities") fd ∧ FnOk PP w K mg base (L2.CX PP w) 13 (ga K "_law_equalities") fd ["lot", "n", "due"] (SpV (tab K) K [false, false, false] sp__law_equalities) := by
  obtain ⟨fd, F⟩ := c.def_ 30 (d := dv__law_equalities)
  exact ⟨fd, F, fnV F sc__law_equalities rfl (fun cdv A outer st H E hr => d__law_equalities (r := 10) s ((fv_Lot___init___3 s c).mono (by decide)) (fun i m sp h hi => (du_dnL s c i m sp h hi).mono (by decide)) hr) (fun ds Q X _ h => p__law_equalities ds Q X h)⟩
theorem fv__law_equalities_3 (s : Sx K mg) (c : SaysW ck fnL xnL K) : FnV PP w K mg base (tab K) 13 (ga K "_law_equalities") [false, false, false] [] sp__law_equalities := by
  obtain ⟨fd, F, G⟩ := ok__law_equalities (w := w) (base := base) s c
  exact mkFn0 F G fun _ _ _ _ _ _ us hl => match us, hl with | [_, _, _], _ => rfl
theorem ok__law_membership (s : Sx K mg) (c : SaysW ck fnL xnL K) : ∃ fd, FunD K "_law_membership" "_law_membership" (defArgs s__law_membership) (defBody s__law_membership) (defScope s__law_membership) [] [] (ga K "_law_membership") fd ∧ FnOk PP w K mg base (L2.CX PP w) 13 (ga K "_law_membership") fd ["lot", "n", "due", "far"] (SpV (tab K) K [false, false, false, false] sp__law_membership) := by
  obtain ⟨fd, F⟩ := c.def_ 31 (d := dv__law_membership)
  exact ⟨fd, F, fnV F sc__law_membership rfl (fun cdv A outer st H E hr => d__law_membership (r := 10) s (fun i m sp h hi => (du_dnL s c i m sp h hi).mono (by decide)) hr) (fun ds Q X _ h => p__law_membership ds Q X h)⟩
theorem fv__law_membership_4 (s : Sx K mg) (c : SaysW ck fnL xnL K) : FnV PP w K mg base (tab K) 13 (ga K "_law_membership") [false, false, false, false] [] sp__law_membership := by
  obtain ⟨fd, F, G⟩ := ok__law_membership (w := w) (base := base) s c
  exact mkFn0 F G fun _ _ _ _ _ _ us hl => match us, hl with | [_, _, _, _], _ => rfl
theorem ok__law_part_a (s : Sx K mg) (c : SaysW ck fnL xnL K) : ∃ fd, FunD K "_law_part_a" "_law_part_a" (defArgs s__law_part_a) (defBody s__law_part_a) (defScope s__law_part_a) [] [] (ga K "_law_part_a") fd ∧ FnOk PP w K mg base (L2.CX PP w) 25 (ga K "_law_part_a") fd ["script"] (SpV (tab K) K [false] sp__law_part_a) := by
  obtain ⟨fd, F⟩ := c.def_ 32 (d := dv__law_part_a)
  exact ⟨fd, F, fnV F sc__law_part_a rfl (fun cdv A outer st H E hr => d__law_part_a (r := 22) s ((fv__law_hours_1 s c).mono (by decide)) ((fv__law_values_2 s c).mono (by decide)) ((fv__law_told_lot_2 s c).mono (by decide)) ((fv__law_same_2 s c).mono (by decide)) ((fv__law_told_full_1 s c).mono (by decide)) ((fv__law_kinds_2 s c).mono (by decide)) ((fv__law_first_repeated_1 s c).mono (by decide)) ((fv__law_is_lot_3 s c).mono (by decide)) ((fv__law_equalities_3 s c).mono (by decide)) ((fv__law_cell_2 s c).mono (by decide)) ((fv__law_draws_3 s c).mono (by decide)) ((fv__law_zigzag_1 s c).mono (by decide)) ((fv__law_membership_4 s c).mono (by decide)) ((fv_Lot_full_2 s c).mono (by decide)) ((fv_Lot_members_1 s c).mono (by decide)) (fun i m sp h hi => (du_dnL s c i m sp h hi).mono (by decide)) hr) (fun ds Q X _ h => p__law_part_a ds Q X h)⟩
theorem fv__law_part_a_1 (s : Sx K mg) (c : SaysW ck fnL xnL K) : FnV PP w K mg base (tab K) 25 (ga K "_law_part_a") [false] [] sp__law_part_a := by
  obtain ⟨fd, F, G⟩ := ok__law_part_a (w := w) (base := base) s c
  exact mkFn0 F G fun _ _ _ _ _ _ us hl => match us, hl with | [_], _ => rfl
theorem ok__law_drawn_lot (s : Sx K mg) (c : SaysW ck fnL xnL K) : ∃ fd, FunD K "_law_drawn_lot" "_law_drawn_lot" (defArgs s__law_drawn_lot) (defBody s__law_drawn_lot) (defScope s__law_drawn_lot) [] [] (ga K "_law_drawn_lot") fd ∧ FnOk PP w K mg base (L2.CX PP w) 19 (ga K "_law_drawn_lot") fd ["cell", "salt", "n", "way"] (SpV (tab K) K [false, false, false, false] sp__law_drawn_lot) := by
  obtain ⟨fd, F⟩ := c.def_ 33 (d := dv__law_drawn_lot)
  exact ⟨fd, F, fnV F sc__law_drawn_lot rfl (fun cdv A outer st H E hr => d__law_drawn_lot (r := 16) s ((fv__law_subset_3 s c).mono (by decide)) (fun i m sp h hi => (du_dnL s c i m sp h hi).mono (by decide)) hr) (fun ds Q X _ h => p__law_drawn_lot ds Q X h)⟩
theorem fv__law_drawn_lot_4 (s : Sx K mg) (c : SaysW ck fnL xnL K) : FnV PP w K mg base (tab K) 19 (ga K "_law_drawn_lot") [false, false, false, false] [] sp__law_drawn_lot := by
  obtain ⟨fd, F, G⟩ := ok__law_drawn_lot (w := w) (base := base) s c
  exact mkFn0 F G fun _ _ _ _ _ _ us hl => match us, hl with | [_, _, _, _], _ => rfl
theorem ok__law_other_ring (s : Sx K mg) (c : SaysW ck fnL xnL K) : ∃ fd, FunD K "_law_other_ring" "_law_other_ring" (defArgs s__law_other_ring) (defBody s__law_other_ring) (defScope s__law_other_ring) [] [] (ga K "_law_other_ring") fd ∧ FnOk PP w K mg base (L2.CX PP w) 13 (ga K "_law_other_ring") fd ["n", "way"] (SpV (tab K) K [false, false] sp__law_other_ring) := by
  obtain ⟨fd, F⟩ := c.def_ 34 (d := dv__law_other_ring)
  exact ⟨fd, F, fnV F sc__law_other_ring rfl (fun cdv A outer st H E hr => d__law_other_ring (r := 10) s (fun i m sp h hi => (du_dnL s c i m sp h hi).mono (by decide)) hr) (fun ds Q X _ h => p__law_other_ring ds Q X h)⟩
theorem fv__law_other_ring_2 (s : Sx K mg) (c : SaysW ck fnL xnL K) : FnV PP w K mg base (tab K) 13 (ga K "_law_other_ring") [false, false] [] sp__law_other_ring := by
  obtain ⟨fd, F, G⟩ := ok__law_other_ring (w := w) (base := base) s c
  exact mkFn0 F G fun _ _ _ _ _ _ us hl => match us, hl with | [_, _], _ => rfl
theorem ok__law_turn (s : Sx K mg) (c : SaysW ck fnL xnL K) : ∃ fd, FunD K "_law_turn" "_law_turn" (defArgs s__law_turn) (defBody s__law_turn) (defScope s__law_turn) [] [] (ga K "_law_turn") fd ∧ FnOk PP w K mg base (L2.CX PP w) 19 (ga K "_law_turn") fd ["script", "n", "way", "sign"] (SpV (tab K) K [false, false, false, false] sp__law_turn) := by
  obtain ⟨fd, F⟩ := c.def_ 35 (d := dv__law_turn)
  exact ⟨fd, F, fnV F sc__law_turn rfl (fun cdv A outer st H E hr => d__law_turn (r := 16) s ((fv__law_cell_2 s c).mono (by decide)) ((fv__law_digits_2 s c).mono (by decide)) (fun i m sp h hi => (du_dnL s c i m sp h hi).mono (by decide)) hr) (fun ds Q X _ h => p__law_turn ds Q X h)⟩
theorem fv__law_turn_4 (s : Sx K mg) (c : SaysW ck fnL xnL K) : FnV PP w K mg base (tab K) 19 (ga K "_law_turn") [false, false, false, false] [] sp__law_turn := by
  obtain ⟨fd, F, G⟩ := ok__law_turn (w := w) (base := base) s c
  exact mkFn0 F G fun _ _ _ _ _ _ us hl => match us, hl with | [_, _, _, _], _ => rfl
theorem ok__law_is_lot_b (s : Sx K mg) (c : SaysW ck fnL xnL K) : ∃ fd, FunD K "_law_is_lot_b" "_law_is_lot_b" (defArgs s__law_is_lot_b) (defBody s__law_is_lot_b) (defScope s__law_is_lot_b) [] [] (ga K "_law_is_lot_b") fd ∧ FnOk PP w K mg base (L2.CX PP w) 22 (ga K "_law_is_lot_b") fd ["lot", "n", "due"] (SpV (tab K) K [false, false, false] sp__law_is_lot_b) := by
  obtain ⟨fd, F⟩ := c.def_ 36 (d := dv__law_is_lot_b)
  exact ⟨fd, F, fnV F sc__law_is_lot_b rfl (fun cdv A outer st H E hr => d__law_is_lot_b (r := 19) s ((fv__law_same_2 s c).mono (by decide)) ((fv_Lot_members_1 s c).mono (by decide)) (fun i m sp h hi => (du_dnL s c i m sp h hi).mono (by decide)) hr) (fun ds Q X _ h => p__law_is_lot_b ds Q X h)⟩
theorem fv__law_is_lot_b_3 (s : Sx K mg) (c : SaysW ck fnL xnL K) : FnV PP w K mg base (tab K) 22 (ga K "_law_is_lot_b") [false, false, false] [] sp__law_is_lot_b := by
  obtain ⟨fd, F, G⟩ := ok__law_is_lot_b (w := w) (base := base) s c
  exact mkFn0 F G fun _ _ _ _ _ _ us hl => match us, hl with | [_, _, _], _ => rfl
theorem ok__law_moved (s : Sx K mg) (c : SaysW ck fnL xnL K) : ∃ fd, FunD K "_law_moved" "_law_moved" (defArgs s__law_moved) (defBody s__law_moved) (defScope s__law_moved) [] [] (ga K "_law_moved") fd ∧ FnOk PP w K mg base (L2.CX PP w) 25 (ga K "_law_moved") fd ["lot", "n", "members", "by"] (SpV (tab K) K [false, false, false, false] sp__law_moved) := by
  obtain ⟨fd, F⟩ := c.def_ 37 (d := dv__law_moved)
  exact ⟨fd, F, fnV F sc__law_moved rfl (fun cdv A outer st H E hr => d__law_moved (r := 22) s ((fv__law_is_lot_b_3 s c).mono (by decide)) (fun i m sp h hi => (du_dnL s c i m sp h hi).mono (by decide)) hr) (fun ds Q X _ h => p__law_moved ds Q X h)⟩
theorem fv__law_moved_4 (s : Sx K mg) (c : SaysW ck fnL xnL K) : FnV PP w K mg base (tab K) 25 (ga K "_law_moved") [false, false, false, false] [] sp__law_moved := by
  obtain ⟨fd, F, G⟩ := ok__law_moved (w := w) (base := base) s c
  exact mkFn0 F G fun _ _ _ _ _ _ us hl => match us, hl with | [_, _, _, _], _ => rfl
theorem ok__law_joined (s : Sx K mg) (c : SaysW ck fnL xnL K) : ∃ fd, FunD K "_law_joined" "_law_joined" (defArgs s__law_joined) (defBody s__law_joined) (defScope s__law_joined) [] [] (ga K "_law_joined") fd ∧ FnOk PP w K mg base (L2.CX PP w) 25 (ga K "_law_joined") fd ["one", "two", "n", "first", "second"] (SpV (tab K) K [false, false, false, false, false] sp__law_joined) := by
  obtain ⟨fd, F⟩ := c.def_ 38 (d := dv__law_joined)
  exact ⟨fd, F, fnV F sc__law_joined rfl (fun cdv A outer st H E hr => d__law_joined (r := 22) s ((fv__law_is_lot_b_3 s c).mono (by decide)) (fun i m sp h hi => (du_dnL s c i m sp h hi).mono (by decide)) hr) (fun ds Q X _ h => p__law_joined ds Q X h)⟩
theorem fv__law_joined_5 (s : Sx K mg) (c : SaysW ck fnL xnL K) : FnV PP w K mg base (tab K) 25 (ga K "_law_joined") [false, false, false, false, false] [] sp__law_joined := by
  obtain ⟨fd, F, G⟩ := ok__law_joined (w := w) (base := base) s c
  exact mkFn0 F G fun _ _ _ _ _ _ us hl => match us, hl with | [_, _, _, _, _], _ => rfl
theorem ok__law_kept_apart (s : Sx K mg) (c : SaysW ck fnL xnL K) : ∃ fd, FunD K "_law_kept_apart" "_law_kept_apart" (defArgs s__law_kept_apart) (defBody s__law_kept_apart) (defScope s__law_kept_apart) [] [] (ga K "_law_kept_apart") fd ∧ FnOk PP w K mg base (L2.CX PP w) 13 (ga K "_law_kept_apart") fd ["one", "two", "way"] (SpV (tab K) K [false, false, false] sp__law_kept_apart) := by
  obtain ⟨fd, F⟩ := c.def_ 39 (d := dv__law_kept_apart)
  exact ⟨fd, F, fnV F sc__law_kept_apart rfl (fun cdv A outer st H E hr => d__law_kept_apart (r := 10) s (fun i m sp h hi => (du_dnL s c i m sp h hi).mono (by decide)) hr) (fun ds Q X _ h => p__law_kept_apart ds Q X h)⟩
theorem fv__law_kept_apart_3 (s : Sx K mg) (c : SaysW ck fnL xnL K) : FnV PP w K mg base (tab K) 13 (ga K "_law_kept_apart") [false, false, false] [] sp__law_kept_apart := by
  obtain ⟨fd, F, G⟩ := ok__law_kept_apart (w := w) (base := base) s c
  exact mkFn0 F G fun _ _ _ _ _ _ us hl => match us, hl with | [_, _, _], _ => rfl
theorem ok__law_part_b (s : Sx K mg) (c : SaysW ck fnL xnL K) : ∃ fd, FunD K "_law_part_b" "_law_part_b" (defArgs s__law_part_b) (defBody s__law_part_b) (defScope s__law_part_b) [] [] (ga K "_law_part_b") fd ∧ FnOk PP w K mg base (L2.CX PP w) 28 (ga K "_law_part_b") fd ["script"] (SpV (tab K) K [false] sp__law_part_b) := by
  obtain ⟨fd, F⟩ := c.def_ 40 (d := dv__law_part_b)
  exact ⟨fd, F, fnV F sc__law_part_b rfl (fun cdv A outer st H E hr => d__law_part_b (r := 25) s ((fv__law_cell_2 s c).mono (by decide)) ((fv__law_draws_3 s c).mono (by decide)) ((fv__law_drawn_lot_4 s c).mono (by decide)) ((fv__law_other_ring_2 s c).mono (by decide)) ((fv__law_turn_4 s c).mono (by decide)) ((fv_Lot___init___3 s c).mono (by decide)) ((fv__law_moved_4 s c).mono (by decide)) ((fv__law_joined_5 s c).mono (by decide)) ((fv__law_kept_apart_3 s c).mono (by decide)) ((fv__law_is_lot_b_3 s c).mono (by decide)) (fun i m sp h hi => (du_dnL s c i m sp h hi).mono (by decide)) hr) (fun ds Q X _ h => p__law_part_b ds Q X h)⟩
theorem fv__law_part_b_1 (s : Sx K mg) (c : SaysW ck fnL xnL K) : FnV PP w K mg base (tab K) 28 (ga K "_law_part_b") [false] [] sp__law_part_b := by
  obtain ⟨fd, F, G⟩ := ok__law_part_b (w := w) (base := base) s c
  exact mkFn0 F G fun _ _ _ _ _ _ us hl => match us, hl with | [_], _ => rfl
theorem ok_law (s : Sx K mg) (c : SaysW ck fnL xnL K) : ∃ fd, FunD K "law" "law" (defArgs s_law) (defBody s_law) (defScope s_law) [] [] (ga K "law") fd ∧ FnOk PP w K mg base (L2.CX PP w) 31 (ga K "law") fd ["script"] (SpV (tab K) K [false] sp_law) := by
  obtain ⟨fd, F⟩ := c.def_ 41 (d := dv_law)
  exact ⟨fd, F, fnV F sc_law rfl (fun cdv A outer st H E hr => d_law (r := 28) s ((fv__law_part_a_1 s c).mono (by decide)) ((fv__law_part_b_1 s c).mono (by decide)) (fun i m sp h hi => (du_dnL s c i m sp h hi).mono (by decide)) hr) (fun ds Q X _ h => p_law ds Q X h)⟩
theorem fv_law_1 (s : Sx K mg) (c : SaysW ck fnL xnL K) : FnV PP w K mg base (tab K) 31 (ga K "law") [false] [] sp_law := by
  obtain ⟨fd, F, G⟩ := ok_law (w := w) (base := base) s c
  exact mkFn0 F G fun _ _ _ _ _ _ us hl => match us, hl with | [_], _ => rfl
end
def names0 : List Str := ["_wall", "WatchError", "BadNumber", "RepeatedHour", "Meets", "OtherHours", "OtherHouse", "NotADivisor", "Refused", "hours_checked", "rings_checked", "first_repeated", "each_once", "Lot", "_law_cell", "_law_draws", "_law_is_int", "_law_same", "_law_digits", "_law_zigzag"]
def names1 : List Str := ["_law_bits", "_law_subset", "_law_hours", "_law_values", "_law_first_repeated", "_law_told_lot", "_law_told_full", "_law_kinds", "_law_is_lot", "_law_equalities", "_law_membership", "_law_part_a", "_law_drawn_lot", "_law_other_ring", "_law_turn", "_law_is_lot_b", "_law_moved", "_law_joined", "_law_kept_apart", "_law_part_b"]
abbrev RR : PySem.W.OpenRow := PySem.W.OpenLaw.row PySem.Challenge.rw_beatswatched_k01_lots_told
abbrev hk : PySem.W.Hook := hookW 6 ck fnL xnL
def ob (s : PySem.W.SharedT) : AlW := obsWG 6 ck fnL xnL (HandSHeadRun.getT s)
theorem ob_eq (s : PySem.W.SharedT) : ob s = hk.obs s.abs := obsWG_eq (HandSHeadRun.getT_eq s)
abbrev qv : Program := PySem.W.view RR.prog [44]
def loose : List Str := names0 ++ names1
theorem run (w : World) : HandSHeadRun.RunEq RR qv hk ob 100000 loose w := by
  intro os
  kernel_rfl
theorem facts {w : World} {K : PySem.W.Frag} {h : Heap} {mg : Str → Option Value} {f : Addr} (X : K.In h) (G : h.Ns mainGlobals mg) (hfa : mg ("law" : Str) = some (.ref f)) (c : SaysW ck fnL xnL K) :
    ∃ fd : FuncData, (∀ (s : Shared) (v : Value), BindsTo s fd ⟨[v], []⟩ [("script", v)]) ∧ ∀ base : Heap, K.In base → base.Ns mainGlobals mg → FnOk PP w K mg base (L2.CX PP w) 31 f fd ["script"] (SpV (tab K) K [false] sp_law) := by
  obtain ⟨fd, F⟩ := c.def_ 41 (d := dv_law)
  have e := hfa.symm.trans (glo_ok X G (x := "law") (show (Fa.glo "law").ok K = true from chk_at c.chk 84))
  cases e
  have b := FunD.bindsA (ps := ["script"]) F fun _ _ _ _ _ _ us hl => match us, hl with | [_], _ => rfl
  refine ⟨fd, fun s v => b s [v] rfl, fun base _ _ => ?_⟩
  obtain ⟨fd2, F2, G2⟩ := ok_law (w := w) (base := base) (sx X G c) c
  have : fd2 = fd := FunD.same F2 F
  rw [← this]
  exact G2
theorem law_end (ns : List Int) (hl : ns.length ≤ 63) (hz : ∀ z ∈ ns, Builtin.Int.intBits z ≤ 1048576) : sp_law [.scr ns] (fun r => r = .fz (.bl true)) (fun _ => False) := by
  first | exact ⟨ns, rfl, rfl⟩ | exact ⟨ns, rfl, hl, rfl⟩ | exact ⟨ns, rfl, hl, hz, rfl⟩
end VL
open PySem PySem.W PySem.Calls PyProof.Rows
theorem PySem.Challenge.cw_beatswatched_k01_lots_told_holds : PySem.Challenge.rw_beatswatched_k01_lots_told.Holds := by
  w_on; o_law
  refine HandSHeadRun.head_any (r := OpenLaw.row PySem.Challenge.rw_beatswatched_k01_lots_told) (q := VL.qv) (H := VL.hk) (ob := VL.ob) (M := 100000) (loose := VL.loose) (d := HandSHeadRun.topDef (OpenLaw.row PySem.Challenge.rw_beatswatched_k01_lots_told).prog 44) (kwd := []) VL.ob_eq
    (by kernel_rfl) (fun s => by kernel_rfl) VL.run (by kernel_rfl) (by kernel_rfl) (by kernel_rfl) (by rfl) (by first | assumption | decide +kernel) (by decide +kernel) ⟨rfl, rfl, rfl, rfl, rfl, by decide +kernel⟩ ?hw ?hc
  case hw => w_witness2
  case hc =>
    refine VL.walk_V (l := PySem.Challenge.rw_beatswatched_k01_lots_told) (k := 31) rfl (by kernel_rfl) ⟨rfl, by decide, by decide⟩ ?F
    case F =>
      intro w mg fa h Y G hmg0
      obtain ⟨K, KX, c⟩ := Y
      have hmg : mg ("law" : PySem.Str) = some (.ref fa) := by
        have e : (HandSHeadRun.topDef (OpenLaw.row PySem.Challenge.rw_beatswatched_k01_lots_told).prog 44).name = ("law" : PySem.Str) := by kernel_rfl
        rw [← e]
        exact hmg0
      obtain ⟨fd, hb, hF⟩ := VL.facts (w := w) KX G hmg c
      exact ⟨K, fd, VL.tab K, VL.sp_law, KX, hb, fun ns hl hz => VL.law_end ns hl hz, hF⟩
end
