import PyProof.Rows.All
import Wide.All
import OpenK.AllK
import Wide.FinOn
import HandS.ForMost
import HandS.Evl
import HandS.Walk
import HandS.IsInst
import HandS.TupAny
import HandS.TupLe
import HandS.Style
import HandS.Conv
import HandS.SetFor
import HandS.SortInts
import HandS.ListItems
import HandS.DictTup
import KE.GoesMore
import KE.KTupSum
import PyProof.SumAny
import HandS.SortOrd
import HandS.SortRule
import HandS.DictComp
import KE.SortData
import KE.DataEq
import PyProof.ReprRoads
import HandS.Deep
import HandS.Star
import HandS.TupMul
import HandS.TupLen
import HandS.Ends
import KE.KDictCopyH
import PyProof.Rows.TupDisplay
import HandS.Gcd
import HandS.Small
import HandS.WordsDict
import PyProof.ReprBulk
import HandS.Text
import PySem.Challenge.RW_roundhours_k77_whole_nets_beside_plans
set_option Elab.async false
set_option linter.all false
set_option maxRecDepth 100000
set_option maxHeartbeats 4000000
/-! Dl1: a layer over HandS where values are Lean data: what a Lean value looks like in the abstract heap (Arg, Rep), what an expression evaluates to (EvR, RX, RF), lemmas by construct. -/
namespace DL
open PySem L2 Evl

/-- what is a tuple stays that tuple -/
def ExT (H H' : Hp) : Prop := ∀ a xs, H a = some (HO.tup xs) → H' a = some (HO.tup xs)
theorem ExT.refl (H : Hp) : ExT H H := fun _ _ h => h
theorem ExT.trans {H H1 H2 : Hp} (a : ExT H H1) (b : ExT H1 H2) : ExT H H2 := fun x o h => b x o (a x o h)
theorem exT {H H' : Hp} (e : Ex H H') : ExT H H' := fun a xs h => e a _ h
theorem exT_upd {H : Hp} {p : Addr} {o : HO} (h : ∀ xs, H p ≠ some (.tup xs)) : ExT H (upd H p o) := fun a xs e => by
  rw [upd_ne (fun z => h xs (by rw [← z]; exact e))]
  exact e

class Arg (α : Type) where
  rp : α → V → Hp → Prop
  mn : ∀ {a : α} {v : V} {H H' : Hp}, Ex H H' → rp a v H → rp a v H'
class Rep (α : Type) extends Arg α where
  mt : ∀ {a : α} {v : V} {H H' : Hp}, ExT H H' → rp a v H → rp a v H'
@[reducible] def Rep.of {α : Type} (r : α → V → Hp → Prop) (h : ∀ {a : α} {v : V} {H H' : Hp}, ExT H H' → r a v H → r a v H') : Rep α := { rp := r, mn := fun e x => h (exT e) x, mt := h }
open Arg (rp mn)
open Rep (mt)

/-- a list whose items are such things, at vs -/
abbrev Its {α : Type} [Arg α] (as : List α) (vs : List V) (H : Hp) : Prop := Paired (fun (x : α) y => rp x y H) as vs
theorem Its.mono {α : Type} [Arg α] {as : List α} {vs : List V} {H H' : Hp} (e : Ex H H') (h : Its as vs H) : Its as vs H' := L2.Paired.mapP h fun _ _ r => mn e r
theorem Its.mt {α : Type} [Rep α] {as : List α} {vs : List V} {H H' : Hp} (e : ExT H H') (h : Its as vs H) : Its as vs H' := L2.Paired.mapP h fun _ _ r => Rep.mt e r

/-- a tuple | a list of such things | a dict from numbers to numbers -/
def Tup (α : Type) := List α
def Lst (α : Type) := List α
def DNN := List (Nat × Nat)
instance repInt : Rep Int := Rep.of (fun i v _ => v = .int i) fun _ h => h
instance repNat : Rep Nat := Rep.of (fun i v _ => v = .int (i : Int)) fun _ h => h
instance repBool : Rep Bool := Rep.of (fun b v _ => v = .bl b) fun _ h => h
instance repUnit : Rep Unit := Rep.of (fun _ v _ => v = .non) fun _ h => h
instance repOpt {α : Type} [Rep α] : Rep (Option α) := Rep.of (fun o v H => match o with | none => v = .non | some a => rp a v H) fun {a v H H'} e h => by
  cases a with
  | none => exact h
  | some a => exact mt (α := α) e h
instance repTup {α : Type} [Rep α] : Rep (Tup α) := Rep.of (fun t v H => ∃ a vs, v = .ref a ∧ H a = some (.tup vs) ∧ Its (α := α) t vs H) fun e h => by
  obtain ⟨a, vs, h1, h2, h3⟩ := h
  exact ⟨a, vs, h1, e _ _ h2, Its.mt e h3⟩
instance repPair {α β : Type} [Rep α] [Rep β] : Rep (α × β) := Rep.of (fun p v H => ∃ a x y, v = .ref a ∧ H a = some (.tup [x, y]) ∧ rp p.1 x H ∧ rp p.2 y H) fun e h => by
  obtain ⟨a, x, y, h1, h2, h3, h4⟩ := h
  exact ⟨a, x, y, h1, e _ _ h2, mt e h3, mt e h4⟩
instance argLst {α : Type} [Arg α] : Arg (Lst α) := ⟨fun t v H => ∃ a vs, v = .ref a ∧ H a = some (.lst vs) ∧ Its (α := α) t vs H, fun e h => let ⟨a, vs, h1, h2, h3⟩ := h; ⟨a, vs, h1, e _ _ h2, h3.mono e⟩⟩
def dnn (kvs : List (Nat × Nat)) : List (Key × V) := kvs.map fun p => (Sum.inl (p.1 : Int), V.int (p.2 : Int))
instance argDNN : Arg DNN := ⟨fun t v H => ∃ a, v = .ref a ∧ H a = some (.dK (dnn t)), fun e h => let ⟨a, h1, h2⟩ := h; ⟨a, h1, e _ _ h2⟩⟩

/-! ### what an expression evaluates to -/
abbrev Res := Hp → V → Hp → Prop
def RX {α : Type} [Arg α] (a : α) : Res := fun H v H' => Ex H H' ∧ rp a v H'
/-- a new list -/
def RF {α : Type} [Arg α] (as : List α) : Res := fun H v H' => Ex H H' ∧ ∃ p vs, v = .ref p ∧ H p = none ∧ H' p = some (.lst vs) ∧ Its as vs H'
/-- a new dict -/
def RD (kvs : List (Key × V)) : Res := fun H v H' => Ex H H' ∧ ∃ p, v = .ref p ∧ H p = none ∧ H' p = some (.dK kvs)
structure Bk (R : Res) : Prop where
  bk : ∀ {H1 H2 : Hp} {v : V} {H3 : Hp}, Ex H1 H2 → R H2 v H3 → R H1 v H3
theorem RX.bk {α : Type} [Arg α] {a : α} : Bk (RX a) := ⟨fun e h => ⟨e.trans h.1, h.2⟩⟩
theorem RF.bk {α : Type} [Arg α] {a : List α} : Bk (RF a) := ⟨fun e h => let ⟨p, vs, h1, h2, h3, h4⟩ := h.2; ⟨e.trans h.1, p, vs, h1, fresh_back e h2, h3, h4⟩⟩
theorem RD.bk {a : List (Key × V)} : Bk (RD a) := ⟨fun e h => let ⟨p, h1, h2, h3⟩ := h.2; ⟨e.trans h.1, p, h1, fresh_back e h2, h3⟩⟩
def EvR (te : TE) (σ : L2.St) (H : Hp) (R : Res) : Prop := ∀ H1, Ex H H1 → ∀ Q : VK, (∀ v H2, R H1 v H2 → Q v H2) → te σ H1 Q
abbrev EX {α : Type} [Arg α] (te : TE) (σ : L2.St) (H : Hp) (a : α) : Prop := EvR te σ H (RX a)
abbrev ET {α : Type} [Rep α] (te : TE) (σ : L2.St) (H : Hp) (a : List α) : Prop := EX (α := Tup α) te σ H a
abbrev EL {α : Type} [Arg α] (te : TE) (σ : L2.St) (H : Hp) (a : List α) : Prop := EX (α := Lst α) te σ H a
abbrev ED (te : TE) (σ : L2.St) (H : Hp) (a : List (Nat × Nat)) : Prop := EX (α := DNN) te σ H a
abbrev EF {α : Type} [Arg α] (te : TE) (σ : L2.St) (H : Hp) (as : List α) : Prop := EvR te σ H (RF as)

section
variable {K : PySem.W.Frag} {σ : L2.St} {H H' : Hp} {ta tb te tc : TE} {tt tu : TT} {R R' : Res} {α β γ : Type}
theorem EvR.mono (e : Ex H H') (h : EvR te σ H R) : EvR te σ H' R := fun H1 a Q q => h H1 (e.trans a) Q q
theorem EvR.to (h : EvR te σ H R) (k : ∀ H1 v H2, R H1 v H2 → R' H1 v H2) : EvR te σ H R' := fun H1 e Q q => h H1 e Q fun v H2 r => q v H2 (k H1 v H2 r)
theorem EvR.x [Arg α] {as : List α} (h : EF te σ H as) : EL te σ H as := h.to fun H1 v H2 ⟨e, p, vs, h1, _, h3, h4⟩ => ⟨e, p, vs, h1, h3, h4⟩
theorem EvR.d {kvs : List (Nat × Nat)} (h : EvR te σ H (RD (dnn kvs))) : ED te σ H kvs := h.to fun H1 v H2 ⟨e, p, h1, _, h3⟩ => ⟨e, p, h1, h3⟩
theorem ex_is [Arg α] {a b : α} (h : EX te σ H a) (e : a = b) : EX te σ H b := e ▸ h
theorem ef_is [Arg α] {a b : List α} (h : EF te σ H a) (e : a = b) : EF te σ H b := e ▸ h
/-- a value that is known, the heap as it is -/
theorem ev_eq [Arg α] {a : α} {v : V} (h : Ev te σ H v) (r : rp a v H) : EX te σ H a := fun H1 e Q q => h H1 e Q fun H2 e2 => q v H2 ⟨e2, mn (e.trans e2) r⟩
theorem x_var [Arg α] {a : α} {i : Nat} {v : V} (h : σ[i]? = some (some v)) (r : rp a v H) : EX (tVar i) σ H a := ev_eq (ev_var h) r
theorem x_c [Arg α] {a : α} {v : V} (r : rp a v H) : EX (tC v) σ H a := ev_eq ev_c r
theorem x_n {n : Nat} {i : Int} (h : i = (n : Int)) : EX (tC (.int i)) σ H n := x_c (show V.int i = V.int (n : Int) by rw [h])
theorem x_i {i : Int} : EX (tC (.int i)) σ H i := x_c (show V.int i = V.int i from rfl)
theorem x_b {b : Bool} : EX (tC (.bl b)) σ H b := x_c (show V.bl b = V.bl b from rfl)
theorem x_non [Rep α] : EX (tC .non) σ H (none : Option α) := x_c (show V.non = V.non from rfl)
theorem x_some [Rep α] {a : α} (h : EX te σ H a) : EX te σ H (some a) := h
/-- Nat as Int -/
theorem x_ni {n : Nat} (h : EX te σ H n) : EX te σ H (n : Int) := h
theorem x_in {n : Nat} {i : Int} (h : EX te σ H i) (e : i = (n : Int)) : EX te σ H n := h.to fun H1 v H2 ⟨e1, r⟩ => ⟨e1, (show v = V.int (n : Int) by rw [← e]; exact r)⟩

/-! two ints -/
theorem x_I {C : Int → Int → Prop} {g : Int → Int → V} {i j : Int} {c : γ} [Arg γ] (ha : EX ta σ H i) (hb : EX tb σ H j) (hC : C i j) (hr : ∀ H, rp c (g i j) H) : EX (tOp (rI C g) ta tb) σ H c := fun H1 e Q q =>
  ha H1 e _ fun v H2 ⟨e2, r2⟩ => hb H2 (e.trans e2) _ fun u H3 ⟨e3, r3⟩ => ⟨i, j, r2, r3, hC, q _ _ ⟨e2.trans e3, hr _⟩⟩
theorem x_I0 {g : Int → Int → V} {i j : Int} {c : γ} [Arg γ] (ha : EX ta σ H i) (hb : EX tb σ H j) (hr : ∀ H, rp c (g i j) H) : EX (tOp (rI0 g) ta tb) σ H c := fun H1 e Q q =>
  ha H1 e _ fun v H2 ⟨e2, r2⟩ => hb H2 (e.trans e2) _ fun u H3 ⟨e3, r3⟩ => ⟨i, j, r2, r3, q _ _ ⟨e2.trans e3, hr _⟩⟩
theorem x_add {i j : Int} (ha : EX ta σ H i) (hb : EX tb σ H j) : EX (tOp (rI0 fun i j => .int (i + j)) ta tb) σ H (i + j) := x_I0 ha hb fun _ => rfl
theorem x_sub {i j : Int} (ha : EX ta σ H i) (hb : EX tb σ H j) : EX (tOp (rI0 fun i j => .int (i - j)) ta tb) σ H (i - j) := x_I0 ha hb fun _ => rfl
theorem x_addN {i j : Nat} (ha : EX ta σ H i) (hb : EX tb σ H j) : EX (tOp (rI0 fun i j => .int (i + j)) ta tb) σ H (i + j) := x_I0 (i := (i : Int)) (j := (j : Int)) ha hb fun _ => rfl
theorem x_mul {i j : Int} (ha : EX ta σ H i) (hb : EX tb σ H j) (hC : CMul i j) : EX (tOp (rI CMul fun i j => .int (i * j)) ta tb) σ H (i * j) := x_I ha hb hC fun _ => rfl
theorem x_lt {i j : Int} (ha : EX ta σ H i) (hb : EX tb σ H j) : EX (tOp (rI0 fun i j => .bl (decide (i < j))) ta tb) σ H (decide (i < j)) := x_I0 ha hb fun _ => rfl
theorem x_le {i j : Int} (ha : EX ta σ H i) (hb : EX tb σ H j) : EX (tOp (rI0 fun i j => .bl (decide (i ≤ j))) ta tb) σ H (decide (i ≤ j)) := x_I0 ha hb fun _ => rfl
theorem x_gt {i j : Int} (ha : EX ta σ H i) (hb : EX tb σ H j) : EX (tOp (rI0 fun i j => .bl (decide (j < i))) ta tb) σ H (decide (j < i)) := x_I0 ha hb fun _ => rfl
theorem x_ge {i j : Int} (ha : EX ta σ H i) (hb : EX tb σ H j) : EX (tOp (rI0 fun i j => .bl (decide (j ≤ i))) ta tb) σ H (decide (j ≤ i)) := x_I0 ha hb fun _ => rfl
theorem bl_eq {b c : Bool} (h : b = c) : ∀ H : Hp, rp (α := Bool) c (V.bl b) H := fun _ => by rw [h]; rfl
theorem x_ltN {i j : Nat} (ha : EX ta σ H i) (hb : EX tb σ H j) : EX (tOp (rI0 fun i j => .bl (decide (i < j))) ta tb) σ H (decide (i < j)) := x_I0 (i := (i : Int)) (j := (j : Int)) ha hb (bl_eq (decide_eq_decide.mpr Int.ofNat_lt))
theorem x_leN {i j : Nat} (ha : EX ta σ H i) (hb : EX tb σ H j) : EX (tOp (rI0 fun i j => .bl (decide (i ≤ j))) ta tb) σ H (decide (i ≤ j)) := x_I0 (i := (i : Int)) (j := (j : Int)) ha hb (bl_eq (decide_eq_decide.mpr Int.ofNat_le))
theorem x_gtN {i j : Nat} (ha : EX ta σ H i) (hb : EX tb σ H j) : EX (tOp (rI0 fun i j => .bl (decide (j < i))) ta tb) σ H (decide (j < i)) := x_I0 (i := (i : Int)) (j := (j : Int)) ha hb (bl_eq (decide_eq_decide.mpr Int.ofNat_lt))
theorem x_geN {i j : Nat} (ha : EX ta σ H i) (hb : EX tb σ H j) : EX (tOp (rI0 fun i j => .bl (decide (j ≤ i))) ta tb) σ H (decide (j ≤ i)) := x_I0 (i := (i : Int)) (j := (j : Int)) ha hb (bl_eq (decide_eq_decide.mpr Int.ofNat_le))
/-- ==, != of flat things -/
theorem x_eqS [Arg α] [Arg β] {a : α} {b : β} {c : Bool} (ha : EX ta σ H a) (hb : EX tb σ H b) (h : ∀ u v H, rp a u H → rp b v H → scal u v = true ∧ decide (u = v) = c) : EX (tOp rEq ta tb) σ H c := fun H1 e Q q =>
  ha H1 e _ fun v H2 ⟨e2, r2⟩ => hb H2 (e.trans e2) _ fun u H3 ⟨e3, r3⟩ => by
    obtain ⟨h1, h2⟩ := h v u H3 (mn e3 r2) r3
    exact ⟨h1, q _ _ ⟨e2.trans e3, bl_eq h2 _⟩⟩
theorem x_neS [Arg α] [Arg β] {a : α} {b : β} {c : Bool} (ha : EX ta σ H a) (hb : EX tb σ H b) (h : ∀ u v H, rp a u H → rp b v H → scal u v = true ∧ decide (u = v) = c) : EX (tOp rNe ta tb) σ H (!c) := fun H1 e Q q =>
  ha H1 e _ fun v H2 ⟨e2, r2⟩ => hb H2 (e.trans e2) _ fun u H3 ⟨e3, r3⟩ => by
    obtain ⟨h1, h2⟩ := h v u H3 (mn e3 r2) r3
    exact ⟨h1, q _ _ ⟨e2.trans e3, by rw [h2]; rfl⟩⟩
theorem sc_int {i j : Int} : ∀ u v H, rp i u H → rp j v H → scal u v = true ∧ decide (u = v) = decide (i = j) := fun u v H h1 h2 => by
  have e1 : u = V.int i := h1
  have e2 : v = V.int j := h2
  subst e1 e2
  exact ⟨rfl, decide_eq_decide.mpr ⟨fun z => V.int.inj z, fun z => by rw [z]⟩⟩
theorem sc_nat {i j : Nat} : ∀ u v H, rp i u H → rp j v H → scal u v = true ∧ decide (u = v) = decide (i = j) := fun u v H h1 h2 => by
  have e1 : u = V.int (i : Int) := h1
  have e2 : v = V.int (j : Int) := h2
  subst e1 e2
  exact ⟨rfl, decide_eq_decide.mpr ⟨fun z => Int.ofNat.inj (V.int.inj z), fun z => by rw [z]⟩⟩
theorem sc_bool {i j : Bool} : ∀ u v H, rp i u H → rp j v H → scal u v = true ∧ decide (u = v) = decide (i = j) := fun u v H h1 h2 => by
  have e1 : u = V.bl i := h1
  have e2 : v = V.bl j := h2
  subst e1 e2
  exact ⟨rfl, decide_eq_decide.mpr ⟨fun z => V.bl.inj z, fun z => by rw [z]⟩⟩
theorem sc_on {i j : Option Nat} : ∀ u v H, rp i u H → rp j v H → scal u v = true ∧ decide (u = v) = decide (i = j) := fun u v H h1 h2 => by
  cases i with
  | none =>
    have e1 : u = V.non := h1
    subst e1
    cases j with
    | none =>
      have e2 : v = V.non := h2
      subst e2
      exact ⟨rfl, rfl⟩
    | some j =>
      have e2 : v = V.int (j : Int) := h2
      subst e2
      exact ⟨rfl, by simp⟩
  | some i =>
    have e1 : u = V.int (i : Int) := h1
    subst e1
    cases j with
    | none =>
      have e2 : v = V.non := h2
      subst e2
      exact ⟨rfl, by simp⟩
    | some j =>
      obtain ⟨a, b⟩ := sc_nat (i := i) (j := j) (V.int (i : Int)) v H rfl h2
      exact ⟨a, b.trans (decide_eq_decide.mpr ⟨fun z => by rw [z], fun z => Option.some.inj z⟩)⟩
theorem x_eqN {i j : Nat} (ha : EX ta σ H i) (hb : EX tb σ H j) : EX (tOp rEq ta tb) σ H (decide (i = j)) := x_eqS ha hb sc_nat
theorem x_neB {i j : Bool} (ha : EX ta σ H i) (hb : EX tb σ H j) : EX (tOp rNe ta tb) σ H (!decide (i = j)) := x_neS ha hb sc_bool

/-! booleans -/
theorem x_and {a b : Bool} (h1 : EX ta σ H a) (h2 : a = true → EX tb σ H b) : EX (tAndV ta tb) σ H (a && b) := fun H1 e Q q => h1 H1 e _ fun v H2 ⟨e2, r2⟩ => ⟨a, r2, by
  cases a with
  | true =>
    show tb σ H2 Q
    exact h2 rfl H2 (e.trans e2) Q fun v H3 ⟨e3, r3⟩ => q v H3 ⟨e2.trans e3, r3⟩
  | false =>
    show Q (.bl false) H2
    exact q _ H2 ⟨e2, rfl⟩⟩
theorem x_or {a b : Bool} (h1 : EX ta σ H a) (h2 : a = false → EX tb σ H b) : EX (tOrV ta tb) σ H (a || b) := fun H1 e Q q => h1 H1 e _ fun v H2 ⟨e2, r2⟩ => ⟨a, r2, by
  cases a with
  | true =>
    show Q (.bl true) H2
    exact q _ H2 ⟨e2, rfl⟩
  | false =>
    show tb σ H2 Q
    exact h2 rfl H2 (e.trans e2) Q fun v H3 ⟨e3, r3⟩ => q v H3 ⟨e2.trans e3, r3⟩⟩
theorem x_not {a : Bool} (h1 : EX ta σ H a) : EX (tNotV ta) σ H (!a) := fun H1 e Q q => h1 H1 e _ fun v H2 ⟨e2, r2⟩ => ⟨a, r2, q _ _ ⟨e2, rfl⟩⟩
theorem t_test {b : Bool} (h : EX te σ H b) : EvT (tTest te) σ H b := fun H1 e _ q => h H1 e _ fun v H2 ⟨e2, r2⟩ => ⟨b, r2, q H2 e2⟩
theorem t_B {b : Bool} (h : EX te σ H b) : EvT (tB te) σ H b := fun H1 e _ q => h H1 e _ fun v H2 ⟨e2, r2⟩ => ⟨b, r2, q H2 e2⟩
theorem t_yes : EvT tYes σ H true := fun H1 _ _ q => q H1 (Ex.refl H1)
theorem x_if [Arg α] {b : Bool} {x y : α} (h : EvT tt σ H b) (h1 : b = true → EX ta σ H x) (h2 : b = false → EX tb σ H y) : EX (tIf tt ta tb) σ H (if b then x else y) := fun H1 e Q q => h H1 e _ fun H2 e2 => by
  cases b with
  | true =>
    show ta σ H2 Q
    exact h1 rfl H2 (e.trans e2) Q fun v H3 ⟨e3, r3⟩ => q v H3 ⟨e2.trans e3, r3⟩
  | false =>
    show tb σ H2 Q
    exact h2 rfl H2 (e.trans e2) Q fun v H3 ⟨e3, r3⟩ => q v H3 ⟨e2.trans e3, r3⟩
theorem r_if {b : Bool} (bk : Bk R) (h : EvT tt σ H b) (h1 : b = true → EvR ta σ H R) (h2 : b = false → EvR tb σ H R) : EvR (tIf tt ta tb) σ H R := fun H1 e Q q => h H1 e _ fun H2 e2 => by
  cases b with
  | true =>
    show ta σ H2 Q
    exact h1 rfl H2 (e.trans e2) Q fun v H3 r => q v H3 (bk.bk e2 r)
  | false =>
    show tb σ H2 Q
    exact h2 rfl H2 (e.trans e2) Q fun v H3 r => q v H3 (bk.bk e2 r)
/-- a <= b < c, ints -/
theorem x_chain {g g' : Int → Int → Bool} {i j k : Int} (h1 : EX ta σ H i) (h2 : EX tb σ H j) (h3 : EX tc σ H k) : EX (tChain (rI0 fun i j => .bl (g i j)) (rI0 fun i j => .bl (g' i j)) ta tb tc) σ H (g i j && g' j k) := fun H1 e Q q =>
  h1 H1 e _ fun v H2 ⟨e2, r2⟩ => h2 H2 (e.trans e2) _ fun u H3 ⟨e3, r3⟩ => ⟨i, j, r2, r3, g i j, rfl, by
    cases hg : g i j with
    | true =>
      show tc σ H3 _
      exact h3 H3 ((e.trans e2).trans e3) _ fun w H4 ⟨e4, r4⟩ => ⟨j, k, r3, r4, q _ _ ⟨(e2.trans e3).trans e4, bl_eq (by rw [hg]; rfl) _⟩⟩
    | false =>
      show Q (.bl false) H3
      exact q _ _ ⟨e2.trans e3, bl_eq (by rw [hg]; rfl) _⟩⟩
theorem isNon [Rep α] {o : Option α} {v : V} {H : Hp} (hn : ∀ (a : α) v H, rp a v H → v ≠ .non) (h : rp o v H) : decide (v = .non) = o.isNone := by
  cases o with
  | none =>
    have e : v = .non := h
    rw [e]
    rfl
  | some a =>
    have e : v ≠ .non := hn a v H h
    simp [e]
theorem x_isN [Rep α] {o : Option α} (hn : ∀ (a : α) v H, rp a v H → v ≠ .non) (h : EX ta σ H o) : EX (tIsN ta) σ H o.isNone := fun H1 e Q q => h H1 e _ fun v H2 ⟨e2, r2⟩ => q _ _ ⟨e2, bl_eq (isNon hn r2) _⟩
theorem x_notN [Rep α] {o : Option α} (hn : ∀ (a : α) v H, rp a v H → v ≠ .non) (h : EX ta σ H o) : EX (tNotN ta) σ H (!o.isNone) := fun H1 e Q q => h H1 e _ fun v H2 ⟨e2, r2⟩ => q _ _ ⟨e2, by rw [isNon hn r2]; rfl⟩
theorem nn_nat : ∀ (a : Nat) v H, rp a v H → v ≠ .non := fun a v H h z => by
  have e : v = V.int (a : Int) := h
  rw [z] at e
  cases e
theorem nn_tup [Rep α] : ∀ (a : Tup α) v H, rp a v H → v ≠ .non := fun a v H h z => by
  obtain ⟨p, vs, e, _⟩ := h
  rw [z] at e
  cases e

/-! tuples, lists: made, read -/
theorem Its.len [Arg α] {as : List α} {vs : List V} (h : Its as vs H) : as.length = vs.length := Paired.length h
theorem Its.get [Arg α] : ∀ {as : List α} {vs : List V} {i : Nat} {a : α}, Its as vs H → as[i]? = some a → ∃ v, vs[i]? = some v ∧ rp a v H
  | _, _, 0, _, .cons r _, e => by
    have e := Option.some.inj e
    subst e
    exact ⟨_, rfl, r⟩
  | _, _, i + 1, a, .cons _ t, e => Its.get (i := i) t e
theorem Its.back [Arg α] : ∀ {as : List α} {vs : List V} {i : Nat} {v : V}, Its as vs H → vs[i]? = some v → ∃ a, as[i]? = some a ∧ rp a v H
  | _, _, 0, _, .cons r _, e => by
    have e := Option.some.inj e
    subst e
    exact ⟨_, rfl, r⟩
  | _, _, i + 1, a, .cons _ t, e => Its.back (i := i) t e
theorem x_ixT [Rep α] {t : List α} {i : Nat} {a : α} (ht : ET ta σ H t) (hi : EX tb σ H i) (h : t[i]? = some a) : EX (tOp (rIxT K) ta tb) σ H a := fun H1 e Q q =>
  ht H1 e _ fun v H2 ⟨e2, p, vs, h1, h2, h3⟩ => hi H2 (e.trans e2) _ fun u H3 ⟨e3, r3⟩ => by
    obtain ⟨w, hw, rw'⟩ := Its.get (h3.mono e3) h
    exact ⟨p, vs, (i : Int), w, h1, r3, st_of (e3 _ _ h2), atI_nat hw, q w H3 ⟨e2.trans e3, rw'⟩⟩
theorem x_ixL [Arg α] {t : List α} {i : Nat} {a : α} (ht : EL ta σ H t) (hi : EX tb σ H i) (h : t[i]? = some a) : EX (tOp (rIxL K) ta tb) σ H a := fun H1 e Q q =>
  ht H1 e _ fun v H2 ⟨e2, p, vs, h1, h2, h3⟩ => hi H2 (e.trans e2) _ fun u H3 ⟨e3, r3⟩ => by
    obtain ⟨w, hw, rw'⟩ := Its.get (h3.mono e3) h
    exact ⟨p, vs, (i : Int), w, h1, r3, sq_of (e3 _ _ h2), atI_nat hw, q w H3 ⟨e2.trans e3, rw'⟩⟩
theorem x_fst [Rep α] [Rep β] {t : α × β} (ht : EX ta σ H t) : EX (tOp (rIxT K) ta (tC (.int 0))) σ H t.1 := fun H1 e Q q =>
  ht H1 e _ fun v H2 ⟨e2, p, x, y, h1, h2, h3, h4⟩ => ⟨p, [x, y], 0, x, h1, rfl, st_of h2, atI_nat (j := 0) rfl, q x H2 ⟨e2, h3⟩⟩
theorem x_snd [Rep α] [Rep β] {t : α × β} (ht : EX ta σ H t) : EX (tOp (rIxT K) ta (tC (.int 1))) σ H t.2 := fun H1 e Q q =>
  ht H1 e _ fun v H2 ⟨e2, p, x, y, h1, h2, h3, h4⟩ => ⟨p, [x, y], 1, y, h1, rfl, st_of h2, atI_nat (j := 1) rfl, q y H2 ⟨e2, h4⟩⟩
/-- arguments, items: all of one kind -/
def EXs [Arg α] (ta : TA) (σ : L2.St) (H : Hp) (as : List α) : Prop := ∀ H1, Ex H H1 → ∀ Q : List V → Hp → Prop, (∀ vs H2, Ex H1 H2 → Its as vs H2 → Q vs H2) → ta σ H1 Q
theorem xs_nil [Arg α] : EXs tNil σ H ([] : List α) := fun H1 _ _ q => q [] H1 (Ex.refl H1) .nil
theorem xs_cons [Arg α] {a : α} {as : List α} {tr : TA} (h : EX ta σ H a) (hr : EXs tr σ H as) : EXs (tCons ta tr) σ H (a :: as) := fun H1 e Q q =>
  h H1 e _ fun v H2 ⟨e2, r2⟩ => hr H2 (e.trans e2) _ fun vs H3 e3 r3 => q _ _ (e2.trans e3) (.cons (mn e3 r2) r3)
theorem x_tup [Rep α] {as : List α} {tr : TA} (h : EXs tr σ H as) (hl : as.length ≤ 100000) : ET (tTup tr) σ H as := fun H1 e Q q =>
  h H1 e _ fun vs H2 e2 r2 => ⟨sz_of (by rw [← r2.len]; exact hl), fun p hp => q _ _ ⟨e2.trans (Ex.new hp), p, vs, rfl, upd_same, r2.mono (Ex.new hp)⟩⟩
theorem f_lst [Arg α] {as : List α} {tr : TA} (h : EXs tr σ H as) (hl : as.length ≤ 100000) : EF (tLst tr) σ H as := fun H1 e Q q =>
  h H1 e _ fun vs H2 e2 r2 => ⟨sz_of (by rw [← r2.len]; exact hl), fun p hp => q _ _ ⟨e2.trans (Ex.new hp), p, vs, rfl, fresh_back e2 hp, upd_same, r2.mono (Ex.new hp)⟩⟩
theorem x_pair [Rep α] [Rep β] {a : α} {b : β} (ha : EX ta σ H a) (hb : EX tb σ H b) : EX (tTup (tCons ta (tCons tb tNil))) σ H (a, b) := fun H1 e Q q =>
  ha H1 e _ fun v H2 ⟨e2, r2⟩ => hb H2 (e.trans e2) _ fun u H3 ⟨e3, r3⟩ => ⟨sz_of (show 2 ≤ 100000 by decide), fun p hp => q _ _ ⟨(e2.trans e3).trans (Ex.new hp), p, v, u, rfl, upd_same, mn (e3.trans (Ex.new hp)) r2, mn (Ex.new hp) r3⟩⟩
/-- tuple(a list) -/
theorem x_tupleOf [Rep α] {as : List α} (h : EL ta σ H as) : ET (tCB (fun xs H Q => ∃ p ys, xs = [.ref p] ∧ ((SqL K H p ys ∧ ∀ l, H l = none → Q (.ref l) (upd H l (.tup ys))) ∨ (SqT K H p ys ∧ Q (.ref p) H))) (tCons ta tNil)) σ H as := fun H1 e Q q =>
  h H1 e _ fun v H2 ⟨e2, p, vs, h1, h2, h3⟩ => ⟨p, vs, by rw [h1], .inl ⟨sq_of h2, fun l hl => q _ _ ⟨e2.trans (Ex.new hl), l, vs, rfl, upd_same, Its.mono (Ex.new hl) h3⟩⟩⟩
/-- list(a tuple), list(a list) -/
theorem f_listOfT [Rep α] {as : List α} (h : ET ta σ H as) : EF (tCB (fun xs H Q => ∃ p ys, xs = [.ref p] ∧ (SqL K H p ys ∨ SqT K H p ys) ∧ ∀ l, H l = none → Q (.ref l) (upd H l (.lst ys))) (tCons ta tNil)) σ H as := fun H1 e Q q =>
  h H1 e _ fun v H2 ⟨e2, p, vs, h1, h2, h3⟩ => ⟨p, vs, by rw [h1], .inr (st_of h2), fun l hl => q _ _ ⟨e2.trans (Ex.new hl), l, vs, rfl, fresh_back e2 hl, upd_same, Its.mono (Ex.new hl) h3⟩⟩
/-- len -/
abbrev rLenQ (K : PySem.W.Frag) : List V → Hp → VK → Prop := fun xs H Q => ∃ p ys, xs = [.ref p] ∧ (SqL K H p ys ∨ SqT K H p ys) ∧ Q (.int ys.length) H
theorem x_lenT [Rep α] {as : List α} (h : ET ta σ H as) : EX (tCB (rLenQ K) (tCons ta tNil)) σ H as.length := fun H1 e Q q =>
  h H1 e _ fun v H2 ⟨e2, p, vs, h1, h2, h3⟩ => ⟨p, vs, by rw [h1], .inr (st_of h2), q _ _ ⟨e2, by rw [← Its.len h3]; rfl⟩⟩
theorem x_lenL [Arg α] {as : List α} (h : EL ta σ H as) : EX (tCB (rLenQ K) (tCons ta tNil)) σ H as.length := fun H1 e Q q =>
  h H1 e _ fun v H2 ⟨e2, p, vs, h1, h2, h3⟩ => ⟨p, vs, by rw [h1], .inl (sq_of h2), q _ _ ⟨e2, by rw [← Its.len h3]; rfl⟩⟩
/-- int(n), int(flag) -/
abbrev rIntQ : List V → Hp → VK → Prop := fun xs H Q => (∃ i, xs = [.int i] ∧ Q (.int i) H) ∨ ∃ k, xs = [.bl k] ∧ Q (.int (if k then 1 else 0)) H
theorem x_intB {b : Bool} (h : EX ta σ H b) : EX (tCB rIntQ (tCons ta tNil)) σ H (if b then 1 else 0 : Nat) := fun H1 e Q q =>
  h H1 e _ fun v H2 ⟨e2, r2⟩ => .inr ⟨b, by rw [show v = V.bl b from r2], q _ _ ⟨e2, by cases b <;> rfl⟩⟩
theorem x_intI {i : Int} (h : EX ta σ H i) : EX (tCB rIntQ (tCons ta tNil)) σ H i := fun H1 e Q q =>
  h H1 e _ fun v H2 ⟨e2, r2⟩ => .inl ⟨i, by rw [show v = V.int i from r2], q _ _ ⟨e2, rfl⟩⟩
/-- all, any, sum, max, min of lists -/
theorem its_bool : ∀ {bs : List Bool} {vs : List V}, Its bs vs H → vs = bs.map V.bl
  | _, _, .nil => rfl
  | b :: bs, v :: vs, .cons r t => by
    have e : v = V.bl b := r
    rw [e, its_bool t]
    rfl
theorem its_int : ∀ {bs : List Int} {vs : List V}, Its bs vs H → vs = bs.map V.int
  | _, _, .nil => rfl
  | b :: bs, v :: vs, .cons r t => by
    have e : v = V.int b := r
    rw [e, its_int t]
    rfl
theorem its_nat : ∀ {bs : List Nat} {vs : List V}, Its bs vs H → vs = (bs.map fun n : Nat => (n : Int)).map V.int
  | _, _, .nil => rfl
  | b :: bs, v :: vs, .cons r t => by
    have e : v = V.int (b : Int) := r
    rw [e, its_nat t]
    rfl
theorem of_ints : ∀ (bs : List Int), Its bs (bs.map V.int) H
  | [] => .nil
  | b :: bs => .cons rfl (of_ints bs)
theorem of_nats : ∀ (bs : List Nat), Its bs ((bs.map fun n : Nat => (n : Int)).map V.int) H
  | [] => .nil
  | b :: bs => .cons rfl (of_nats bs)
theorem x_all {bs : List Bool} (h : EL ta σ H bs) : EX (tCB (rAll K) (tCons ta tNil)) σ H (bs.all id) := fun H1 e Q q =>
  h H1 e _ fun v H2 ⟨e2, p, vs, h1, h2, h3⟩ => ⟨p, bs, by rw [h1], by rw [← its_bool h3]; exact sq_of h2, q _ _ ⟨e2, rfl⟩⟩
theorem x_any {bs : List Bool} (h : EL ta σ H bs) : EX (tCB (rAny K) (tCons ta tNil)) σ H (bs.any id) := fun H1 e Q q =>
  h H1 e _ fun v H2 ⟨e2, p, vs, h1, h2, h3⟩ => ⟨p, bs, by rw [h1], by rw [← its_bool h3]; exact sq_of h2, q _ _ ⟨e2, rfl⟩⟩
theorem sum_cast : ∀ l : List Nat, (l.map fun n : Nat => (n : Int)).sum = ((l.sum : Nat) : Int)
  | [] => rfl
  | a :: l => by simp [sum_cast l]
theorem x_sumN {bs : List Nat} (h : EL ta σ H bs) : EX (tCB (rSum K) (tCons ta tNil)) σ H bs.sum := fun H1 e Q q =>
  h H1 e _ fun v H2 ⟨e2, p, vs, h1, h2, h3⟩ => ⟨p, _, by rw [h1], by rw [← its_nat h3]; exact sq_of h2, q _ _ ⟨e2, by rw [sum_cast]; rfl⟩⟩
theorem its_drop [Arg α] : ∀ (i : Nat) {as : List α} {vs : List V}, Its as vs H → Its (as.drop i) (vs.drop i) H
  | 0, _, _, h => h
  | i + 1, _, _, .nil => .nil
  | i + 1, _, _, .cons _ t => its_drop i t
theorem its_take [Arg α] : ∀ (i : Nat) {as : List α} {vs : List V}, Its as vs H → Its (as.take i) (vs.take i) H
  | 0, _, _, _ => .nil
  | i + 1, _, _, .nil => .nil
  | i + 1, _, _, .cons r t => .cons r (its_take i t)
/-- slices of lists -/
theorem f_cut [Arg α] {as : List α} {lo hi : TO} {l u : Option Int} (h : EL ta σ H as) (h1 : EvO lo σ H l) (h2 : EvO hi σ H u) (bs : List α) (hb : ∀ vs : List V, as.length = vs.length → ∃ i n, cutV vs l u = (vs.drop i).take n ∧ bs = (as.drop i).take n) : EF (tSl (rSlL K) ta lo hi) σ H bs := fun H1 e Q q =>
  h H1 e _ fun v H2 ⟨e2, p, vs, k1, k2, k3⟩ => h1 H2 (e.trans e2) _ fun H3 e3 => h2 H3 ((e.trans e2).trans e3) _ fun H4 e4 => ⟨p, vs, k1, sq_of ((e3.trans e4) _ _ k2), fun l hl => by
    obtain ⟨i, n, c1, c2⟩ := hb vs (Its.len k3)
    refine q _ _ ⟨((e2.trans e3).trans e4).trans (Ex.new hl), l, _, rfl, fresh_back ((e2.trans e3).trans e4) hl, upd_same, ?_⟩
    rw [c1, c2]
    exact its_take n (its_drop i (Its.mono ((e3.trans e4).trans (Ex.new hl)) k3))⟩
end
end DL

/-! Dl2: promises of defs over Lean data, their calls; what is walked; comprehensions; statements. -/
namespace DL
open PySem L2 Evl
open Arg (rp mn)
open Rep (mt)

/-! ### promises -/
def sp1 {α : Type} [Arg α] (pre : α → Prop) (R : α → Res) : Sp := fun vs H Q _ => ∃ (a : α) (va : V), vs = [va] ∧ rp a va H ∧ pre a ∧ ∀ v H', R a H v H' → Q v H'
def sp2 {α β : Type} [Arg α] [Arg β] (pre : α → β → Prop) (R : α → β → Res) : Sp := fun vs H Q _ => ∃ (a : α) (b : β) (va vb : V), vs = [va, vb] ∧ rp a va H ∧ rp b vb H ∧ pre a b ∧ ∀ v H', R a b H v H' → Q v H'
def sp3 {α β γ : Type} [Arg α] [Arg β] [Arg γ] (pre : α → β → γ → Prop) (R : α → β → γ → Res) : Sp := fun vs H Q _ => ∃ (a : α) (b : β) (c : γ) (va vb vc : V), vs = [va, vb, vc] ∧ rp a va H ∧ rp b vb H ∧ rp c vc H ∧ pre a b c ∧ ∀ v H', R a b c H v H' → Q v H'
theorem sp1_len {α : Type} [Arg α] {pre : α → Prop} {R : α → Res} : ∀ vs H Q E, sp1 pre R vs H Q E → vs.length = 1 := fun vs H Q E ⟨a, va, e, _⟩ => by rw [e]; rfl
theorem sp2_len {α β : Type} [Arg α] [Arg β] {pre : α → β → Prop} {R : α → β → Res} : ∀ vs H Q E, sp2 pre R vs H Q E → vs.length = 2 := fun vs H Q E ⟨a, b, va, vb, e, _⟩ => by rw [e]; rfl
theorem sp3_len {α β γ : Type} [Arg α] [Arg β] [Arg γ] {pre : α → β → γ → Prop} {R : α → β → γ → Res} : ∀ vs H Q E, sp3 pre R vs H Q E → vs.length = 3 := fun vs H Q E ⟨a, b, c, va, vb, vc, e, _⟩ => by rw [e]; rfl

section
variable {K : PySem.W.Frag} {σ : L2.St} {H H' : Hp} {ta tb te tc : TE} {tt tu : TT} {R R' : Res} {α β γ : Type} {E : XK}
theorem r_call1 [Arg α] {pre : α → Prop} {R : α → Res} (bk : ∀ a, Bk (R a)) {a : α} (ha : EX ta σ H a) (hp : pre a) : EvR (tCall (sp1 pre R) [] E (tCons ta tNil)) σ H (R a) := fun H1 e Q q =>
  ha H1 e _ fun v H2 ⟨e2, r2⟩ => ⟨a, v, rfl, r2, hp, fun v' H' z => q v' H' ((bk a).bk e2 z)⟩
theorem r_call2 [Arg α] [Arg β] {pre : α → β → Prop} {R : α → β → Res} (bk : ∀ a b, Bk (R a b)) {a : α} {b : β} (ha : EX ta σ H a) (hb : EX tb σ H b) (hp : pre a b) : EvR (tCall (sp2 pre R) [] E (tCons ta (tCons tb tNil))) σ H (R a b) := fun H1 e Q q =>
  ha H1 e _ fun v H2 ⟨e2, r2⟩ => hb H2 (e.trans e2) _ fun u H3 ⟨e3, r3⟩ => ⟨a, b, v, u, rfl, mn e3 r2, r3, hp, fun v' H' z => q v' H' ((bk a b).bk (e2.trans e3) z)⟩
theorem r_call3 [Arg α] [Arg β] [Arg γ] {pre : α → β → γ → Prop} {R : α → β → γ → Res} (bk : ∀ a b c, Bk (R a b c)) {a : α} {b : β} {c : γ} (ha : EX ta σ H a) (hb : EX tb σ H b) (hc : EX tc σ H c) (hp : pre a b c) : EvR (tCall (sp3 pre R) [] E (tCons ta (tCons tb (tCons tc tNil)))) σ H (R a b c) := fun H1 e Q q =>
  ha H1 e _ fun v H2 ⟨e2, r2⟩ => hb H2 (e.trans e2) _ fun u H3 ⟨e3, r3⟩ => hc H3 ((e.trans e2).trans e3) _ fun w H4 ⟨e4, r4⟩ => ⟨a, b, c, v, u, w, rfl, mn (e3.trans e4) r2, mn e4 r3, r4, hp, fun v' H' z => q v' H' ((bk a b c).bk ((e2.trans e3).trans e4) z)⟩
theorem x_call1 [Arg α] [Arg β] {pre : α → Prop} {f : α → β} {a : α} (ha : EX ta σ H a) (hp : pre a) : EX (tCall (sp1 pre fun a => RX (f a)) [] E (tCons ta tNil)) σ H (f a) := r_call1 (fun _ => RX.bk) ha hp
theorem x_call2 [Arg α] [Arg β] [Arg γ] {pre : α → β → Prop} {f : α → β → γ} {a : α} {b : β} (ha : EX ta σ H a) (hb : EX tb σ H b) (hp : pre a b) : EX (tCall (sp2 pre fun a b => RX (f a b)) [] E (tCons ta (tCons tb tNil))) σ H (f a b) := r_call2 (fun _ _ => RX.bk) ha hb hp
theorem f_call1 [Arg α] [Arg β] {pre : α → Prop} {f : α → List β} {a : α} (ha : EX ta σ H a) (hp : pre a) : EF (tCall (sp1 pre fun a => RF (f a)) [] E (tCons ta tNil)) σ H (f a) := r_call1 (fun _ => RF.bk) ha hp
theorem f_call2 [Arg α] [Arg β] [Arg γ] {pre : α → β → Prop} {f : α → β → List γ} {a : α} {b : β} (ha : EX ta σ H a) (hb : EX tb σ H b) (hp : pre a b) : EF (tCall (sp2 pre fun a b => RF (f a b)) [] E (tCons ta (tCons tb tNil))) σ H (f a b) := r_call2 (fun _ _ => RF.bk) ha hb hp

/-! ### isinstance -/
theorem x_isi {b : Bool} {T : String} [Arg α] {a : α} (h : EX ta σ H a) (hk : ∀ v H, rp a v H → ∃ t, TyX K H v t ∧ PySem.W.kitOne K t (.type T) = some b) : EX (tCB (rIsi K) (tCons ta (tCons (tC (.ty T)) tNil))) σ H b := fun H1 e Q q =>
  h H1 e _ fun v H2 ⟨e2, r2⟩ => by
    obtain ⟨t, h1, h2⟩ := hk v H2 r2
    exact ⟨v, .ty T, t, .type T, b, rfl, .ty T, h1, h2, q _ _ ⟨e2, rfl⟩⟩
theorem ty_int {i : Int} {T : String} {b : Bool} (h : kitB "int" T = some b) : ∀ v H, rp i v H → ∃ t, TyX K H v t ∧ PySem.W.kitOne K t (.type T) = some b := fun v H r => by
  have e : v = V.int i := r
  subst e
  exact ⟨_, .base (.int i), kit_ty h⟩
theorem ty_nat {i : Nat} {T : String} {b : Bool} (h : kitB "int" T = some b) : ∀ v H, rp i v H → ∃ t, TyX K H v t ∧ PySem.W.kitOne K t (.type T) = some b := fun v H r => by
  have e : v = V.int (i : Int) := r
  subst e
  exact ⟨_, .base (.int _), kit_ty h⟩
theorem ty_on {i : Option Nat} {T : String} {b : Bool} (h1 : kitB "int" T = some b) (h2 : kitB "NoneType" T = some b) : ∀ v H, rp i v H → ∃ t, TyX K H v t ∧ PySem.W.kitOne K t (.type T) = some b := fun v H r => by
  cases i with
  | none =>
    have e : v = V.non := r
    subst e
    exact ⟨_, .base .non, kit_ty h2⟩
  | some i =>
    have e : v = V.int (i : Int) := r
    subst e
    exact ⟨_, .base (.int _), kit_ty h1⟩
theorem ty_tup [Rep α] {i : List α} {T : String} {b : Bool} (h : kitB "tuple" T = some b) : ∀ v H, rp (α := Tup α) i v H → ∃ t, TyX K H v t ∧ PySem.W.kitOne K t (.type T) = some b := fun v H r => by
  obtain ⟨p, vs, e, h1, _⟩ := r
  subst e
  exact ⟨_, .base (.tup h1), kit_ty h⟩
theorem ty_pair [Rep α] [Rep β] {i : α × β} {T : String} {b : Bool} (h : kitB "tuple" T = some b) : ∀ v H, rp i v H → ∃ t, TyX K H v t ∧ PySem.W.kitOne K t (.type T) = some b := fun v H r => by
  obtain ⟨p, x, y, e, h1, _⟩ := r
  subst e
  exact ⟨_, .base (.tup h1), kit_ty h⟩

/-! ### what is walked -/
/-- J walks xs over every heap that holds what H0 holds -/
structure Src {α : Type} [Arg α] (J : It) (H0 : Hp) (xs : List α) : Prop where
  go : ∀ i H, Ex H0 H → i < xs.length → J.go i H
  stop : ∀ H, Ex H0 H → J.stop xs.length H
  yld : ∀ i H x H', Ex H0 H → i < xs.length → J.yld i H x H' → Ex H H' ∧ ∃ a, xs[i]? = some a ∧ rp a x H'
theorem Src.mono {α : Type} [Arg α] {J : It} {H0 H1 : Hp} {xs : List α} (e : Ex H0 H1) (s : Src J H0 xs) : Src J H1 xs :=
  ⟨fun i H e1 hi => s.go i H (e.trans e1) hi, fun H e1 => s.stop H (e.trans e1), fun i H x H' e1 hi y => s.yld i H x H' (e.trans e1) hi y⟩
def EvI {α : Type} [Arg α] (wi : TI) (σ : L2.St) (H : Hp) (xs : List α) : Prop := ∀ H1, Ex H H1 → ∀ R : It → Hp → Prop, (∀ J H2, Ex H1 H2 → Src J H2 xs → R J H2) → wi σ H1 R
theorem src_list {α : Type} [Arg α] {p : Addr} {vs : List V} {xs : List α} (h : H p = some (.lst vs)) (r : Its xs vs H) : Src (Itl K p) H xs :=
  ⟨fun i H1 e hi => by
    obtain ⟨v, hv, _⟩ := Its.get r (List.getElem?_eq_getElem hi)
    exact ⟨vs, v, sq_of (e _ _ h), hv⟩,
   fun H1 e => ⟨vs, sq_of (e _ _ h), by rw [← r.len]; exact Nat.le_refl _⟩,
   fun i H1 x H2 e hi y => by
    obtain ⟨rfl, f⟩ := y
    have hx := f vs (sq_of (e _ _ h))
    obtain ⟨a, ha, ra⟩ := Its.back r hx
    exact ⟨Ex.refl _, a, ha, mn e ra⟩⟩
theorem src_tup {α : Type} [Arg α] {p : Addr} {vs : List V} {xs : List α} (h : H p = some (.tup vs)) (r : Its xs vs H) : Src (Itt K p) H xs :=
  ⟨fun i H1 e hi => by
    obtain ⟨v, hv, _⟩ := Its.get r (List.getElem?_eq_getElem hi)
    exact ⟨vs, v, st_of (e _ _ h), hv⟩,
   fun H1 e => ⟨vs, st_of (e _ _ h), by rw [← r.len]; exact Nat.le_refl _⟩,
   fun i H1 x H2 e hi y => by
    obtain ⟨rfl, f⟩ := y
    have hx := f vs (st_of (e _ _ h))
    obtain ⟨a, ha, ra⟩ := Its.back r hx
    exact ⟨Ex.refl _, a, ha, mn e ra⟩⟩
theorem i_list [Arg α] {xs : List α} (h : EL te σ H xs) : EvI (iList K te) σ H xs := fun H1 e R q =>
  h H1 e _ fun v H2 ⟨e2, p, vs, h1, h2, h3⟩ => ⟨p, h1, ⟨vs, sq_of h2⟩, q _ _ e2 (src_list h2 h3)⟩
theorem i_tup [Rep α] {xs : List α} (h : ET te σ H xs) : EvI (iTup K te) σ H xs := fun H1 e R q =>
  h H1 e _ fun v H2 ⟨e2, p, vs, h1, h2, h3⟩ => ⟨p, h1, ⟨vs, st_of h2⟩, q _ _ e2 (src_tup h2 h3)⟩
theorem i_rng {n : Nat} (h : EX te σ H n) (hn : n ≤ 100000) : EvI (iRng1 (tCons te tNil)) σ H (List.range n) := fun H1 e R q =>
  h H1 e _ fun v H2 ⟨e2, r2⟩ => ⟨(n : Int), by rw [show v = V.int (n : Int) from r2], by omega, by omega, q _ _ e2
    ⟨fun i H3 e3 hi => by
      rw [List.length_range] at hi
      show i < (n : Int).toNat
      omega, fun H3 e3 => by
      rw [List.length_range]
      show (n : Int).toNat ≤ n
      omega, fun i H3 x H4 e3 hi y => by
      obtain ⟨rfl, rfl⟩ := y
      rw [List.length_range] at hi
      exact ⟨Ex.refl _, i, by rw [List.getElem?_range hi], (show V.int (0 + (i : Int)) = V.int (i : Int) by rw [Int.zero_add])⟩⟩⟩

/-! ### [elt for .. in .. if ..] -/
/-- Ok: what is said of each item's value and the list's place -/
def Lw {α β : Type} [Arg β] (Ok : Addr → V → Prop) (H0 : Hp) (xs : List α) (f : α → Bool) (g : α → β) (D : Addr) (i : Nat) (H' : Hp) : Prop :=
  H0 D = none ∧ Ex H0 H' ∧ ∃ vs, H' D = some (.lst vs) ∧ (∀ v ∈ vs, Ok D v) ∧ Its (((xs.take i).filter f).map g) vs H'
/-- the loop, the element's store left open -/
theorem f_lc0 [Arg α] [Arg β] {wi : TI} {g0 : TG} {vs : List Nat} {xs : List α} (Ok : Addr → V → Prop) (f : α → Bool) (g : α → β) (hi : EvI wi σ H xs) (hz : xs.length ≤ 100000) {RE : α → Res}
    (hst : ∀ a D H4 y H5 ws ys, RE a H4 y H5 → H4 D = some (.lst ws) → (∀ v ∈ ws, Ok D v) → Its (α := β) ys ws H4 → Ok D y ∧ Its (ys ++ [g a]) (ws ++ [y]) (upd H5 D (.lst (ws ++ [y]))) ∧ Ex H4 H5)
    (ht : ∀ a x H1, a ∈ xs → Ex H H1 → rp a x H1 → ∀ (Q : L2.St → Hp → Prop), (∀ σ2 H2, Ex H1 H2 → wipe σ2 vs = wipe σ vs → EvT tt σ2 H2 (f a) → (f a = true → EvR te σ2 H2 (RE a)) → Q σ2 H2) → g0 x (wipe σ vs) H1 Q) :
    EF (tLc wi g0 tt te vs) σ H ((xs.filter f).map g) := fun H1 e Q q => hi H1 e _ fun J H2 e2 s D hD => by
  refine ⟨fun i m H' => m = xs.length - i ∧ i ≤ xs.length ∧ Lw Ok H2 xs f g D i H', ⟨xs.length, by simp, Nat.zero_le _, hD, Ex.new hD, [], upd_same, fun _ h => (nomatch h), .nil⟩, ?_⟩
  rintro i m H' ⟨rfl, hi, p1, p2, ws, p3, p5, p4⟩
  by_cases hlt : i < xs.length
  · refine .inr ⟨s.go i H' p2 hlt, fun H'' => Lw Ok H2 xs f g D (i + 1) H'', fun H'' p' => ⟨xs.length - (i + 1), by omega, rfl, hlt, p'⟩, fun x H3 y => ?_⟩
    obtain ⟨e3, a, ha, ra⟩ := s.yld i H' x H3 p2 hlt y
    have hm : a ∈ xs := List.mem_of_getElem? ha
    have e03 : Ex H H3 := ((e.trans e2).trans p2).trans e3
    have h3D : H3 D = some (.lst ws) := e3 _ _ p3
    have tk : xs.take (i + 1) = xs.take i ++ [a] := by rw [List.take_add_one, ha]; rfl
    refine ht a x H3 hm e03 ra _ fun σ2 H3' e3' hw hT hE => ⟨hw, hT H3' (Ex.refl _) _ fun H4 e4 => ?_⟩
    cases hf : f a with
    | true =>
      show te σ2 H4 fun y H5 => ∃ acc, H5 D = some (.lst acc) ∧ acc.length < sizeLine ∧ Lw Ok H2 xs f g D (i + 1) (upd H5 D (.lst (acc ++ [y])))
      refine hE hf H4 e4 _ fun y H5 r5 => ?_
      obtain ⟨k1, k2, e5⟩ := hst a D H4 y H5 ws _ r5 ((e3'.trans e4) _ _ h3D) p5 (p4.mono ((e3.trans e3').trans e4))
      refine ⟨ws, ((e3'.trans e4).trans e5) _ _ h3D, ?_, p1, Ex.mut ((((p2.trans e3).trans e3').trans e4).trans e5) p1, ws ++ [y], upd_same, fun v hv => ?_, ?_⟩
      · refine sz_lt (Nat.lt_of_le_of_lt (m := i) ?_ (by omega))
        rw [← p4.len, List.length_map]
        exact Nat.le_trans (List.length_filter_le _ _) (by rw [List.length_take]; omega)
      · rcases List.mem_append.mp hv with hv | hv
        · exact p5 v hv
        · rw [List.mem_singleton.mp hv]
          exact k1
      · rw [tk, List.filter_append, List.map_append, List.filter_cons, hf]
        exact k2
    | false =>
      show Lw Ok H2 xs f g D (i + 1) H4
      refine ⟨p1, ((p2.trans e3).trans e3').trans e4, ws, (e3'.trans e4) _ _ h3D, p5, ?_⟩
      rw [tk, List.filter_append, List.map_append, List.filter_cons, hf]
      simp only [List.filter_nil, Bool.false_eq_true, if_false, List.map_nil, List.append_nil]
      exact p4.mono ((e3.trans e3').trans e4)
  · have e' : i = xs.length := by omega
    subst e'
    rw [List.take_length] at p4
    exact .inl ⟨s.stop H' p2, q _ _ ⟨e2.trans p2, D, ws, rfl, fresh_back e2 p1, p3, p4⟩⟩
theorem its_snoc {α : Type} [Arg α] {as : List α} {vs : List V} {a : α} {v : V} {H : Hp} (h : Its as vs H) (r : rp a v H) : Its (as ++ [a]) (vs ++ [v]) H := Paired.snoc h r
/-- elements that are tuples, numbers .. -/
theorem f_lc [Arg α] [Rep β] {wi : TI} {g0 : TG} {vs : List Nat} {xs : List α} (f : α → Bool) (g : α → β) (hi : EvI wi σ H xs) (hz : xs.length ≤ 100000)
    (ht : ∀ a x H1, a ∈ xs → Ex H H1 → rp a x H1 → ∀ (Q : L2.St → Hp → Prop), (∀ σ2 H2, Ex H1 H2 → wipe σ2 vs = wipe σ vs → EvT tt σ2 H2 (f a) → (f a = true → EX te σ2 H2 (g a)) → Q σ2 H2) → g0 x (wipe σ vs) H1 Q) :
    EF (tLc wi g0 tt te vs) σ H ((xs.filter f).map g) :=
  f_lc0 (fun _ _ => True) f g hi hz (RE := fun a => RX (g a)) (fun a D H4 y H5 ws ys r h4 h5 h6 => by
    obtain ⟨e5, r5⟩ := r
    have et : ExT H5 (upd H5 D (.lst (ws ++ [y]))) := exT_upd fun xs z => by
      rw [e5 _ _ h4] at z
      cases z
    exact ⟨True.intro, its_snoc (Its.mt et (Its.mono e5 h6)) (mt et r5), e5⟩) ht
theorem pmapM {α β : Type} {F G : α → β → Prop} : ∀ {l : List α} {m : List β}, Paired F l m → (∀ a b, b ∈ m → F a b → G a b) → Paired G l m
  | _, _, .nil, _ => .nil
  | _, _, .cons r t, f => .cons (f _ _ List.mem_cons_self r) (pmapM t fun a b hb => f a b (List.mem_cons_of_mem _ hb))
/-- elements that are new lists of tuples, numbers .. -/
theorem f_lcF [Arg α] [Rep β] {wi : TI} {g0 : TG} {vs : List Nat} {xs : List α} (f : α → Bool) (g : α → List β) (hi : EvI wi σ H xs) (hz : xs.length ≤ 100000)
    (ht : ∀ a x H1, a ∈ xs → Ex H H1 → rp a x H1 → ∀ (Q : L2.St → Hp → Prop), (∀ σ2 H2, Ex H1 H2 → wipe σ2 vs = wipe σ vs → EvT tt σ2 H2 (f a) → (f a = true → EF te σ2 H2 (g a)) → Q σ2 H2) → g0 x (wipe σ vs) H1 Q) :
    EF (α := Lst β) (tLc wi g0 tt te vs) σ H ((xs.filter f).map g) :=
  f_lc0 (β := Lst β) (fun D v => v ≠ .ref D) f g hi hz (RE := fun a => RF (g a)) (fun a D H4 y H5 ws ys r h4 h5 h6 => by
    obtain ⟨e5, p, us, rfl, p1, p2, p3⟩ := r
    have et : ExT H5 (upd H5 D (.lst (ws ++ [.ref p]))) := exT_upd fun xs z => by
      rw [e5 _ _ h4] at z
      cases z
    have hpD : p ≠ D := fun z => by
      rw [z, h4] at p1
      cases p1
    refine ⟨fun z => hpD (V.ref.inj z), its_snoc (pmapM h6 fun b v hv r => ?_) ⟨p, us, rfl, by rw [upd_ne hpD]; exact p2, Its.mt et p3⟩, e5⟩
    obtain ⟨q, ts, rfl, q1, q2⟩ := r
    have hqD : q ≠ D := fun z => h5 _ hv (by rw [z])
    exact ⟨q, ts, rfl, by rw [upd_ne hqD]; exact e5 _ _ q1, Its.mt et (Its.mono e5 q2)⟩) ht
/-- the target one name -/
theorem f_lcN [Arg α] [Rep β] {wi : TI} {j : Nat} {vs : List Nat} {xs : List α} (f : α → Bool) (g : α → β) (hi : EvI wi σ H xs) (hz : xs.length ≤ 100000) (hw : ∀ x, wipe ((wipe σ vs).set j (some x)) vs = wipe σ vs)
    (ht : ∀ a x H1, a ∈ xs → Ex H H1 → rp a x H1 → EvT tt ((wipe σ vs).set j (some x)) H1 (f a)) (he : ∀ a x H1, a ∈ xs → Ex H H1 → rp a x H1 → f a = true → EX te ((wipe σ vs).set j (some x)) H1 (g a)) :
    EF (tLc wi (gName j) tt te vs) σ H ((xs.filter f).map g) := f_lc f g hi hz fun a x H1 hm e r Q k => k _ H1 (Ex.refl _) (hw x) (ht a x H1 hm e r) (he a x H1 hm e r)
/-- the target one name, no test -/
theorem f_lcM [Arg α] [Rep β] {wi : TI} {j : Nat} {vs : List Nat} {xs : List α} (g : α → β) (hi : EvI wi σ H xs) (hz : xs.length ≤ 100000) (hw : ∀ x, wipe ((wipe σ vs).set j (some x)) vs = wipe σ vs)
    (he : ∀ a x H1, a ∈ xs → Ex H H1 → rp a x H1 → EX te ((wipe σ vs).set j (some x)) H1 (g a)) :
    EF (tLc wi (gName j) tYes te vs) σ H (xs.map g) := ef_is (f_lcN (fun _ => true) g hi hz hw (fun _ _ _ _ _ _ => t_yes) fun a x H1 hm e r _ => he a x H1 hm e r) (by rw [List.filter_eq_self.mpr fun _ _ => rfl])
/-- the target a pair of names -/
theorem f_lcP [Rep α] [Rep β] [Rep γ] {wi : TI} {i j : Nat} {vs : List Nat} {xs : List (α × β)} (f : α × β → Bool) (g : α × β → γ) (hi : EvI wi σ H xs) (hz : xs.length ≤ 100000) (hw : ∀ x y, wipe (((wipe σ vs).set i (some x)).set j (some y)) vs = wipe σ vs)
    (ht : ∀ a x y H1, a ∈ xs → Ex H H1 → rp a.1 x H1 → rp a.2 y H1 → EvT tt (((wipe σ vs).set i (some x)).set j (some y)) H1 (f a)) (he : ∀ a x y H1, a ∈ xs → Ex H H1 → rp a.1 x H1 → rp a.2 y H1 → f a = true → EX te (((wipe σ vs).set i (some x)).set j (some y)) H1 (g a)) :
    EF (tLc wi (gTup K 2 (gCons (gName i) (gCons (gName j) gNil))) tt te vs) σ H ((xs.filter f).map g) := f_lc f g hi hz fun a x H1 hm e r Q k => by
  obtain ⟨p, u, v, rfl, h1, h2, h3⟩ := r
  exact ⟨p, [u, v], rfl, st_of h1, rfl, u, [v], rfl, v, [], rfl, rfl, k _ H1 (Ex.refl _) (hw u v) (ht a u v H1 hm e h2 h3) (he a u v H1 hm e h2 h3)⟩
theorem f_lcPM [Rep α] [Rep β] [Rep γ] {wi : TI} {i j : Nat} {vs : List Nat} {xs : List (α × β)} (g : α × β → γ) (hi : EvI wi σ H xs) (hz : xs.length ≤ 100000) (hw : ∀ x y, wipe (((wipe σ vs).set i (some x)).set j (some y)) vs = wipe σ vs)
    (he : ∀ a x y H1, a ∈ xs → Ex H H1 → rp a.1 x H1 → rp a.2 y H1 → EX te (((wipe σ vs).set i (some x)).set j (some y)) H1 (g a)) :
    EF (tLc wi (gTup K 2 (gCons (gName i) (gCons (gName j) gNil))) tYes te vs) σ H (xs.map g) := ef_is (f_lcP (fun _ => true) g hi hz hw (fun _ _ _ _ _ _ _ _ => t_yes) fun a x y H1 hm e r1 r2 _ => he a x y H1 hm e r1 r2) (by rw [List.filter_eq_self.mpr fun _ _ => rfl])

/-! ### statements -/
variable {D : Ends}
theorem q_ret (h : EvR te σ H R) (k : ∀ v H', R H v H' → D.rt v H') : tRet te D σ H := h H (Ex.refl H) _ k
variable {nx bk ct : L2.St → Hp → Prop} {rt : VK}
theorem q_set {i : Nat} (h : EvR te σ H R) (k : ∀ v H', R H v H' → nx (σ.set i (some v)) H') : tAsg te (gName i) ⟨nx, rt, bk, ct⟩ σ H := h H (Ex.refl H) _ k
theorem q_drop (h : EvR te σ H R) (k : ∀ v H', R H v H' → nx σ H') : tDrop te ⟨nx, rt, bk, ct⟩ σ H := h H (Ex.refl H) _ k
theorem z_next (h : nx σ H) : tNext ⟨nx, rt, bk, ct⟩ σ H := h
theorem z_if {t u : TS} {b : Bool} (h : EvT tt σ H b) (h1 : b = true → ∀ H1, Ex H H1 → t D σ H1) (h2 : b = false → ∀ H1, Ex H H1 → u D σ H1) : tIfS tt t u D σ H := s_if h h1 h2
end
end DL

/-! Dl3: what a derivation over HandS is built with here: short names of readings, the built-ins' names, a def by its promise. -/
namespace DL
open PySem PySem.Spec PyProof.Rows L2
abbrev oAdd : R2 := rI0 fun i j => .int (i + j)
abbrev oSub : R2 := rI0 fun i j => .int (i - j)
abbrev oMul : R2 := rI CMul fun i j => .int (i * j)
abbrev oMod : R2 := rI (fun _ j => 0 < j) fun i j => .int (i % j)
abbrev oDiv : R2 := rI CDiv fun i j => .int (i / j)
abbrev oPow : R2 := rI CPow fun i j => .int (i ^ j.toNat)
abbrev oLt : R2 := rI0 fun i j => .bl (decide (i < j))
abbrev oLe : R2 := rI0 fun i j => .bl (decide (i ≤ j))
abbrev oGt : R2 := rI0 fun i j => .bl (decide (j < i))
abbrev oGe : R2 := rI0 fun i j => .bl (decide (j ≤ i))
abbrev oNeg : V → Hp → VK → Prop := rU fun i => .int (-i)
abbrev RCall := List V → Hp → VK → Prop
abbrev rTupQ (K : PySem.W.Frag) : RCall := fun xs H Q => ∃ p ys, xs = [.ref p] ∧ ((SqL K H p ys ∧ ∀ l, H l = none → Q (.ref l) (upd H l (.tup ys))) ∨ (SqT K H p ys ∧ Q (.ref p) H))
abbrev rLstQ (K : PySem.W.Frag) : RCall := fun xs H Q => ∃ p ys, xs = [.ref p] ∧ (SqL K H p ys ∨ SqT K H p ys) ∧ ∀ l, H l = none → Q (.ref l) (upd H l (.lst ys))
abbrev rDictQ (K : PySem.W.Frag) : RCall := fun xs H Q => ∃ (a : Addr) (ps : List Addr) (kvs : List (Key × V)), xs = [.ref a] ∧ SqL K H a (ps.map V.ref) ∧ Paired (fun p kv => SqT K H p [kV kv.1, kv.2]) ps kvs ∧ ∀ p, H p = none → Q (.ref p) (upd H p (.dK (mergeK [] kvs)))
abbrev rMax2 : RCall := fun xs H Q => ∃ i j, xs = [.int i, .int j] ∧ Q (.int (if j > i then j else i)) H
abbrev rMin2 : RCall := fun xs H Q => ∃ i j, xs = [.int i, .int j] ∧ Q (.int (if j < i then j else i)) H
abbrev rAbsQ : RCall := fun xs H Q => ∃ i, xs = [.int i] ∧ Q (.int (if i < 0 then -i else i)) H
abbrev rDivmodQ : RCall := fun xs H Q => ∃ i j, xs = [.int i, .int j] ∧ CDiv i j ∧ ∀ p, H p = none → Q (.ref p) (upd H p (.tup [.int (i / j), .int (i % j)]))
abbrev rSortDI : RCall := fun xs H Q => ∃ (a : Addr) (kvs : List (Key × V)) (ks : List Int), xs = [.ref a] ∧ Rd H a (.dK kvs) ∧ kvs.map (·.1) = ks.map Sum.inl ∧ ks.length < 64 ∧ ∀ (ys : List Int) (p : Addr), ys.Perm ks → ys.Pairwise (· ≤ ·) → H p = none → Q (.ref p) (upd H p (.lst (ys.map V.int)))

/-- the built-ins whose names the module leaves alone -/
structure Bi (mg : Str → Option Value) : Prop where
  m_len : mg "len" = none
  m_range : mg "range" = none
  m_list : mg "list" = none
  m_tuple : mg "tuple" = none
  m_isinstance : mg "isinstance" = none
  m_int : mg "int" = none
  m_bool : mg "bool" = none
  m_sum : mg "sum" = none
  m_all : mg "all" = none
  m_any : mg "any" = none
  m_enumerate : mg "enumerate" = none
  m_sorted : mg "sorted" = none
  m_max : mg "max" = none
  m_min : mg "min" = none
  m_divmod : mg "divmod" = none
  m_abs : mg "abs" = none
  m_dict : mg "dict" = none
  m_str : mg "str" = none

section
variable {X : Cx} {P : Program} {w : World} {K : PySem.W.Frag} {mg : Str → Option Value} {base : Heap}
/-- the module's name x is a def that keeps the promise sp, k deep -/
structure Df (P : Program) (w : World) (K : PySem.W.Frag) (mg : Str → Option Value) (base : Heap) (k : Nat) (x : Str) (ps : List Str) (sp : Sp) : Prop where
  ex : ∃ (f : Addr) (fd : FuncData), FnOk P w K mg base CX0 k f fd ps sp ∧ mg x = some (.ref f) ∧ PySem.W.keepIn K (.ref f) = true ∧ Binds K fd ps [] ∧ ∀ p, ps = [p] → KBinds K fd ps ps (fun us ws => us ++ ws) (fun us ws => us ++ ws)
theorem pe_df {k : Nat} {x : Str} {ps : List Str} {sp : Sp} {p pos : Pos} {e : Expr} {es : List Expr} {t : TA} (D : Df X.prog X.w X.K X.mg X.base k x ps sp) (hr : Room k X.A) (hg : Gl X x) (ha : PA X (e :: es) t)
    (hdb : (x == ("__debug__" : Str)) = false := by decide) (he : starEach (e :: es) X.env = (false, eval e X.env) :: starEach es X.env := by rfl) (hpl : (backTo pos (starEach es X.env)).any (·.1) = false := by rfl) :
    PE X (.Call (.Name x p) (e :: es) [] pos) (tCall sp [] E0 t) := by
  obtain ⟨f, fd, F, hm, hk, hb, _⟩ := D.ex
  exact pe_call F hr hg hm hk hb .nil pass0 ha hdb he hpl
/-- f(k = v), one parameter -/
theorem pe_dfK {k : Nat} {x y : Str} {sp : Sp} {p pos : Pos} {kws : List Keyword} {tk : TA} (D : Df X.prog X.w X.K X.mg X.base k x [y] sp) (hr : Room k X.A) (hg : Gl X x) (hkw : PK X kws tk)
    (hall : (backToKw pos (keywordEach kws X.env)).all (·.1.isSome) = true := by rfl) (hks : (backToKw pos (keywordEach kws X.env)).filterMap (·.1) = [y] := by rfl) (hdb : (x == ("__debug__" : Str)) = false := by decide)
    (hpl : ((backTo pos (starEach [] X.env)).any (·.1) || (backToKw pos (keywordEach kws X.env)).any (·.1.isNone)) = false := by rfl) :
    PE X (.Call (.Name x p) [] kws pos) (tCall sp [] E0 tk) := by
  obtain ⟨f, fd, F, hm, hk, _, hb⟩ := D.ex
  refine ⟨fun pins s σ H Q I h => ?_⟩
  refine wpAny_Call_Name_kw (ld_glob I hg hm ?_ hdb)
  refine PySem.W.callWith_KW0 (h₀ := X.base) I.ok.mod.kin hk hall ?_ hpl
  refine thn (hkw.run pos pins s σ H _ I h) fun ws s2 ⟨zs, H2, I2, rz, q2⟩ => ⟨I2.kIn, ?_⟩
  rw [hks]
  have q3 : sp ([] ++ zs) H2 Q E0 := by
    have q2 : sp (zs ++ []) H2 Q E0 := q2
    rw [List.append_nil] at q2
    exact q2
  exact run_fnk (us := []) (vs := []) F hr (hb y rfl) pass0 I2 .nil rz q3
/-- a def whose body has the reading t, by what t asks -/
theorem Fun.okT {x : Str} {st : Stmt} {f : Addr} {fd : FuncData} {N ps : List Str} {k : Nat} {sp : Sp} {t : TS} (F : Fun K x x st f fd) (S : FnScope N ps (defScope st)) (len : ∀ vs H Q E, sp vs H Q E → vs.length = ps.length)
    (der : ∀ (cdv : Value) (A : Around) (outer : List Env) (s : Shared) (H : Hp) (E : XK), Room k (A.deeper (envOfC x (defScope st) s.heap.objs.size f cdv)) → PSs (cxOf CX0 P w K mg base N x (defScope st) f cdv A outer s H E).nox (defBody st) t)
    (sem : ∀ vs H Q E, sp vs H Q E → t { nx := fun _ H' => Q .non H', rt := Q } (start N vs) H) : FnOk P w K mg base CX0 (k + 1) f fd ps sp :=
  F.ok S len fun cdv A outer s H vs Q E hr h => ⟨t, der cdv A outer s H E hr, sem vs H Q E h⟩
theorem Df.of {x : Str} {st : Stmt} {f : Addr} {fd : FuncData} {ps : List Str} {k : Nat} {sp : Sp} (F : Fun K x x st f fd) (G : FnOk P w K mg base CX0 k f fd ps sp) (hm : mg x = some (.ref f))
    (h : ∀ (kV doc pm : Value) (an : Option Addr) (cdv ct : Value) (us : List Value), us.length = ps.length → bindArgs (PySem.W.fnOf x x (defArgs st) (defBody st) (defScope st) .none kV doc pm an cdv ct) ⟨us, []⟩ = pure (ps.zip us))
    (h1 : ∀ p, ps = [p] → ∀ (kV doc pm : Value) (an : Option Addr) (cdv ct : Value) (u : Value), bindArgs (PySem.W.fnOf x x (defArgs st) (defBody st) (defScope st) .none kV doc pm an cdv ct) ⟨[], [(p, u)]⟩ = pure [(p, u)]) : Df P w K mg base k x ps sp := by
  refine ⟨f, fd, G, hm, F.kp, F.binds h, fun p hp => ?_⟩
  subst hp
  obtain ⟨oc, od, kV, doc, pm, an, cdv, ct, osl, rfl, lk, hcd⟩ := F.ex
  refine ⟨fun s us ws X hl => ?_, fun r1 r2 => Vals.append r1 r2⟩
  match us, ws, hl with
  | [u], [], _ => exact .of_eq (h kV doc pm an cdv ct [u] rfl)
  | [], [u], _ => exact .of_eq (h1 p rfl kV doc pm an cdv ct u)
end
end DL

/-! Dl4a: enumerate(a tuple). -/
namespace DL
open PySem PySem.Spec PyProof.Rows L2
open Sem (wp)
open AutoSeq1 (wpAny_loadPart')
theorem meets_enumT (t : Addr) (its : Array Value) (k : Nat) (dd : Option Addr) (sl : Array (Option Value)) :
    Meets (Builtin.«enumerate.__new__» ⟨[.type "enumerate", .ref t], []⟩) (fun _ R s => s.heap.get? t = some { cls := .type "tuple", dict := dd, data := .seq its k, slots := sl } ∧
      R (.ok (.ret (.ref (s.heap.push { cls := .type "tuple_iterator", data := .fields #[.ref t, .int 0 0] }).objs.size)))
        { s with heap := (s.heap.push { cls := .type "tuple_iterator", data := .fields #[.ref t, .int 0 0] }).push { cls := .type "enumerate", data := .fields #[.none, .bool false, .ref s.heap.objs.size, rawInt 0, .none, .none] } }) :=
  .of_wp fun prog w A R s q => by
    obtain ⟨hp, g, d, tk, os⟩ := s
    obtain ⟨ht, q⟩ := q
    have hsub := sub_enumerate
    have hT : Heap.IsTuple (Shared.heap ⟨hp, g, d, tk, os⟩) t its := ⟨_, ht, rfl, k, rfl⟩
    wp_walk using wpAny_loadPart' ht
    refine wpAny_stack_any fun st => wpAny_pure ?_
    split
    · rename_i c _ _ _ _ _
      cases (c == Value.type "enumerate") <;> wp_walk using wpAny_loadPart' ht, wpAny_pyIter_tuple hT <;> exact ⟨_, rfl, q⟩
    · wp_walk using wpAny_loadPart' ht, wpAny_pyIter_tuple hT
      exact ⟨_, rfl, q⟩
section
variable {prog : Program} {w : World} {A : Around} {E : Value → Shared → Prop} {s : Shared}
theorem call_enumT {t : Addr} {its : Array Value} {Q : Value → Shared → Prop} (hT : s.heap.IsTuple t its)
    (k : ∀ h', IsEnum h' (s.heap.objs.size + 1) s.heap.objs.size 0 .none → h'.IsTupleIter s.heap.objs.size t 0 → (∀ b o, s.heap.get? b = some o → h'.get? b = some o) → Q (.ref (s.heap.objs.size + 1)) { s with heap := h' }) :
    wpAny (model prog w) A (call (.type "enumerate") [.ref t]) Q E s := by
  obtain ⟨⟨cl, dd, dt, sl⟩, ht, hc, n, hd⟩ := hT
  have hc' : cl = .type "tuple" := hc
  have hd' : dt = .seq its n := hd
  subst hc' hd'
  refine callType_new F.called_enumerate (by decide) (F.typeCall_enumerate_1 _) (F.newCall_enumerate_1 _) (fun ob => F.args_object_init_2 ob _) F.entry_enumerate_new (meets_enumT t its n dd sl) ⟨ht, ?_⟩
  have z1 : (s.heap.push { cls := .type "tuple_iterator", data := .fields #[.ref t, .int 0 0] }).objs.size = s.heap.objs.size + 1 := Heap.size_push ..
  show _ ∧ _
  rw [z1]
  have en : IsEnum ((s.heap.push { cls := .type "tuple_iterator", data := .fields #[.ref t, .int 0 0] }).push { cls := .type "enumerate", data := .fields #[.none, .bool false, .ref s.heap.objs.size, rawInt 0, .none, .none] }) (s.heap.objs.size + 1) s.heap.objs.size 0 .none := by
    have z2 := Heap.get?_push_size (s.heap.push { cls := .type "tuple_iterator", data := .fields #[.ref t, .int 0 0] }) (o := { cls := .type "enumerate", data := .fields #[.none, .bool false, .ref s.heap.objs.size, rawInt 0, .none, .none] }) rfl
    rw [z1] at z2
    exact z2
  exact ⟨⟨_, en, rfl⟩, k _ en ⟨_, Heap.get?_push_of_some _ (Heap.get?_push_size _ rfl), rfl, rfl⟩ fun b o y => Heap.get?_push_of_some _ (Heap.get?_push_of_some _ y)⟩
theorem next_enumT_end {e it t : Addr} {i : Nat} {its : Array Value} {old : Value} {Q : Option Value → Shared → Prop} (hh : A.handled = none) (he : IsEnum s.heap e it i old) (hit : s.heap.IsTupleIter it t i) (ht : s.heap.IsTuple t its) (hx : its[i]? = none)
    (k : ∀ h', Heap.ExtBut it s.heap h' → Q none { s with heap := h' }) : wpAny (model prog w) A (pyNext (.ref e)) Q E s := by
  have ty : s.TypeIs (.ref e) "enumerate" := ⟨_, he, rfl⟩
  unfold pyNext
  refine wpAny_bind (wpAny_attempt (wpAny_callSpecial?_slot (name := Str.ofString "__next__") ty F.slot_enumerate_next (wpAny_call_entry F.slot_enumerate_next ty F.entry_enumerate_next ?_ (F.args_enumerate_next_1 _))))
  show wpAny _ _ (field (.ref e) 2 >>= _) _ _ s
  refine wpAny_bind (wpAny_field he rfl (x := Value.ref it) rfl ?_)
  refine wpAny_bind (wpAny_nextOf_tuple_end hh hit ht hx fun h' x ex hx' => ?_)
  obtain ⟨o, ho, hc⟩ := hx'
  refine wpAny_bind (wpAny_isInstance (T := "StopIteration") (b := true) ⟨o, ho, hc⟩ isSubtype_stop ?_)
  exact wpAny_pure (k _ ex)
end
/-- the tuple at a, each item in a new pair -/
def IteT (K : PySem.W.Frag) (a : Addr) : It :=
  ⟨fun i H => ∃ (xs : List V) (x : V), SqT K H a xs ∧ xs[i]? = some x, fun i H v H' => ∃ T x, v = .ref T ∧ H T = none ∧ H' = upd H T (.tup [.int (i : Nat), x]) ∧ ∀ xs, SqT K H a xs → xs[i]? = some x, fun i H => ∃ xs : List V, SqT K H a xs ∧ xs.length ≤ i⟩
def iEnumT (K : PySem.W.Frag) (ta : TA) : TI := fun σ H R => ta σ H fun vs H1 => ∃ a xs, vs = [.ref a] ∧ SqT K H1 a xs ∧ R (IteT K a) H1
theorem turn_enumT {P : Program} {w : World} {K : PySem.W.Frag} {elts : List Expr} {kk : Nat} {tpos : Pos} (a e it : Addr) :
    Turn P w K (.Tuple elts kk tpos) (IteT K a) [e, it] e (fun i h => (∃ old, IsEnum h e it ((i : Nat) : Int) old) ∧ h.IsTupleIter it a i ∧ e ≠ it) where
  mem := List.mem_cons_self
  obj := fun i h st b hb => by
    obtain ⟨⟨old, he⟩, ⟨o, ho, hc, hd⟩, _⟩ := st
    rcases List.mem_cons.mp hb with z | z
    · exact ⟨_, by rw [z]; exact he, fun v q => (by cases q)⟩
    · exact ⟨o, by rw [List.mem_singleton.mp z]; exact ho, fun v q => by rw [hd] at q; cases q⟩
  keep := fun i h h' st k => let ⟨⟨old, he⟩, hi, hne⟩ := st; ⟨⟨old, k e List.mem_cons_self _ he⟩, hi.at fun o q => k it (by simp) o q, hne⟩
  item := by
    intro X hP hw hK hc i pins s σ H E I hf st hg
    subst hP hw hK
    obtain ⟨⟨old, he⟩, hit, hne⟩ := st
    obtain ⟨xs, x, hq, hx⟩ := hg
    obtain ⟨its, rv, p, hz⟩ := I.tuple hq
    have pt : s.heap.IsTuple a its.toArray := p
    obtain ⟨u, hu, ru⟩ := rv.get hx
    have el : e < s.heap.objs.size := Heap.lt_size he
    have il : it < s.heap.objs.size := by
      obtain ⟨_, q, _⟩ := hit
      exact Heap.lt_size q
    have nai : a ≠ it := fun z => by
      obtain ⟨o, ho, hc, _⟩ := pt
      obtain ⟨o', ho', hc', _⟩ := hit
      rw [z, ho'] at ho
      cases ho
      rw [hc] at hc'
      exact absurd hc' (by decide)
    have nae : a ≠ e := fun z => by
      obtain ⟨o, ho, hc, _⟩ := pt
      rw [z, he] at ho
      cases ho
      have hc : Value.type "enumerate" = Value.type "tuple" := hc
      exact absurd hc (by decide)
    have li : i < its.toArray.size := by
      have := (List.getElem?_eq_some_iff.mp hu).1
      simpa using this
    refine wpAny_pyNext_enum_itemD (Draws.tuple (prog := X.prog) (w := X.w) (A := X.A.in1) (I.ok.hd hc) it a nai its.toArray) he ⟨hit, pt⟩ li hne (fun z => by
      rcases List.mem_cons.mp z with z | z
      · exact hne z
      · exact nae (List.mem_singleton.mp z).symm) fun y h' tk hy ho st' hT hsz hk => ?_
    have ey : y = u := by
      have h1 : its[i]? = some y := by simpa using hy
      rw [hu] at h1
      exact (Option.some.inj h1).symm
    subst ey
    refine ⟨_, rfl, wpAny_letOwnedTupleGo_enum (s := { s with heap := h', toks := tk + 1 }) ho fun h'' he' sb => ?_⟩
    have hT2 : h''.get? s.heap.objs.size = some { cls := .type "tuple", data := .seq #[.int i tk, y] } := (sb.2 _ (Nat.ne_of_gt el)).trans hT
    have new : ObjOk X.prog X.w (upd H s.heap.objs.size (.tup [.int (i : Nat), x])) h'' s.heap.objs.size (.tup [.int (i : Nat), x]) :=
      ⟨by show 2 ≤ sizeLine; decide, [.int i tk, y], .cons ⟨_, rfl⟩ (.cons ru .nil), ⟨_, hT2, rfl, _, rfl⟩⟩
    have I1 : Inv X pins σ (upd H s.heap.objs.size (.tup [.int (i : Nat), x])) { s with heap := h'', toks := tk + 1 } :=
      I.turnedNew (ch := [e, it]) (fun b ob hb q => (sb.2 b (fun z => hb (by simp [z]))).trans (hk b ob (fun z => hb (by simp [z])) (fun z => hb (by simp [z])) q)) hf (Nat.le_refl _) new
    refine ⟨.ref s.heap.objs.size, _, I1, rfl, ⟨_, x, rfl, I.hok.fresh (Nat.le_refl _), rfl, fun ys hy => by rw [I.tuple_inj hy hq]; exact hx⟩, ⟨⟨y, ?_⟩, st'.1.at fun o q => (sb.2 it (Ne.symm hne)).trans q, hne⟩, fun b hb => ?_⟩
    · rw [show ((i + 1 : Nat) : Int) = (i : Int) + 1 by omega]
      exact he'
    · have lb : b < s.heap.objs.size := by
        rcases List.mem_cons.mp hb with z | z
        · rw [z]
          exact el
        · rw [List.mem_singleton.mp z]
          exact il
      rw [upd_ne (Nat.ne_of_lt lb)]
      exact (hf b hb).1
  done := by
    intro X hP hw hK hc i pins s σ H E I hf st hg
    subst hP hw hK
    obtain ⟨⟨old, he⟩, hit, hne⟩ := st
    obtain ⟨xs, hq, hx⟩ := hg
    obtain ⟨its, rv, p, hz⟩ := I.tuple hq
    obtain ⟨f0, f1, f2, f3, f4, f5⟩ := hf it (by simp)
    have hl := rv.length
    exact next_enumT_end (I.ok.hd hc) he hit (show s.heap.IsTuple a its.toArray from p) (by simp; omega) fun h' eb => ⟨rfl, I.turned (t' := s.toks) (fun b o hb q => eb b o hb q) f0 f1 f3 f4 f5⟩
  self := fun A i s Q E st h => let ⟨⟨_, he⟩, _⟩ := st; wpAny_pyIter_enum he h
theorem pi_enumT {X : Cx} {e : Expr} {ta : TA} {p pos tpos : Pos} {elts : List Expr} {kk : Nat} (hg : Gl X "enumerate") (hm : X.mg "enumerate" = none) (ha : PA X [e] ta) (hs : starEach [e] X.env = [(false, eval e X.env)] := by rfl) :
    PI X (.Tuple elts kk tpos) (.Call (.Name "enumerate" p) [e] [] pos) (iEnumT X.K ta) := by
  refine ⟨fun pins s σ H R I h => Call_ (ld_blt I hg hm boot_enumerate (PyProof.Rows.callWith_type1 (thn (ha.run pos pins s σ H _ I h) fun us s1 ⟨vs, H1, I1, r1, q1⟩ => ?_) hs rfl))⟩
  obtain ⟨a, xs, rfl, hq, q⟩ := q1
  cases r1 with
  | cons r rr =>
    cases rr
    cases r
    obtain ⟨its, rv, p', hz⟩ := I1.tuple hq
    refine call_enumT (show s1.heap.IsTuple a its.toArray from p') fun h' he hit hk => wpAny_pyIter_enum he ?_
    have I2 : Inv X pins σ H1 { s1 with heap := h' } := I1.kept (t' := s1.toks) hk
    refine ⟨s1.heap.objs.size + 1, [s1.heap.objs.size + 1, s1.heap.objs.size], _, _, H1, rfl, I2, turn_enumT a (s1.heap.objs.size + 1) s1.heap.objs.size, ⟨⟨.none, he⟩, hit, Nat.succ_ne_self _⟩, fun b hb => ?_, q⟩
    have le : s1.heap.objs.size ≤ b := by
      rcases List.mem_cons.mp hb with z | z
      · rw [z]
        exact Nat.le_add_right _ _
      · rw [List.mem_singleton.mp z]
        exact Nat.le_refl _
    exact I1.fpOk le (I1.hok.fresh le)
end DL

/-! Dl4b: sum(a tuple), t >= u. -/
namespace DL
open PySem PySem.Spec PyProof.Rows L2
def rSumT (K : PySem.W.Frag) : RCall := fun vs H Q => ∃ (a : Addr) (ns : List Int), vs = [V.ref a] ∧ SqT K H a (ns.map V.int) ∧ Q (.int ns.sum) H
theorem cr_sumT {X : Cx} (hc : X.calm = true) : CallR X (.builtin "sum") (rSumT X.K) := by
  intro pins s σ H vs us Q I r q
  obtain ⟨a, ns, rfl, hs, q⟩ := q
  obtain ⟨its, rv, ht, _⟩ := I.tuple hs
  rw [Vals.ref1 r]
  have hi := rv.ints
  have tl : s.heap.IsTuple a its.toArray := ht
  obtain ⟨xs, e⟩ := hi.allInts.items
  have hn : numsOf (intItems xs).toList = ns := by rw [← e]; exact hi.numsOf
  rw [nums_intItems] at hn
  rw [e] at tl
  refine PySem.W.ktm_sumG (I.ok.hd hc) tl fun h' tk t' hk => ?_
  rw [preSum_eq, List.take_of_length_le (by simp), hn]
  exact ⟨.int _, H, I.kept hk, ⟨_, rfl⟩, q⟩
/-- t >= u, tuples of ints -/
def rGeT (K : PySem.W.Frag) : R2 := fun x y H Q => ∃ (a b : Addr) (ns ms : List Int), x = .ref a ∧ y = .ref b ∧ SqT K H a (ns.map V.int) ∧ SqT K H b (ms.map V.int) ∧ Q (.bl (!HT.lexLt ns ms)) H
theorem lexAt_ge (ns ms : List Int) : ∀ (k i : Nat), i + k = min ns.length ms.length → Ob.lexAt (fun j => decide (ns.getD j 0 = ms.getD j 0)) (fun j => decide (ms.getD j 0 ≤ ns.getD j 0)) (decide (ms.length ≤ ns.length)) i k = !HT.lexLt (ns.drop i) (ms.drop i)
  | 0, i, h => by
    rw [Ob.lexAt_zero]
    by_cases hle : ms.length ≤ ns.length
    · have hm : ms.drop i = [] := List.drop_of_length_le (by omega)
      rw [decide_eq_true hle, hm]
      cases ns.drop i <;> rfl
    · have hm : ns.drop i = [] := List.drop_of_length_le (by omega)
      have hn : i < ms.length := by omega
      rw [decide_eq_false hle, hm, List.drop_eq_getElem_cons hn]
      rfl
  | k + 1, i, h => by
    have h1 : i < ns.length := by omega
    have h2 : i < ms.length := by omega
    rw [Ob.lexAt_succ, lexAt_ge ns ms k (i + 1) (by omega), List.drop_eq_getElem_cons h1, List.drop_eq_getElem_cons h2, HT.lexLt_cons]
    have g1 : ns.getD i 0 = ns[i] := by simp [h1]
    have g2 : ms.getD i 0 = ms[i] := by simp [h2]
    rw [g1, g2]
    by_cases he : ns[i] = ms[i]
    · rw [if_pos (decide_eq_true he), if_pos he]
    · rw [if_neg (by simp [he]), if_neg he]
      by_cases hlt : ns[i] < ms[i]
      · rw [decide_eq_true hlt, decide_eq_false (by omega)]
        rfl
      · rw [decide_eq_false hlt, decide_eq_true (by omega)]
        rfl
theorem op_geT {X : Cx} (hu : X.A.units < cLine) : OpR X (compareOp .GtE) (rGeT X.K) := by
  intro pins s σ H x y v u Q I rx ry q
  obtain ⟨a, b, ns, ms, rfl, rfl, ha, hb, q⟩ := q
  cases rx
  cases ry
  obtain ⟨is1, r1, p1, _⟩ := I.tuple ha
  obtain ⟨is2, r2, p2, _⟩ := I.tuple hb
  have i1 : IntsAre is1 ns := Vals.ints r1
  have i2 : IntsAre is2 ms := Vals.ints r2
  have at1 : ∀ j (hj : j < is1.toArray.size), ∃ t, is1.toArray[j] = .int (ns.getD j 0) t := fun j hj => PyProof.Rows.IntsAre.int_at i1 _ _ (by simp at hj; simp [hj])
  have at2 : ∀ j (hj : j < is2.toArray.size), ∃ t, is2.toArray[j] = .int (ms.getD j 0) t := fun j hj => PyProof.Rows.IntsAre.int_at i2 _ _ (by simp at hj; simp [hj])
  have R := Ob.RcOp.tuples_ge (A := X.A) (s := s) (e := fun j => decide (ns.getD j 0 = ms.getD j 0)) (r := fun j => decide (ms.getD j 0 ≤ ns.getD j 0)) p1 p2 hu (fun j k1 k2 => by
    obtain ⟨t, et⟩ := at1 j k1
    obtain ⟨t', et'⟩ := at2 j k2
    have z : decide (ns.getD j 0 = ms.getD j 0) = (ns.getD j 0 == ms.getD j 0) := by rw [Bool.eq_iff_iff, beq_iff_eq, decide_eq_true_iff]
    rw [et, et', z]
    exact SeqAt.EqAt.int_int _ _ _ _) (fun j k1 k2 _ => by
    obtain ⟨t, et⟩ := at1 j k1
    obtain ⟨t', et'⟩ := at2 j k2
    rw [et, et']
    exact Ob.RcOp.ge_int _ _ _ _)
  have e1 : is1.toArray.size = ns.length := List.size_toArray.trans i1.length
  have e2 : is2.toArray.size = ms.length := List.size_toArray.trans i2.length
  rw [e1, e2, lexAt_ge ns ms _ 0 (by omega)] at R
  exact (show wpAny (model X.prog X.w) X.A (compareOp .GtE (.ref a) (.ref b)) (EP X pins σ Q) X.xe s from R X.prog X.w X.xe (EP X pins σ Q) ⟨.bl _, H, I, rfl, q⟩)
end DL

/-! Dl4c: sum(lists, []). -/
namespace DL
open PySem PySem.Spec PyProof.Rows L2
open Sem (wp)
def LsO (xs : List Value) (n : Nat) : Obj := { cls := .type "list", data := .seq xs.toArray n }
theorem args_sum2 (a b : Value) : argsOk "sum" ⟨[a, b], []⟩ := by
  unfold argsOk
  kernel_rfl
theorem sub_ls_str : isSubtype (.type "list") (.type "str") = pure false := by
  rw [isSubtype_type]
  kernel_rfl
theorem sub_ls_bytes : isSubtype (.type "list") (.type "bytes") = pure false := by
  rw [isSubtype_type]
  kernel_rfl
theorem sub_ls_ba : isSubtype (.type "list") (.type "bytearray") = pure false := by
  rw [isSubtype_type]
  kernel_rfl
def catTo (cont : Nat → List Value) (i : Nat) : List Value := (List.range i).flatMap cont
theorem catTo_succ (cont : Nat → List Value) (i : Nat) : catTo cont (i + 1) = catTo cont i ++ cont i := by
  unfold catTo
  rw [List.range_succ, List.flatMap_append]
  simp
theorem catTo_le (cont : Nat → List Value) {i n : Nat} (h : i ≤ n) : (catTo cont i).length ≤ (catTo cont n).length := by
  induction n with
  | zero =>
    have : i = 0 := by omega
    subst this
    exact Nat.le_refl _
  | succ n ih =>
    by_cases e : i = n + 1
    · subst e
      exact Nat.le_refl _
    · have := ih (by omega)
      rw [catTo_succ, List.length_append]
      omega
section
variable {prog : Program} {w : World} {A : Around} {R : Result → Shared → Prop} {I : Addr} {fp wr : List Addr} {G : Array GenState → Array GenState → Prop} {n : Nat} {P : Nat → Value → Prop} {St : Nat → Shared → Prop}
theorem sumL_loop (W : WalksS prog w A.in1 I fp wr G n P St) (S : Addr) (hSf : S ∉ fp) (cont : Nat → List Value) (base : Heap) (hz : (catTo cont n).length ≤ sizeLine) (hws : ∀ b ∈ wr, b < S)
    (hval : ∀ i v, P i v → ∃ p m, v = .ref p ∧ base.get? p = some (LsO (cont i) m) ∧ p ∉ wr ∧ p ≠ S) :
    ∀ (k i : Nat) (s : Shared) (T : Addr) (c m : Nat), n - i = k → i ≤ n → St i s → (∀ b o, b ∉ wr → b ≠ S → base.get? b = some o → s.heap.get? b = some o) → s.heap.get? S = some { cls := .type "list", dict := none, data := .seq #[.ref T] c, slots := #[] } →
      s.heap.get? T = some (LsO (catTo cont i) m) → T ∉ wr → T ≠ S → (0 < i → S < T) →
      (∀ s' T' m', Moved (S :: wr) G s s' → s'.heap.get? T' = some (LsO (catTo cont n) m') → (0 < n → S < T') → R (.ok (.ret (.ref T'))) s') → codeAny (model prog w) A (.builtin "sum.loop" ⟨[.ref I, .ref S, rawInt 2, rawInt 0], []⟩) R s := by
  have hSw : S ∉ wr := fun q => hSf (W.sub _ q)
  have up : ∀ b ∈ wr, b ∈ S :: wr := fun b hb => List.mem_cons_of_mem _ hb
  intro k
  induction k with
  | zero =>
    intro i s T c m hk hi hst hB hS hT hTw hTS hlt hR
    have e : i = n := by omega
    subst e
    refine codeAny_builtin F.entry_sum_loop ?_
    rw [Around.under_plainId F.plain_sum_loop _]
    show wpAny _ A.in1 (seqItems? (.ref S) >>= _) _ _ s
    refine wpAny_bind (wpAny_seqItems hS rfl ?_)
    show wpAny _ A.in1 (tryCatch (pyNext (.ref I)) _ >>= _) _ _ s
    refine wpAny_bind (wpAny_tryCatch (W.done s _ _ hst fun s' hm => ?_))
    exact wpAny_pure (hR s' T m (hm.mono up) (hm.heap T _ hTw hT) hlt)
  | succ k ih =>
    intro i s T c m hk hi hst hB hS hT hTw hTS hlt hR
    have hin : i < n := by omega
    refine codeAny_builtin F.entry_sum_loop ?_
    rw [Around.under_plainId F.plain_sum_loop _]
    show wpAny _ A.in1 (seqItems? (.ref S) >>= _) _ _ s
    refine wpAny_bind (wpAny_seqItems hS rfl ?_)
    show wpAny _ A.in1 (tryCatch (pyNext (.ref I)) _ >>= _) _ _ s
    refine wpAny_bind (wpAny_tryCatch (W.item i s _ _ hin hst fun v s' hP hst' hm => ?_))
    obtain ⟨p, mp, rfl, hp, hpw, hpS⟩ := hval i v hP
    have gS := hm.heap S _ hSw hS
    have gT := hm.heap T _ hTw hT
    have gp := hm.heap p _ hpw (hB p _ hpw hpS hp)
    have lS : S < s'.heap.objs.size := Heap.lt_size gS
    have z1 : (catTo cont (i + 1)).length ≤ sizeLine := Nat.le_trans (catTo_le cont hin) hz
    have z2 : (catTo cont i).toArray.size + (cont i).toArray.size ≤ sizeLine := by
      rw [catTo_succ, List.length_append] at z1
      rw [List.size_toArray, List.size_toArray]
      exact z1
    show wpAny _ A.in1 ((holding [Value.ref p] (binaryOp .Add (.ref T) (.ref p))).attempt >>= _) _ _ _
    refine wpAny_bind (wpAny_attempt (wpAny_holding (PySem.P.add_list gT gp ?_ z2)))
    show wpAny _ A.in1 (updateSeq S (fun _ => #[.ref s'.heap.objs.size]) >>= _) _ _ _
    have kS := Heap.get?_push_of_some { cls := .type "list", data := .seq ((catTo cont i).toArray ++ (cont i).toArray) } gS
    refine wpAny_bind (wpAny_updateSeq kS rfl ?_)
    have kS2 := Heap.get?_update_self (Obj.mapSeq fun _ => #[Value.ref s'.heap.objs.size]) kS rfl
    refine wpAny_bind (wpAny_letGo ?_)
    have oth : ∀ b o, b ≠ S → s'.heap.get? b = some o → (((s'.heap.push { cls := .type "list", data := .seq ((catTo cont i).toArray ++ (cont i).toArray) }).update S (Obj.mapSeq fun _ => #[Value.ref s'.heap.objs.size])).update S (Obj.mapSeq fun _ => #[Value.ref s'.heap.objs.size])).get? b = some o := fun b o hb e =>
      (Heap.get?_update_other _ _ (Ne.symm hb)).trans ((Heap.get?_update_other _ _ (Ne.symm hb)).trans (Heap.get?_push_of_some _ e))
    refine wpAny_bind (wpAny_updateSeq kS2 rfl (wpAny_pure ⟨plainId_quiet F.plain_sum_loop _, ih (i + 1) _ s'.heap.objs.size _ 0 (by omega) hin (W.frame _ s' _ _ hst' (Nat.le_refl _) fun b hb o e => oth b o (fun z => hSf (z ▸ hb)) e) (fun b o h1 h2 e => oth b o h2 (hm.heap b o h1 (hB b o h1 h2 e))) (Heap.get?_update_self _ kS2 rfl) ?_ (fun q => ?_) (Nat.ne_of_gt lS) (fun _ => lS) fun s'' T'' m'' hm'' h1 h2 => ?_⟩))
    · refine (Heap.get?_update_other _ _ (Nat.ne_of_lt lS)).trans ((Heap.get?_update_other _ _ (Nat.ne_of_lt lS)).trans ?_)
      rw [Heap.get?_push_size _ rfl, catTo_succ]
      simp [LsO]
    · exact absurd (Nat.lt_trans (hws _ q) lS) (Nat.lt_irrefl _)
    · exact hR s'' T'' m'' (Moved.trans W.gtrans ((hm.mono up).then_heap (Nat.le_refl _) fun b o hb e => oth b o (fun z => hb (by rw [z]; exact List.mem_cons_self)) e) hm'') h1 h2
end
section
variable {prog : Program} {w : World} {A : Around} {E : Value → Shared → Prop} {s : Shared}
theorem call_sumL {x b : Addr} {its : Array Value} {nb : Nat} {cont : Nat → List Value} {Q : Value → Shared → Prop} (hh : A.handled = none) (hx : s.heap.IsList x its) (hb : s.heap.get? b = some (LsO [] nb)) (h0 : 0 < its.size) (hz : (catTo cont its.size).length ≤ sizeLine)
    (hv : ∀ (i : Nat) v, its[i]? = some v → ∃ p m, v = .ref p ∧ s.heap.get? p = some (LsO (cont i) m))
    (q : ∀ h' tk T m, (∀ c o, s.heap.get? c = some o → h'.get? c = some o) → s.heap.objs.size ≤ T → h'.get? T = some (LsO (catTo cont its.size) m) → Q (.ref T) { s with heap := h', toks := tk }) :
    wpAny (model prog w) A (call (.builtin "sum") [.ref x, .ref b]) Q E s := by
  refine call_function_tree F.kind_sum F.plain_sum F.entry_sum (args_sum2 _ _) ?_
  unfold Builtin.«sum»
  simp only [List.length_cons, List.length_nil]
  rw [if_neg (by decide)]
  refine wpAny_bind (wpAny_of_eq (show Builtin.Builtins.bindParams "sum" ["start"] 0 ⟨[.ref b], []⟩ = pure [some (.ref b)] from rfl) ?_)
  obtain ⟨ox, gx, cx, nx, dx⟩ := id hx
  have hne : x ≠ s.heap.objs.size := Nat.ne_of_lt (Heap.lt_size gx)
  refine wpAny_bind (wpAny_pyIter_list hx ?_)
  have W := (Walks.list (prog := prog) (w := w) (A := A.in1) hh s.heap.objs.size x hne its).toS
  have old : ∀ c o, s.heap.get? c = some o → (s.heap.push { cls := .type "list_iterator", data := .fields #[.ref x, .int 0 0] }).get? c = some o := fun c o e => Heap.get?_push_of_some _ e
  have hI : (s.heap.push { cls := .type "list_iterator", data := .fields #[.ref x, .int 0 0] }).get? s.heap.objs.size = some { cls := .type "list_iterator", data := .fields #[.ref x, .int 0 0] } := Heap.get?_push_size _ rfl
  have hz1 : (s.heap.push { cls := .type "list_iterator", data := .fields #[.ref x, .int 0 0] }).objs.size = s.heap.objs.size + 1 := Heap.size_push ..
  refine wpAny_bind (wpAny_pure ?_)
  have tb : Shared.TypeIs { s with heap := s.heap.push { cls := .type "list_iterator", data := .fields #[.ref x, .int 0 0] } } (.ref b) "list" := ⟨_, old _ _ hb, rfl⟩
  simp only [List.forIn_cons, List.forIn_nil]
  refine wpAny_bind (wpAny_bind (wpAny_bind (wpAny_isInstance (b := false) tb sub_ls_str ?_)))
  simp only [Bool.false_eq_true, if_false]
  refine wpAny_pure (wpAny_bind (wpAny_bind (wpAny_isInstance (b := false) tb sub_ls_bytes ?_)))
  simp only [Bool.false_eq_true, if_false]
  refine wpAny_pure (wpAny_bind (wpAny_bind (wpAny_isInstance (b := false) tb sub_ls_ba ?_)))
  simp only [Bool.false_eq_true, if_false]
  refine wpAny_pure (wpAny_pure ?_)
  refine wpAny_bind (wpAny_newObj_type ?_)
  have lS : ∀ {c : Addr} {o : Obj}, s.heap.get? c = some o → c < (s.heap.push { cls := .type "list_iterator", data := .fields #[.ref x, .int 0 0] }).objs.size := fun e => by
    rw [hz1]
    exact Nat.lt_succ_of_lt (Heap.lt_size e)
  have lI : s.heap.objs.size < (s.heap.push { cls := .type "list_iterator", data := .fields #[.ref x, .int 0 0] }).objs.size := by
    rw [hz1]
    exact Nat.lt_succ_self _
  have sS := Heap.get?_push_size (s.heap.push { cls := .type "list_iterator", data := .fields #[.ref x, .int 0 0] }) (o := { cls := .type "list", data := .seq #[.ref b] }) rfl
  have keep : ∀ c o, (s.heap.push { cls := .type "list_iterator", data := .fields #[.ref x, .int 0 0] }).get? c = some o → ((s.heap.push { cls := .type "list_iterator", data := .fields #[.ref x, .int 0 0] }).push { cls := .type "list", data := .seq #[.ref b] }).get? c = some o := fun c o e => Heap.get?_push_of_some _ e
  have hB : ((s.heap.push { cls := .type "list_iterator", data := .fields #[.ref x, .int 0 0] }).push { cls := .type "list", data := .seq #[.ref b] }).get? b = some (LsO (catTo cont 0) nb) := keep _ _ (old _ _ hb)
  refine wpAny_pure ⟨plainId_quiet F.plain_sum_loop _, sumL_loop W _ (fun z => ?_) cont (s.heap.push { cls := .type "list_iterator", data := .fields #[.ref x, .int 0 0] }) hz (fun c hc => ?_) (fun i v hP => ?_) its.size 0 _ b 0 nb rfl (Nat.zero_le _) ⟨⟨_, keep _ _ hI, rfl, rfl⟩, ⟨ox, keep _ _ (old _ _ gx), cx, nx, dx⟩⟩ (fun c o _ _ e => keep c o e) sS hB (fun z => ?_) (Nat.ne_of_lt (lS hb)) (fun z => absurd z (Nat.lt_irrefl _)) fun s' T' m' hm h1 h2 => ?_⟩
  · rcases List.mem_cons.mp z with z | z
    · exact absurd (z ▸ lI) (Nat.lt_irrefl _)
    · exact absurd ((List.mem_singleton.mp z) ▸ lS gx) (Nat.lt_irrefl _)
  · rw [List.mem_singleton.mp hc]
    exact lI
  · obtain ⟨p, m, e1, e2⟩ := hv i v hP
    exact ⟨p, m, e1, old _ _ e2, fun z => absurd ((List.mem_singleton.mp z) ▸ Heap.lt_size e2) (Nat.lt_irrefl _), Nat.ne_of_lt (lS e2)⟩
  · exact absurd ((List.mem_singleton.mp z) ▸ Heap.lt_size hb) (Nat.lt_irrefl _)
  · obtain ⟨h', g', d', tk', os'⟩ := s'
    have e1 : g' = s.gens := hm.gens
    have e2 : d' = s.drawn := hm.drawn
    have e3 : os' = s.os := hm.os
    subst e1 e2 e3
    refine q h' tk' T' m' (fun c o e => hm.heap c o (fun z => ?_) (keep _ _ (old _ _ e))) (Nat.le_of_lt (Nat.lt_trans lI (h2 h0))) h1
    rcases List.mem_cons.mp z with z | z
    · exact absurd (z ▸ lS e) (Nat.lt_irrefl _)
    · exact absurd ((List.mem_singleton.mp z) ▸ Heap.lt_size e) (Nat.lt_irrefl _)
end
/-- sum(lists, []), some lists -/
def rSumL (K : PySem.W.Frag) : RCall := fun vs H Q => ∃ (a b : Addr) (ps : List Addr) (xss : List (List V)), vs = [.ref a, .ref b] ∧ H a = some (.lst (ps.map V.ref)) ∧ Paired (fun p xs => H p = some (.lst xs)) ps xss ∧ H b = some (.lst []) ∧ xss ≠ [] ∧ xss.flatten.length ≤ 100000 ∧
  ∀ (H' : Hp) (p : Addr), (∀ c o, H c = some o → H' c = some o) → H p = none → H' p = some (.lst xss.flatten) → Q (.ref p) H'
theorem catTo_list : ∀ cs : List (List Value), catTo (fun i => cs.getD i []) cs.length = cs.flatten := fun cs => by
  have go : ∀ k, k ≤ cs.length → catTo (fun i => cs.getD i []) k = (cs.take k).flatten := fun k => by
    induction k with
    | zero =>
      intro _
      rfl
    | succ k ih =>
      intro hk
      have hk' : k < cs.length := hk
      have g : cs.getD k [] = cs[k] := by simp [hk']
      rw [catTo_succ, ih (Nat.le_of_lt hk'), List.take_add_one, List.flatten_append, g, List.getElem?_eq_getElem hk']
      simp
  rw [go _ (Nat.le_refl _), List.take_length]
theorem lists_at {X : Cx} {pins : List (Addr × Obj)} {σ : L2.St} {H : Hp} {s : Shared} (I : Inv X pins σ H s) : ∀ {ps : List Addr} {xss : List (List V)}, Paired (fun p xs => H p = some (.lst xs)) ps xss →
    ∃ cs : List (List Value), cs.length = ps.length ∧ (∀ (i : Nat) p, ps[i]? = some p → ∃ m, s.heap.get? p = some (LsO (cs.getD i []) m)) ∧ Vals xss.flatten cs.flatten
  | [], [], .nil => ⟨[], rfl, fun i p e => by simp at e, .nil⟩
  | p :: ps, xs :: xss, .cons h t => by
    obtain ⟨cs, c1, c2, c3⟩ := lists_at I t
    obtain ⟨z, its, n, r, hl, e⟩ := I.lstM h
    refine ⟨its :: cs, by simp [c1], fun i p' hi => ?_, ?_⟩
    · cases i with
      | zero =>
        cases hi
        exact ⟨n, e⟩
      | succ i =>
        obtain ⟨m, hm⟩ := c2 i p' hi
        exact ⟨m, by simpa using hm⟩
    · rw [List.flatten_cons, List.flatten_cons]
      exact r.append c3
theorem refs_of : ∀ {ps : List Addr} {us : List Value}, Vals (ps.map V.ref) us → us = ps.map Value.ref
  | [], _, .nil => rfl
  | p :: ps, _, .cons r t => by
    cases r
    rw [refs_of t]
    rfl
theorem cr_sumL {X : Cx} (hc : X.calm = true) : CallR X (.builtin "sum") (rSumL X.K) := by
  intro pins s σ H vs us Q I r q
  obtain ⟨a, b, ps, xss, rfl, ha, pr, hb, hne, hl, q⟩ := q
  obtain ⟨u, u', rfl, ra, rb⟩ := vals2 r
  cases ra
  cases rb
  obtain ⟨z, its, n, rv, hlen, e⟩ := I.lstM ha
  obtain ⟨z2, itb, nb, rv2, hlen2, e2⟩ := I.lstM hb
  cases rv2
  obtain ⟨cs, c1, c2, c3⟩ := lists_at I pr
  have eu := refs_of rv
  subst eu
  have sz : (ps.map Value.ref).toArray.size = cs.length := by rw [List.size_toArray, List.length_map, c1]
  have hp : 0 < ps.length := by
    rw [Paired.length pr]
    exact List.length_pos_iff.mpr hne
  have cl : cs.flatten.length ≤ sizeLine := by
    rw [← c3.length]
    exact Nat.le_trans hl (by decide)
  refine call_sumL (cont := fun i => cs.getD i []) (I.ok.hd hc) ⟨_, e, rfl, n, rfl⟩ e2 (by rw [sz, c1]; exact hp) (by rw [sz, catTo_list]; exact cl) (fun i v hv => ?_) fun h' tk T m hk hT h1 => ?_
  · rw [List.getElem?_toArray, List.getElem?_map] at hv
    cases hpi : ps[i]? with
    | none =>
      rw [hpi] at hv
      cases hv
    | some p =>
      rw [hpi] at hv
      obtain ⟨m, hm⟩ := c2 i p hpi
      exact ⟨p, m, (Option.some.inj hv).symm, hm⟩
  · rw [sz, catTo_list] at h1
    refine ⟨.ref T, upd H T (.lst xss.flatten), I.laid (t' := tk) hk hT ⟨by rw [c3.length]; exact cl, cs.flatten, m, c3, h1⟩, rfl, q _ T (fun c o e => ?_) (I.hok.fresh hT) upd_same⟩
    rw [upd_ne (fun z => by rw [z, I.hok.fresh hT] at e; cases e)]
    exact e
end DL

/-! Dl4d: sorted(d.items()), a dict from ints to ints. -/
namespace DL
open PySem PySem.Spec PyProof.Rows L2
def pairK (q : Int × Int) : Key × V := (Sum.inl q.1, V.int q.2)
def lexLe (x y : Int × Int) : Prop := x.1 < y.1 ∨ (x.1 = y.1 ∧ x.2 ≤ y.2)
/-- sorted(d.items()), ints -/
def rSortedItems : V → Hp → VK → Prop := fun x H Q => ∃ (d : Addr) (ks : List (Int × Int)), x = .ref d ∧ H d = some (.dK (ks.map pairK)) ∧ ∀ (H' : Hp) (p : Addr) (ts : List Addr) (ks' : List (Int × Int)), (∀ c o, H c = some o → H' c = some o) → H p = none →
  H' p = some (.lst (ts.map V.ref)) → Paired (fun (t : Addr) (q : Int × Int) => H' t = some (.tup [.int q.1, .int q.2])) ts ks' → ks'.Perm ks → ks'.Pairwise lexLe → Q (.ref p) H'
def tSortedItems (td : TE) : TE := fun σ H Q => td σ H fun x H1 => rSortedItems x H1 Q
/-- which pair stands at an address -/
def pairOf (as : List Addr) (ks : List (Int × Int)) : Value → Int × Int
  | .ref a => (((as.zip ks).find? fun z => decide (z.1 = a)).map (·.2)).getD (0, 0)
  | _ => (0, 0)
theorem pairOf_at {as : List Addr} {ks : List (Int × Int)} (nd : as.Nodup) {j : Nat} {a : Addr} {q : Int × Int} (h1 : as[j]? = some a) (h2 : ks[j]? = some q) : pairOf as ks (.ref a) = q := by
  induction as generalizing ks j with
  | nil => simp at h1
  | cons b as ih =>
    obtain ⟨n1, n2⟩ := List.nodup_cons.mp nd
    cases ks with
    | nil => simp at h2
    | cons k ks =>
      cases j with
      | zero =>
        cases h1
        cases h2
        simp [pairOf]
      | succ j =>
        have h1' : as[j]? = some a := by simpa using h1
        have h2' : ks[j]? = some q := by simpa using h2
        have hne : b ≠ a := fun z => n1 (by rw [z]; exact List.mem_of_getElem? h1')
        have := ih n2 h1' h2'
        have e : List.find? (fun z : Addr × (Int × Int) => decide (z.1 = a)) ((b, k) :: as.zip ks) = List.find? (fun z : Addr × (Int × Int) => decide (z.1 = a)) (as.zip ks) := List.find?_cons_of_neg (by simp [hne])
        show ((List.find? (fun z : Addr × (Int × Int) => decide (z.1 = a)) ((b, k) :: as.zip ks)).map (·.2)).getD (0, 0) = q
        rw [e]
        exact this
theorem map_pairOf {as : List Addr} {ks : List (Int × Int)} (nd : as.Nodup) (hl : as.length = ks.length) : (as.map Value.ref).map (pairOf as ks) = ks := by
  apply List.ext_getElem?
  intro j
  rw [List.map_map, List.getElem?_map]
  cases h : as[j]? with
  | none =>
    rw [List.getElem?_eq_none_iff] at h
    rw [List.getElem?_eq_none (by omega)]
    rfl
  | some a =>
    have hj : j < ks.length := by
      have := (List.getElem?_eq_some_iff.mp h).1
      omega
    rw [List.getElem?_eq_getElem hj]
    exact congrArg some (pairOf_at nd h (List.getElem?_eq_getElem hj))
theorem lexLe_of {x y : Int × Int} (h : SrtO.lexB y x = false) : lexLe x y := by
  have := SrtO.lexB_no.mp h
  unfold lexLe
  omega
section
variable {X : Cx}
theorem sortedItems_run {pins : List (Addr × Obj)} {σ : L2.St} {H : Hp} {s : Shared} {Q : VK} {v d : Addr} {ks : List (Int × Int)} (hc : X.calm = true) (I : Inv X pins σ H s) (hv : s.heap.IsItemsView v d) (hd : H d = some (.dK (ks.map pairK)))
    (q : ∀ (H' : Hp) (p : Addr) (ts : List Addr) (ks' : List (Int × Int)), (∀ c o, H c = some o → H' c = some o) → H p = none → H' p = some (.lst (ts.map V.ref)) → Paired (fun (t : Addr) (q : Int × Int) => H' t = some (.tup [.int q.1, .int q.2])) ts ks' → ks'.Perm ks → ks'.Pairwise lexLe → Q (.ref p) H') :
    wpAny (model X.prog X.w) X.A (call (.builtin "sorted") [.ref v]) (EP X pins σ Q) X.xe s := by
  obtain ⟨hz, hs0, vs, kv, hdo⟩ := I.hok d _ hd
  obtain ⟨o, es, ep, ho, hx, hdat, hko, hpr, hnd⟩ := hdo
  rw [List.length_map] at hz
  have lk : (ks.map pairK).length = vs.length := Paired.length kv
  rw [List.length_map] at lk
  -- entries beside the pairs
  have go : ∀ (el : List DictEntry) (vl : List (Key × Value)) (kl : List (Int × Int)), Pairs (mixKind X.prog X.w) el vl → KV (kl.map pairK) vl → el.length = kl.length ∧ ∀ (j : Nat) en, el[j]? = some en → ∃ k, kl[j]? = some k ∧ RelV (V.int k.1) en.key ∧ RelV (V.int k.2) en.val := fun el => by
    induction el with
    | nil =>
      intro vl kl hp hk
      cases hp
      have : kl = [] := by
        cases kl with
        | nil => rfl
        | cons k kl => cases hk
      subst this
      exact ⟨rfl, fun j en h => by simp at h⟩
    | cons e el ih =>
      intro vl kl hp hk
      cases hp with
      | cons p1 p2 p3 =>
        cases kl with
        | nil => cases hk
        | cons k kl =>
          cases hk with
          | cons r t =>
            obtain ⟨r1, r2⟩ := r
            obtain ⟨i1, i2⟩ := ih _ kl p3 t
            refine ⟨by simp [i1], fun j en h => ?_⟩
            cases j with
            | zero =>
              cases h
              refine ⟨k, rfl, ?_, by rw [p2]; exact r2⟩
              rw [← r1] at p1
              exact relV_key (k := Sum.inl k.1) p1
            | succ j => exact i2 j en (by simpa using h)
  obtain ⟨el, ent⟩ := go es.toList vs ks hpr kv
  have esz : es.size = ks.length := by rw [← el, Array.length_toList]
  refine DT.sortedI (es := es) (ep := ep) (I.ok.hd hc) hv ⟨o, ho, hx, hdat⟩ (by rw [esz]; exact hz) fun h' tk as hk hlt hl hG => ?_
  have nd : as.Nodup := List.Pairwise.imp (fun q => Nat.ne_of_lt q) hG.rise
  have lak : as.length = ks.length := by omega
  have pr : ∀ (j : Nat) (b : Addr), as[j]? = some b → ∃ k x y, ks[j]? = some k ∧ RelV (V.int k.1) x ∧ RelV (V.int k.2) y ∧ h'.get? b = some { cls := .type "tuple", data := .seq #[x, y] } := by
    intro j b hj
    obtain ⟨en, he, hg⟩ := hG.pairs j b hj
    obtain ⟨k, k1, k2, k3⟩ := ent j en (by simpa using he)
    exact ⟨k, en.key, en.val, k1, k2, k3, hg⟩
  have hob : (h'.push { cls := .type "list", data := .seq (as.map Value.ref).toArray }).get? h'.objs.size = some (seqObj "list" (as.map Value.ref).toArray 0) := Heap.get?_push_size _ rfl
  have ka : ∀ b o, h'.get? b = some o → (h'.push { cls := .type "list", data := .seq (as.map Value.ref).toArray }).get? b = some o := fun b o e => Heap.get?_push_of_some _ e
  generalize h'.push { cls := .type "list", data := .seq (as.map Value.ref).toArray } = h2 at hob ka ⊢
  have ne0 : ∀ b o, h'.get? b = some o → b ≠ h'.objs.size := fun b o e => Nat.ne_of_lt (Heap.lt_size e)
  have pin : ∀ u ∈ as.map Value.ref, Srt.IsPair h2 u (pairOf as ks u).1 (pairOf as ks u).2 := by
    intro u hu
    obtain ⟨b, hb, rfl⟩ := List.mem_map.mp hu
    obtain ⟨j, hj⟩ := List.mem_iff_getElem?.mp hb
    obtain ⟨k, x, y, hk', rx, ry, hg⟩ := pr j b hj
    obtain ⟨t, rfl⟩ := rx
    obtain ⟨t', rfl⟩ := ry
    rw [pairOf_at nd hj hk']
    exact ⟨b, _, t, t', 0, rfl, ka _ _ hg, rfl, rfl⟩
  refine wpAny_call_entry PyProof.Rows.slot_list_sort ⟨_, hob, rfl⟩ PyProof.Rows.entry_list_sort
    (SrtO.list_sort_ord (s := { s with heap := h2, toks := tk }) (SrtO.swo_lex (pairOf as ks)) hob (by rw [List.length_map, lak]; exact hz) (fun h2' => SrtO.pairs_sortableO (s := { s with heap := h2, toks := tk }) (by omega) pin fun o e cl => ?_) fun out hs hb => ⟨.none, rfl, ?_⟩) (PyProof.Rows.args_list_sort _)
  · have e' : some o = some (seqObj "list" (as.map Value.ref).toArray 0) := e.symm.trans hob
    cases e'
    exact absurd (Value.type.inj cl) (by decide)
  · show EP X pins σ Q (.ref h'.objs.size) { s with heap := sortedHeap h2 h'.objs.size (as.map Value.ref) out.toArray, toks := tk }
    obtain ⟨ts, rfl, pt⟩ : ∃ ts : List Addr, out = ts.map Value.ref ∧ ts.Perm as := by
      have pm := hb.perm.map fun u : Value => match u with | .ref a => a | _ => 0
      rw [List.map_map] at pm
      have e : (fun u : Value => match u with | .ref a => a | _ => 0) ∘ Value.ref = fun a : Addr => a := rfl
      rw [e, List.map_id'] at pm
      refine ⟨_, ?_, pm⟩
      rw [List.map_map]
      refine (List.map_id' _).symm.trans (List.map_congr_left fun u hu => ?_)
      obtain ⟨a, _, rfl⟩ := List.mem_map.mp (hb.perm.mem_iff.mp hu)
      rfl
    have pm2 : ((ts.map Value.ref).map (pairOf as ks)).Perm ks := by
      have := hb.perm.map (pairOf as ks)
      rw [map_pairOf nd lak] at this
      exact this
    have srt : ((ts.map Value.ref).map (pairOf as ks)).Pairwise lexLe := List.pairwise_map.mpr (List.Pairwise.imp (fun {x y} h => lexLe_of h) hs)
    have kF : ∀ b o, b ≠ h'.objs.size → h2.get? b = some o → (sortedHeap h2 h'.objs.size (as.map Value.ref) (ts.map Value.ref).toArray).get? b = some o := fun b o hb e => (PyProof.Rows.sortedHeap_old hb (Heap.lt_size e)).trans e
    have kS : ∀ b o, s.heap.get? b = some o → (sortedHeap h2 h'.objs.size (as.map Value.ref) (ts.map Value.ref).toArray).get? b = some o := fun b o e => kF b o (ne0 _ _ (hk b o e)) (ka _ _ (hk b o e))
    obtain ⟨eF, heF⟩ := PyProof.Rows.sortedHeap_at (vs := as.map Value.ref) (out := (ts.map Value.ref).toArray) hob
    have I1 : Inv X pins σ H { s with heap := sortedHeap h2 h'.objs.size (as.map Value.ref) (ts.map Value.ref).toArray, toks := tk } := I.kept (t' := tk) kS
    have hn0 : H h'.objs.size = none := I.hok.fresh (Nat.le_of_lt hlt)
    have lts : ts.length ≤ sizeLine := by rw [pt.length_eq, lak]; exact hz
    have rv : Vals (ts.map V.ref) (ts.map Value.ref) := vals_refs ts
    have I2 : Inv X pins σ (upd H h'.objs.size (.lst (ts.map V.ref))) { s with heap := sortedHeap h2 h'.objs.size (as.map Value.ref) (ts.map Value.ref).toArray, toks := tk } :=
      I1.take (h' := sortedHeap h2 h'.objs.size (as.map Value.ref) (ts.map Value.ref).toArray) (t' := tk) (fun b ob _ e => e) (I.fpOk (Nat.le_of_lt hlt) hn0) ⟨by rw [List.length_map]; exact lts, ts.map Value.ref, eF, rv, heF⟩
    obtain ⟨H2, I3, g, qt⟩ := L2.DX.takeT (P := fun b vs => vs = [.int (pairOf as ks (.ref b)).1, .int (pairOf as ks (.ref b)).2]) I as _ I2 nd fun b hb => by
      obtain ⟨j, hj⟩ := List.mem_iff_getElem?.mp hb
      obtain ⟨k, x, y, hk', rx, ry, hg⟩ := pr j b hj
      have hbl : s.heap.objs.size ≤ b := Nat.le_of_lt (hG.above b hb)
      refine ⟨hbl, ?_, _, rfl, fun H3 => ?_⟩
      · rw [upd_ne (ne0 _ _ hg)]
        exact I.hok.fresh hbl
      · rw [pairOf_at nd hj hk']
        exact ⟨by show 2 ≤ sizeLine; decide, [x, y], .cons rx (.cons ry .nil), ⟨_, kF _ _ (ne0 _ _ hg) (ka _ _ hg), rfl, 0, rfl⟩⟩
    have gr : ∀ b o, H b = some o → H2 b = some o := fun b o e => g b o (by rw [upd_ne (ne_of_none e hn0)]; exact e)
    refine ⟨.ref h'.objs.size, H2, I3, rfl, q H2 h'.objs.size ts _ gr hn0 (g _ _ upd_same) ?_ pm2 srt⟩
    have pl : ∀ l : List Addr, (∀ t ∈ l, t ∈ as) → Paired (fun (t : Addr) (q : Int × Int) => H2 t = some (.tup [.int q.1, .int q.2])) l ((l.map Value.ref).map (pairOf as ks)) := fun l => by
      induction l with
      | nil => exact fun _ => .nil
      | cons t l ih =>
        intro hm
        obtain ⟨vs, e, h⟩ := qt t (hm t List.mem_cons_self)
        rw [e] at h
        exact .cons h (ih fun x hx => hm x (List.mem_cons_of_mem _ hx))
    exact pl ts fun t ht => pt.mem_iff.mp ht
theorem pe_sortedItems {e : Expr} {te : TE} {p apos cpos pos : Pos} (hc : X.calm = true) (hg : Gl X "sorted") (hm : X.mg "sorted" = none) (hu : X.A.units + 64 < cLine) (he : PE X e te) (hbase : attributeBase e "items" X.env (eval e X.env) = eval e X.env := by rfl) (hline : (apos.endLine == cpos.line) = true := by rfl)
    (hs : starEach [.Call (.Attribute e "items" apos) [] [] cpos] X.env = (false, eval (.Call (.Attribute e "items" apos) [] [] cpos) X.env) :: starEach [] X.env := by rfl) :
    PE X (.Call (.Name "sorted" p) [.Call (.Attribute e "items" apos) [] [] cpos] [] pos) (tSortedItems te) := by
  refine ⟨fun pins s σ H Q I hq => ?_⟩
  refine wpAny_Call_Name_kw (ld_blt I hg hm PyProof.Rows.boot_sorted ?_)
  refine PyProof.Rows.callWith_builtin1 ?_ hs rfl
  rw [hs]
  show wpAny _ _ (spliced ((false, eval (.Call (.Attribute e "items" apos) [] [] cpos) X.env) :: backTo pos (starEach [] X.env))) _ _ s
  refine Calls.spliced_cons ?_
  refine wpAny_Call_method (T := "dict") (id := "dict.items") hbase rfl hline F.plainAttrs_dict F.slot_dict_items F.type_dict_items (thn (he.run pins s σ H _ I hq) fun u s1 ⟨x, H1, I1, rx, d, ks, ex, hd, q⟩ => ?_)
  subst ex
  obtain rfl : u = Value.ref d := rx
  obtain ⟨hz, hs0, vs, kv, hdo⟩ := I1.hok d _ hd
  have I2 : Inv X pins σ H1 { s1 with heap := s1.heap.push { cls := .type "dict_items", data := .fields #[.ref d] } } := I1.kept (t' := s1.toks) fun b ob q => Heap.get?_push_of_some _ q
  refine ⟨hdo.typeIs, hdo.mapOf.noDict, ?_⟩
  show wpAny _ _ (callWith cpos (.builtin "dict.items") [.ref d] [] []) _ X.xe s1
  refine method_meetsIn F.slot_dict_items F.entry_dict_items rfl (PySem.evalArgs_none ⟨rfl, hdo.typeIs, F.args_dict_items_1 _, _, meets_dict_items (mixKind X.prog X.w) d hs0, ⟨vs, hdo⟩, ?_⟩)
  refine Calls.spliced_nil ?_
  exact sortedItems_run hc I2 ⟨_, Heap.get?_push_size _ rfl, rfl, rfl⟩ hd q
end
end DL

/-! Dl4e: {k: v for .. in .. for .. in ..}. -/
namespace DL
open PySem PySem.Spec PyProof.Rows L2
open Sem (wp)
abbrev DC (kx vx g0 j0 g1 j1 : Expr) (scope : Scope) (pos : Pos) : Expr := .DictComp kx vx [⟨g0, j0, [], 0⟩, ⟨g1, j1, [], 0⟩] scope pos
theorem dc2_turn0 (kx vx g0 j0 g1 j1 : Expr) (scope : Scope) (pos : Pos) (it acc : Value) (env : Env) : compTurn (DC kx vx g0 j0 g1 j1 scope pos) 0 it acc env = (do
  standAt j0.pos
  match ← pyNext it with
  | none => pure (.done .next)
  | some u =>
    letOwnedTupleGo g0 it u
    assign g0 env u
    let mut yes := true
    for c in ([] : List Expr) do
      if yes then yes ← isTrue c env (eval c env)
    if yes then
      let src ← eval j1 env
      standAt j1.pos
      let src ← foldedSetIterable j1 env src
      let _ ← runOwn (.compStart (DC kx vx g0 j0 g1 j1 scope pos) 1 (← holding [src] (pyIter src)) acc env) env
    again (.compLoop (DC kx vx g0 j0 g1 j1 scope pos) 0 it acc env)) := rfl
theorem dc2_turn1 (kx vx g0 j0 g1 j1 : Expr) (scope : Scope) (pos : Pos) (it : Value) (D : Addr) (env : Env) : compTurn (DC kx vx g0 j0 g1 j1 scope pos) 1 it (.ref D) env = (do
  standAt j1.pos
  match ← pyNext it with
  | none => pure (.done .next)
  | some u =>
    letOwnedTupleGo g1 it u
    assign g1 env u
    let mut yes := true
    for c in ([] : List Expr) do
      if yes then yes ← isTrue c env (eval c env)
    if yes then
      (do
        let a ← eval kx env
        let b ← holding [a] (eval vx env)
        standAt { kx.pos with endLine := vx.pos.endLine, endCol := vx.pos.endCol }
        holding [a, b] (dictSet D a b))
    again (.compLoop (DC kx vx g0 j0 g1 j1 scope pos) 1 it (.ref D) env)) := rfl
section
variable {prog : Program} {w : World} {A : Around} {R : Result → Shared → Prop} {s : Shared} {kx vx g0 j0 g1 j1 : Expr} {scope : Scope} {pos : Pos} {it acc : Value} {D : Addr} {env : Env}
abbrev Nt (prog : Program) (w : World) (A : Around) (env : Env) (R : Result → Shared → Prop) : Value → Shared → Prop := notedBy (model prog w) A env fun e s' => R (.error e) s'
/-- the first clause's loop -/
theorem dc2_loop0 (hs : ∀ x, foldedSetIterable j1 env x = pure x) (I : Nat → Shared → Prop)
    (turn : ∀ n t, I n t → wpAny (model prog w) A (pyNext it) (fun r t1 => match r with
      | none => R (.ok .next) t1
      | some u => wpAny (model prog w) A (letOwnedTupleGo g0 it u) (fun _ t2 => wpAny (model prog w) A (assign g0 env u) (fun _ t3 =>
          wpAny (model prog w) A (eval j1 env) (fun x t4 => wpAny (model prog w) A (pyIter x) (fun i1 t5 =>
            codeAny (model prog w) A (.compStart (DC kx vx g0 j0 g1 j1 scope pos) 1 i1 acc env) (fun r t6 => match r with
              | .ok _ => ∃ m, m < n ∧ I m t6
              | .error _ => False) t5) (Nt prog w A env R) t4) (Nt prog w A env R) t3) (Nt prog w A env R) t2) (Nt prog w A env R) t1) (Nt prog w A env R) t)
    (n : Nat) (h : I n s) : codeAny (model prog w) A (.compLoop (DC kx vx g0 j0 g1 j1 scope pos) 0 it acc env) R s := by
  refine codeAny_loop rfl I (fun n t hI => ?_) n h
  show wpAny _ A ((compTurn (DC kx vx g0 j0 g1 j1 scope pos) 0 it acc env).onRaise (fun x => do noteFrame x env; theTreesLotGoes x)) _ _ t
  refine wpAny_noted ?_
  rw [dc2_turn0]
  refine wpAny_bind (wpAny_standAt (wpAny_bind (wpAny_mono (turn n t hI) (fun r t1 k1 => ?_) fun _ _ z => z)))
  cases r with
  | none => exact wpAny_pure k1
  | some u =>
    refine wpAny_bind (wpAny_mono k1 (fun _ t2 k2 => ?_) fun _ _ z => z)
    refine wpAny_bind (wpAny_mono k2 (fun _ t3 k3 => ?_) fun _ _ z => z)
    simp only [List.forIn_nil]
    refine wpAny_bind (wpAny_pure ?_)
    simp only [if_true]
    refine wpAny_bind (wpAny_mono k3 (fun x t4 k4 => ?_) fun _ _ z => z)
    refine wpAny_bind (wpAny_standAt (wpAny_bind (wpAny_of_eq (hs x) (wpAny_bind (wpAny_holding (wpAny_mono k4 (fun i1 t5 k5 => ?_) fun _ _ z => z))))))
    refine wpAny_bind (wpAny_runOwn ?_)
    rw [Around.mark_none]
    refine codeAny_mono k5 fun r t6 hr => ?_
    cases r with
    | ok f => first | exact wpAny_pure ⟨rfl, hr⟩ | exact wpAny_bind (wpAny_pure (wpAny_pure ⟨rfl, hr⟩))
    | error e => exact hr.elim
/-- the second's -/
theorem dc2_loop1 (I : Nat → Shared → Prop)
    (turn : ∀ n t, I n t → wpAny (model prog w) A (pyNext it) (fun r t1 => match r with
      | none => R (.ok .next) t1
      | some u => wpAny (model prog w) A (letOwnedTupleGo g1 it u) (fun _ t2 => wpAny (model prog w) A (assign g1 env u) (fun _ t3 =>
          wpAny (model prog w) A (eval kx env) (fun a t4 => wpAny (model prog w) A (eval vx env) (fun b t5 =>
            wpAny (model prog w) A (dictSet D a b) (fun _ t6 => ∃ m, m < n ∧ I m t6) (Nt prog w A env R) t5) (Nt prog w A env R) t4) (Nt prog w A env R) t3) (Nt prog w A env R) t2) (Nt prog w A env R) t1) (Nt prog w A env R) t)
    (n : Nat) (h : I n s) : codeAny (model prog w) A (.compLoop (DC kx vx g0 j0 g1 j1 scope pos) 1 it (.ref D) env) R s := by
  refine codeAny_loop rfl I (fun n t hI => ?_) n h
  show wpAny _ A ((compTurn (DC kx vx g0 j0 g1 j1 scope pos) 1 it (.ref D) env).onRaise (fun x => do noteFrame x env; theTreesLotGoes x)) _ _ t
  refine wpAny_noted ?_
  rw [dc2_turn1]
  refine wpAny_bind (wpAny_standAt (wpAny_bind (wpAny_mono (turn n t hI) (fun r t1 k1 => ?_) fun _ _ z => z)))
  cases r with
  | none => exact wpAny_pure k1
  | some u =>
    refine wpAny_bind (wpAny_mono k1 (fun _ t2 k2 => ?_) fun _ _ z => z)
    refine wpAny_bind (wpAny_mono k2 (fun _ t3 k3 => ?_) fun _ _ z => z)
    simp only [List.forIn_nil]
    refine wpAny_bind (wpAny_pure ?_)
    simp only [if_true]
    exact wpAny_bind (wpAny_bind (wpAny_mono k3 (fun a t4 k4 => wpAny_bind (wpAny_holding (wpAny_mono k4 (fun b t5 k5 => wpAny_bind (wpAny_standAt (wpAny_holding (wpAny_mono k5 (fun _ t6 k6 => wpAny_pure ⟨rfl, k6⟩) fun _ _ z => z)))) fun _ _ z => z))) fun _ _ z => z))
theorem dc2_start1 (h0 : codeAny (model prog w) A (.compLoop (DC kx vx g0 j0 g1 j1 scope pos) 1 it acc env) R s)
    (h : wpAny (model prog w) A (pyIter it) (fun i' s' => codeAny (model prog w) A (.compLoop (DC kx vx g0 j0 g1 j1 scope pos) 1 i' acc env) R s') (Nt prog w A env R) s) :
    codeAny (model prog w) A (.compStart (DC kx vx g0 j0 g1 j1 scope pos) 1 it acc env) R s := by
  refine codeAny_of_tree ?_
  show wpAny _ _ ((compStart (DC kx vx g0 j0 g1 j1 scope pos) 1 it acc env).onRaise (fun x => do noteFrame x env; standAt theWindowsPlace)) _ _ s
  refine wpAny_notedAt ?_
  unfold compStart
  show wpAny _ _ (ask >>= _) _ _ s
  refine wpAny_bind (wpAny_askSetting (wpAny_ite ?_))
  split
  · first | exact wpAny_bind (wpAny_pure (wpAny_pure (And.intro rfl h0))) | exact wpAny_pure (And.intro rfl h0)
  · first
      | exact wpAny_bind (wpAny_rule (wpAny_bind (wpAny_standAt (wpAny_bind (wpAny_mono h (fun i' s' z => wpAny_pure (And.intro rfl z)) fun _ _ x => x)))))
      | (refine wpAny_bind (wpAny_rule ?_); show wpAny _ _ (standAt j1.pos >>= _) _ _ s; exact wpAny_bind (wpAny_standAt (wpAny_bind (wpAny_mono h (fun i' s' z => wpAny_pure (And.intro rfl z)) fun _ _ x => x))))
end
/-- {k: v for tg in iter for tg1 in iter1} -/
def tDc2 (wi : TI) (g : TG) (wi1 : TI) (g1 : TG) (tk tv : TE) (vs vs1 : List Nat) : TE := fun σ H Q => wi σ H fun J H1 => ∀ D, H1 D = none → ∃ W : Nat → Nat → Hp → Prop, (∃ m, W 0 m (upd H1 D (.dK []))) ∧ ∀ i m H, W i m H →
  (J.stop i H ∧ Q (.ref D) H) ∨ (J.go i H ∧ ∃ Nx : Hp → Prop, (∀ H', Nx H' → ∃ m', m' < m ∧ W (i + 1) m' H') ∧ ∀ x H', J.yld i H x H' → g x (wipe σ vs) H' fun σ2 H2 => wipe σ2 vs = wipe σ vs ∧
    wi1 σ2 H2 fun J1 H4 => ∃ W1 : Nat → Nat → Hp → Prop, (∃ m, W1 0 m H4) ∧ ∀ j k H, W1 j k H →
      (J1.stop j H ∧ Nx H) ∨ (J1.go j H ∧ ∃ Nx1 : Hp → Prop, (∀ H', Nx1 H' → ∃ k', k' < k ∧ W1 (j + 1) k' H') ∧ ∀ x H', J1.yld j H x H' → g1 x (wipe σ2 vs1) H' fun σ3 H5 => wipe σ3 vs1 = wipe σ2 vs1 ∧
        tk σ3 H5 fun y H6 => tv σ3 H6 fun z H7 => ∃ kvs k, y = kV k ∧ H7 D = some (.dK kvs) ∧ kvs.length < sizeLine ∧ Nx1 (upd H7 D (.dK (putK kvs k z)))))
section
variable {X : Cx}
theorem dc2_core {pins : List (Addr × Obj)} {s : Shared} {σ : L2.St} {H : Hp} {Q : VK} {kx vx g0 j0 g1 j1 : Expr} {scope : Scope} {own : List (Str × Nat)} {us : List Nat} {pos pos' : Pos} {wi wi1 : TI} {g h : TG} {tk tv : TE} {use : Option (Value → Sem Unit)} {Qf : Value → Shared → Prop}
    (calm : X.calm = true) (hN : X.N.Nodup) (I : Inv X pins σ H s) (pi0 : PI X g0 j0 wi) (ok : BlkOk X.N X.env.scope scope own) (hv : ∀ i ∈ us, i ∈ own.map (·.2))
    (pg0 : ∀ (s : Shared) (H : Hp) (C : Addr) (cl : List (Str × Addr)) (fp : List Addr), PG (X.blk s H scope (compEnvC scope cl C X.env) fp) g0 g)
    (pi1 : ∀ (s : Shared) (H : Hp) (C : Addr) (cl : List (Str × Addr)) (fp : List Addr), PI (X.blk s H scope (compEnvC scope cl C X.env) fp) g1 j1 wi1)
    (pg1 : ∀ (s : Shared) (H : Hp) (C : Addr) (cl : List (Str × Addr)) (fp : List Addr), PG (X.blk s H scope (compEnvC scope cl C X.env) fp) g1 h)
    (pk : ∀ (s : Shared) (H : Hp) (C : Addr) (cl : List (Str × Addr)) (fp : List Addr), PE (X.blk s H scope (compEnvC scope cl C X.env) fp) kx tk)
    (pv : ∀ (s : Shared) (H : Hp) (C : Addr) (cl : List (Str × Addr)) (fp : List Addr), PE (X.blk s H scope (compEnvC scope cl C X.env) fp) vx tv)
    (hs : ∀ x, foldedSetIterable j0 X.env x = pure x) (hs1 : ∀ env x, foldedSetIterable j1 env x = pure x) (q0 : tDc2 wi g wi1 h tk tv (own.map (·.2)) us σ H Q)
    (hRR : ∀ D C t m H', Inv X pins σ H' t → Q (.ref D) H' → t.heap.Ns C m → FpOk X pins H' C → compPost (model X.prog X.w) X.A X.xe use Qf (.ref D) C (.ok .next) t) :
    wpAny (model X.prog X.w) X.A (comprehension (DC kx vx g0 j0 g1 j1 scope pos) scope X.env pos' newDict false (eval j0 X.env) use) Qf X.xe s := by
  have fr : ∀ y ∈ scope.names, y.2 = .free → ∃ c, X.env.cells.lookup y.1 = some c := fun y hy e => (ok.free y hy e).elim (fun k => I.ok.has _ (.inl k)) fun k => I.ok.has _ (.inr k)
  refine wpAny_comprehension_free (use := use) rfl hs (closure_ok fr) ok.kind (fun y hy e => by rw [ok.uniq y hy, e]) (thn (pi0.run pins s σ H _ I q0) fun xv t1 hx => thn hx fun itv t2 k2 => ?_)
  obtain ⟨it, fp, tn, J, H2, e, I2, T, st2, f2, q⟩ := k2
  subst e
  refine wpAny_newObj_type (newEnv_comp ?_)
  generalize eD : t2.heap.objs.size = D
  have nD : H2 D = none := I2.hok.fresh (Nat.le_of_eq eD)
  obtain ⟨W, ⟨m0, w0⟩, turn⟩ := q D nD
  generalize et3 : ({ t2 with heap := t2.heap.push { cls := .type "dict", data := .dict #[] } } : Shared) = t3
  have I3 : Inv X pins σ (upd H2 D (.dK [])) t3 := by
    rw [← et3]
    refine I2.laid (t' := t2.toks) (fun b o y => Heap.get?_push_of_some _ y) (Nat.le_of_eq eD) ?_
    rw [← eD]
    exact dk_empty t2.heap I2.big
  have h3 : t3.heap = t2.heap.push { cls := .type "dict", data := .dict #[] } := by rw [← et3]
  have lt2 : ∀ b ∈ fp, b < t2.heap.objs.size := fun b hb => let ⟨o, y, _⟩ := T.obj _ _ st2 b hb; Heap.lt_size y
  have f3 : ∀ b ∈ fp, FpOk X pins (upd H2 D (.dK [])) b ∧ b < t3.heap.objs.size := fun b hb => by
    have l := lt2 b hb
    have ne : b ≠ D := by
      rw [← eD]
      exact Nat.ne_of_lt l
    exact ⟨⟨by rw [upd_ne ne]; exact (f2 b hb).1, (f2 b hb).2⟩, by rw [h3, Heap.size_push]; exact Nat.lt_succ_of_lt l⟩
  have st3 : tn 0 t3.heap := T.keep _ _ _ st2 fun b _ o y => by
    rw [h3]
    exact Heap.get?_push_of_some _ y
  have I4 := block_start I3 ok hN f3
  have qg0 := pg0 t3 (upd H2 D (.dK [])) t3.heap.objs.size (cellsFrom (t3.heap.objs.size + 1) scope.names (cloFrom X.env.cells scope.names [])) fp
  have qi1 := pi1 t3 (upd H2 D (.dK [])) t3.heap.objs.size (cellsFrom (t3.heap.objs.size + 1) scope.names (cloFrom X.env.cells scope.names [])) fp
  have qg1 := pg1 t3 (upd H2 D (.dK [])) t3.heap.objs.size (cellsFrom (t3.heap.objs.size + 1) scope.names (cloFrom X.env.cells scope.names [])) fp
  have qk := pk t3 (upd H2 D (.dK [])) t3.heap.objs.size (cellsFrom (t3.heap.objs.size + 1) scope.names (cloFrom X.env.cells scope.names [])) fp
  have qv := pv t3 (upd H2 D (.dK [])) t3.heap.objs.size (cellsFrom (t3.heap.objs.size + 1) scope.names (cloFrom X.env.cells scope.names [])) fp
  show codeAny _ _ (.compStart (DC kx vx g0 j0 g1 j1 scope pos) 0 (.ref it) (.ref D) (compEnvC scope (cellsFrom (t3.heap.objs.size + 1) scope.names (cloFrom X.env.cells scope.names [])) t3.heap.objs.size X.env)) (compPost (model X.prog X.w) X.A X.xe use Qf (.ref D) t3.heap.objs.size) { t3 with heap := pushCells (t3.heap.push { cls := .type "dict", data := .dict #[] }) scope.names }
  have nfp : ∀ b ∈ fp, (upd H2 D (.dK [])) b = none := fun b hb => (f3 b hb).1.1
  generalize ece : compEnvC scope (cellsFrom (t3.heap.objs.size + 1) scope.names (cloFrom X.env.cells scope.names [])) t3.heap.objs.size X.env = ce at I4 qg0 qi1 qg1 qk qv ⊢
  have cL : ce.locals = t3.heap.objs.size := by
    subst ece
    rfl
  generalize eH3 : upd H2 D (.dK []) = H3 at I3 I4 qg0 qi1 qg1 qk qv w0 nfp f3
  generalize et4 : ({ t3 with heap := pushCells (t3.heap.push { cls := .type "dict", data := .dict #[] }) scope.names } : Shared) = t4 at I4 ⊢
  have st4 : tn 0 t4.heap := T.keep _ _ _ st3 fun b _ o y => by
    rw [← et4]
    exact pushCells_keeps _ _ _ _ (Heap.get?_push_of_some _ y)
  have stat : ∀ {τ : L2.St} {H' : Hp} {t : Shared}, Inv (X.blk t3 H3 scope ce fp) [] τ H' t → (∀ b ∈ fp, H' b = none) → ∀ b ∈ fp, FpOk (X.blk t3 H3 scope ce fp) [] H' b := fun {τ H' t} I' hn b hb =>
    ⟨hn b hb, (I'.ok.exf b hb).1, I'.ok.exfs b hb, .inl hb, fun x c y => (I'.ok.exf b hb).2 x c y, fun p hp => absurd (show p ∈ ([] : List (Addr × Obj)) ++ [] from hp) (by simp)⟩
  have loop : codeAny (model X.prog X.w) X.A (.compLoop (DC kx vx g0 j0 g1 j1 scope pos) 0 (.ref it) (.ref D) ce) (compPost (model X.prog X.w) X.A X.xe use Qf (.ref D) t3.heap.objs.size) t4 := by
    refine dc2_loop0 (hs1 ce) (fun n t => ∃ i H', Inv (X.blk t3 H3 scope ce fp) [] (wipe σ (own.map (·.2))) H' t ∧ tn i t.heap ∧ (∀ b ∈ fp, H' b = none) ∧ W i n H') ?_ m0 ⟨0, H3, I4, st4, nfp, w0⟩
    rintro n t5 ⟨i, H5, I5, st5, n5, w5⟩
    rcases turn i n H5 w5 with ⟨stop, qq⟩ | ⟨go, Nx, hNx, step⟩
    · refine thnF (T.done (X.blk t3 H3 scope ce fp) rfl rfl rfl calm i [] t5 _ H5 (fun _ _ => False) I5 (stat I5 n5) st5 stop) fun r t6 ⟨er, I6⟩ => ?_
      subst er
      have I7 : Inv X pins σ H5 t6 := I3.call' (ch := fp) I6.os I6.base I6.hok I6.bare fun b hb => let f := (f3 b hb).1.2; ⟨f.2.2.1, f.1, f.2.2.2.1, f.2.2.2.2⟩
      have nC : H5 t3.heap.objs.size = none := cL ▸ (show H5 ce.locals = none from I6.free)
      obtain ⟨m, hn, _⟩ := I6.loc
      have hn' : t6.heap.Ns t3.heap.objs.size m := cL ▸ (show t6.heap.Ns ce.locals m from hn)
      exact hRR D t3.heap.objs.size t6 m H5 I7 qq hn' (I3.fpOk (Nat.le_refl _) nC)
    · refine thnF (T.item (X.blk t3 H3 scope ce fp) rfl rfl rfl calm i [] t5 _ H5 (fun _ _ => False) I5 (stat I5 n5) st5 go) fun r t6 ⟨u, er, k6⟩ => ?_
      subst er
      refine thnF k6 fun _ t7 ⟨x, H7, I7, r7, y7, st7, n7⟩ => ?_
      refine thnF (qg0.run _ t7 _ H7 x u _ (I7.pinned (stat I7 n7) (T.obj _ _ st7)) r7 (step x H7 y7)) fun _ t8 ⟨σ8, H8, I8, w8, q8⟩ => ?_
      -- a turn's end, from slots that know what the block knew
      have fin : ∀ {τ : L2.St} {t : Shared} {H' : Hp}, Inv (X.blk t3 H3 scope ce fp) ([] ++ pinsAt fp t7.heap) τ H' t → (wipe σ (own.map (·.2))).length = τ.length → (∀ (j : Nat) v, (wipe σ (own.map (·.2)))[j]? = some (some v) → τ[j]? = some (some v)) → Nx H' →
          ∃ m, m < n ∧ ∃ i H', Inv (X.blk t3 H3 scope ce fp) [] (wipe σ (own.map (·.2))) H' t ∧ tn i t.heap ∧ (∀ b ∈ fp, H' b = none) ∧ W i m H' := fun {τ t H'} I' hl hk nx => by
        obtain ⟨m', lm, w'⟩ := hNx H' nx
        have pn : ∀ b ∈ fp, ∀ o, t7.heap.get? b = some o → t.heap.get? b = some o ∧ H' b = none := fun b hb o y => let z := I'.pin (b, o) (List.mem_append_right _ (List.mem_append_right _ (mem_pinsAt hb y))); ⟨z.1, z.2.1⟩
        exact ⟨m', lm, i + 1, H', (I'.unpinned (pins := [])).weak hl hk, T.keep _ _ _ st7 fun b hb o y => (pn b hb o y).1, fun b hb => let ⟨o, y, _⟩ := T.obj _ _ st7 b hb; (pn b hb o y).2, w'⟩
      have l8 : (wipe σ (own.map (·.2))).length = σ8.length := by rw [← w8, wipe_length]
      have k9 : ∀ (j : Nat) v, (wipe σ (own.map (·.2)))[j]? = some (some v) → (wipe σ8 us)[j]? = some (some v) := fun j v y => by
        rw [← w8] at y
        obtain ⟨y1, y2⟩ := wipe_some y
        rw [wipe_out fun z => y2 (hv j z)]
        exact y1
      refine thnF (qi1.run _ t8 σ8 H8 _ I8 q8) fun xv1 t9 hx1 => thnF hx1 fun itv1 t10 k10 => ?_
      obtain ⟨i1, fp1, tn1, J1, H10, e1, I10, T1, st10, f10, W1, ⟨m1, w1⟩, turn1⟩ := k10
      subst e1
      have stat1 : ∀ {H' : Hp}, (∀ b ∈ fp1, H' b = none) → ∀ b ∈ fp1, FpOk (X.blk t3 H3 scope ce fp) ([] ++ pinsAt fp t7.heap) H' b := fun hn b hb => ⟨hn b hb, (f10 b hb).2⟩
      have loop1 : codeAny (model X.prog X.w) X.A (.compLoop (DC kx vx g0 j0 g1 j1 scope pos) 1 (.ref i1) (.ref D) ce) (fun r t => match r with
          | .ok _ => ∃ m, m < n ∧ ∃ i H', Inv (X.blk t3 H3 scope ce fp) [] (wipe σ (own.map (·.2))) H' t ∧ tn i t.heap ∧ (∀ b ∈ fp, H' b = none) ∧ W i m H'
          | .error _ => False) t10 := by
        refine dc2_loop1 (fun k t => ∃ j H', Inv (X.blk t3 H3 scope ce fp) ([] ++ pinsAt fp t7.heap) (wipe σ8 us) H' t ∧ tn1 j t.heap ∧ (∀ b ∈ fp1, H' b = none) ∧ W1 j k H') ?_ m1 ⟨0, H10, I10.weak (wipe_length _ _) (fun j v y => (wipe_some y).1), st10, fun b hb => (f10 b hb).1, w1⟩
        rintro k t11 ⟨j, H11, I11, st11, n11, w11⟩
        rcases turn1 j k H11 w11 with ⟨stop1, nx1⟩ | ⟨go1, Nx1, hNx1, step1⟩
        · refine thnF (T1.done (X.blk t3 H3 scope ce fp) rfl rfl rfl calm j _ t11 (wipe σ8 us) H11 (fun _ _ => False) I11 (stat1 n11) st11 stop1) fun r t12 ⟨er, I12⟩ => ?_
          subst er
          exact fin I12 (l8.trans (wipe_length σ8 us).symm) k9 nx1
        · refine thnF (T1.item (X.blk t3 H3 scope ce fp) rfl rfl rfl calm j _ t11 (wipe σ8 us) H11 (fun _ _ => False) I11 (stat1 n11) st11 go1) fun r t12 ⟨u1, er, k12⟩ => ?_
          subst er
          refine thnF k12 fun _ t13 ⟨x1, H13, I13, r13, y13, st13, n13⟩ => ?_
          refine thnF (qg1.run _ t13 (wipe σ8 us) H13 x1 u1 _ (I13.pinned (stat1 n13) (T1.obj _ _ st13)) r13 (step1 x1 H13 y13)) fun _ t14 ⟨σ14, H14, I14, w14, q14⟩ => ?_
          have fin1 : ∀ {t : Shared} {H' : Hp}, Inv (X.blk t3 H3 scope ce fp) (([] ++ pinsAt fp t7.heap) ++ pinsAt fp1 t13.heap) σ14 H' t → Nx1 H' → ∃ m, m < k ∧ ∃ j H', Inv (X.blk t3 H3 scope ce fp) ([] ++ pinsAt fp t7.heap) (wipe σ8 us) H' t ∧ tn1 j t.heap ∧ (∀ b ∈ fp1, H' b = none) ∧ W1 j m H' := fun {t H'} I' nx => by
            obtain ⟨m', lm, w'⟩ := hNx1 H' nx
            have pn : ∀ b ∈ fp1, ∀ o, t13.heap.get? b = some o → t.heap.get? b = some o ∧ H' b = none := fun b hb o y => let z := I'.pin (b, o) (List.mem_append_right _ (List.mem_append_right _ (mem_pinsAt hb y))); ⟨z.1, z.2.1⟩
            exact ⟨m', lm, j + 1, H', I'.unpinned.weak (by rw [← w14, wipe_length]) (fun j v y => by rw [← w14] at y; exact (wipe_some y).1), T1.keep _ _ _ st13 fun b hb o y => (pn b hb o y).1, fun b hb => let ⟨o, y, _⟩ := T1.obj _ _ st13 b hb; (pn b hb o y).2, w'⟩
          refine thnF (qk.run _ t14 σ14 H14 _ I14 q14) fun a t15 ⟨ya, H15, I15, r15, q15⟩ => ?_
          refine thnF (qv.run _ t15 σ14 H15 _ I15 q15) fun b t16 ⟨yb, H16, I16, r16, kvs, key, ek, d16, z16, nx⟩ => ?_
          subst ek
          exact d_dictSet (X := X.blk t3 H3 scope ce fp) I16 d16 z16 r15 r16 fun t17 I17 => fin1 I17 nx
      exact dc2_start1 loop1 (T1.self X.A 0 _ _ _ st10 loop1)
  exact codeAny_compStart_dict loop (T.self X.A 0 _ _ _ st4 loop)
theorem pe_dc2 {kx vx tg iter tg1 iter1 : Expr} {scope : Scope} {own : List (Str × Nat)} {vs1 : List Nat} {pos : Pos} {wi wi1 : TI} {g g1 : TG} {tk tv : TE} (hc : X.calm = true) (hN : X.N.Nodup) (hi : PI X tg iter wi) (ok : BlkOk X.N X.env.scope scope own) (hv : ∀ i ∈ vs1, i ∈ own.map (·.2))
    (hg : ∀ (s : Shared) (H : Hp) (C : Addr) (cl : List (Str × Addr)) (fp : List Addr), PG (X.blk s H scope (compEnvC scope cl C X.env) fp) tg g)
    (hi1 : ∀ (s : Shared) (H : Hp) (C : Addr) (cl : List (Str × Addr)) (fp : List Addr), PI (X.blk s H scope (compEnvC scope cl C X.env) fp) tg1 iter1 wi1)
    (hg1 : ∀ (s : Shared) (H : Hp) (C : Addr) (cl : List (Str × Addr)) (fp : List Addr), PG (X.blk s H scope (compEnvC scope cl C X.env) fp) tg1 g1)
    (hk : ∀ (s : Shared) (H : Hp) (C : Addr) (cl : List (Str × Addr)) (fp : List Addr), PE (X.blk s H scope (compEnvC scope cl C X.env) fp) kx tk)
    (he : ∀ (s : Shared) (H : Hp) (C : Addr) (cl : List (Str × Addr)) (fp : List Addr), PE (X.blk s H scope (compEnvC scope cl C X.env) fp) vx tv) (hs : ∀ x, foldedSetIterable iter X.env x = pure x := by intro _; rfl) (hs1 : ∀ env x, foldedSetIterable iter1 env x = pure x := by intro _ _; rfl) :
    PE X (.DictComp kx vx [⟨tg, iter, [], 0⟩, ⟨tg1, iter1, [], 0⟩] scope pos) (tDc2 wi g wi1 g1 tk tv (own.map (·.2)) vs1) := by
  refine ⟨fun pins s σ H Q I q => ?_⟩
  rw [arm_eval_DictComp]
  refine dc2_core hc hN I hi ok hv hg hi1 hg1 hk he hs hs1 q fun D C t m H' I' qq hn ⟨f0, f1, f2, f3, f4, f5⟩ => ⟨m, hn, fun h'' sb => ?_⟩
  exact ⟨.ref D, H', I'.turned (t' := t.toks) (fun b o hb e => (sb.2 b hb).trans e) f0 f1 f3 f4 f5, rfl, qq⟩
end
end DL

/-! Dl4s: the rules HandS lacks, together. -/

/-! Dl5: more lemmas by construct: deep ==, ranges made, slices, enumerate, sums, loops. -/
namespace DL
open PySem L2 Evl
open Arg (rp mn)
open Rep (mt)

/-! ### data for deep comparisons -/
class Pd (α : Type) [Arg α] where
  pd : α → PyData
  dp : ∀ (K : PySem.W.Frag) {a : α} {v : V} {H : Hp}, rp a v H → Dp K H v (pd a)
  can : ∀ a : α, (pd a).canLay0 = true
  dep : Nat
  dle : ∀ a : α, (pd a).depth ≤ dep
open Pd (pd)
instance pdInt : Pd Int := ⟨fun i => .int i, fun K {a v H} r => by cases (show v = V.int a from r); exact .int a, fun _ => rfl, 0, fun _ => Nat.le_refl _⟩
instance pdNat : Pd Nat := ⟨fun i => .int i, fun K {a v H} r => by cases (show v = V.int (a : Int) from r); exact .int _, fun _ => rfl, 0, fun _ => Nat.le_refl _⟩
instance pdBool : Pd Bool := ⟨fun b => .bool b, fun K {a v H} r => by cases (show v = V.bl a from r); exact .bl a, fun _ => rfl, 0, fun _ => Nat.le_refl _⟩
instance pdOpt {α : Type} [Rep α] [Pd α] : Pd (Option α) := ⟨fun o => match o with | none => .none | some a => pd a, fun K {a v H} r => by
  cases a with
  | none => cases (show v = V.non from r); exact .non
  | some a => exact Pd.dp (α := α) K r, fun a => by
  cases a with
  | none => rfl
  | some a => exact Pd.can a, Pd.dep α, fun a => by
  cases a with
  | none => exact Nat.zero_le _
  | some a => exact Pd.dle a⟩
theorem dpAll {α : Type} [Arg α] [Pd α] {K : PySem.W.Frag} {H : Hp} : ∀ {as : List α} {vs : List V}, Its as vs H → DpAll K H vs (as.map pd)
  | _, _, .nil => .nil
  | _, _, .cons r t => .cons (Pd.dp K r) (dpAll t)
theorem canAll {α : Type} [Arg α] [Pd α] : ∀ as : List α, PyData.canLayAll0 (as.map pd) = true
  | [] => by simp [PyData.canLayAll0]
  | a :: as => by simp [PyData.canLayAll0, Pd.can a, canAll as]
theorem depAll {α : Type} [Arg α] [Pd α] : ∀ as : List α, PyData.depthAll (as.map pd) ≤ Pd.dep α
  | [] => by simp [PyData.depthAll]
  | a :: as => by
    have h1 := Pd.dle a
    have h2 := depAll as
    simp only [List.map_cons, PyData.depthAll]
    omega
instance pdTup {α : Type} [Rep α] [Pd α] : Pd (Tup α) := ⟨fun t => .tuple (List.map pd t), fun K {a v H} r => by
  obtain ⟨p, vs, rfl, h1, h2⟩ := r
  exact .tup (st_of h1) (dpAll h2), fun a => by simp only [PyData.canLay0]; exact canAll a, Pd.dep α + 1, fun a => by simp only [PyData.depth]; exact Nat.succ_le_succ (depAll a)⟩
instance pdLst {α : Type} [Arg α] [Pd α] : Pd (Lst α) := ⟨fun t => .list (List.map pd t), fun K {a v H} r => by
  obtain ⟨p, vs, rfl, h1, h2⟩ := r
  exact .lst (sq_of h1) (dpAll h2), fun a => by simp only [PyData.canLay0]; exact canAll a, Pd.dep α + 1, fun a => by simp only [PyData.depth]; exact Nat.succ_le_succ (depAll a)⟩
instance pdPair {α β : Type} [Rep α] [Pd α] [Rep β] [Pd β] : Pd (α × β) := ⟨fun t => .tuple [pd t.1, pd t.2], fun K {a v H} r => by
  obtain ⟨p, x, y, rfl, h1, h2, h3⟩ := r
  exact .tup (st_of h1) (.cons (Pd.dp K h2) (.cons (Pd.dp K h3) .nil)), fun a => by simp [PyData.canLay0, PyData.canLayAll0, Pd.can], max (Pd.dep α) (Pd.dep β) + 1, fun a => by
  have h1 := Pd.dle a.1
  have h2 := Pd.dle a.2
  simp only [PyData.depth, PyData.depthAll]
  omega⟩
theorem shaped_of {α : Type} [Arg α] [Pd α] (a : α) (h : Pd.dep α ≤ 64) : SeqAt.shaped (pd a) = true := by
  unfold SeqAt.shaped
  rw [Pd.can a, Bool.true_and]
  exact decide_eq_true (Nat.le_trans (Pd.dle a) h)
section
variable {K : PySem.W.Frag} {σ : L2.St} {H H' : Hp} {ta tb te tc : TE} {tt tu : TT} {R R' : Res} {α β γ : Type}
theorem x_eqD [Arg α] [Pd α] [Arg β] [Pd β] {a : α} {b : β} (ha : EX ta σ H a) (hb : EX tb σ H b) (h1 : Pd.dep α ≤ 64) (h2 : Pd.dep β ≤ 64) : EX (tOp (rEqD K) ta tb) σ H (PyData.eqv (pd a) (pd b)) := fun H1 e Q q =>
  ha H1 e _ fun v H2 ⟨e2, r2⟩ => hb H2 (e.trans e2) _ fun u H3 ⟨e3, r3⟩ => ⟨pd a, pd b, Pd.dp K (mn e3 r2), Pd.dp K r3, shaped_of a h1, shaped_of b h2, q _ _ ⟨e2.trans e3, rfl⟩⟩
theorem x_neD [Arg α] [Pd α] [Arg β] [Pd β] {a : α} {b : β} (ha : EX ta σ H a) (hb : EX tb σ H b) (h1 : Pd.dep α ≤ 64) (h2 : Pd.dep β ≤ 64) : EX (tOp (rNeD K) ta tb) σ H (!PyData.eqv (pd a) (pd b)) := fun H1 e Q q =>
  ha H1 e _ fun v H2 ⟨e2, r2⟩ => hb H2 (e.trans e2) _ fun u H3 ⟨e3, r3⟩ => ⟨pd a, pd b, Pd.dp K (mn e3 r2), Pd.dp K r3, shaped_of a h1, shaped_of b h2, q _ _ ⟨e2.trans e3, rfl⟩⟩
theorem eqv_nil : ∀ ds : List PyData, PyData.eqv (.list ds) (.list []) = ds.isEmpty
  | [] => by simp [PyData.eqv, PyData.eqvAll]
  | d :: ds => by simp [PyData.eqv, PyData.eqvAll]
/-- xs == [], xs != [] -/
theorem x_eqNil [Arg α] [Pd α] {as : List α} (ha : EL ta σ H as) (h1 : Pd.dep α ≤ 63) : EX (tOp (rEqD K) ta (tLst tNil)) σ H as.isEmpty :=
  ex_is (x_eqD (β := Lst α) (b := ([] : List α)) ha (f_lst xs_nil (Nat.zero_le _)).x (Nat.succ_le_succ h1) (Nat.succ_le_succ h1)) (by
    show PyData.eqv (.list (List.map pd as)) (.list []) = as.isEmpty
    rw [eqv_nil]
    cases as <;> rfl)
theorem x_neNil [Arg α] [Pd α] {as : List α} (ha : EL ta σ H as) (h1 : Pd.dep α ≤ 63) : EX (tOp (rNeD K) ta (tLst tNil)) σ H (!as.isEmpty) :=
  ex_is (x_neD (β := Lst α) (b := ([] : List α)) ha (f_lst xs_nil (Nat.zero_le _)).x (Nat.succ_le_succ h1) (Nat.succ_le_succ h1)) (by
    show (!PyData.eqv (.list (List.map pd as)) (.list [])) = !as.isEmpty
    rw [eqv_nil]
    cases as <;> rfl)

/-! ### ranges made -/
theorem rgV_nat (n : Nat) : rgV 0 (n : Int) = ((List.range n).map fun n : Nat => (n : Int)).map V.int := by
  unfold rgV
  rw [List.map_map]
  have e : ((n : Int) - 0).toNat = n := by omega
  rw [e]
  apply List.map_congr_left
  intro i _
  simp
theorem f_lstRg {n : Nat} (h : EX te σ H n) (hn : n ≤ 100000) : EF (tLstRg (tRg1 te)) σ H (List.range n) := fun H1 e Q q =>
  h H1 e _ fun v H2 ⟨e2, r2⟩ => ⟨(n : Int), r2, RgOk.of_le (by omega) (by omega) (by omega) (by omega), fun p hp => q _ _ ⟨e2.trans (Ex.new hp), p, _, rfl, fresh_back e2 hp, upd_same, by rw [rgV_nat]; exact of_nats _⟩⟩
theorem x_tupRg {n : Nat} (h : EX te σ H n) (hn : n ≤ 100000) : ET (tTupRg (tRg1 te)) σ H (List.range n) := fun H1 e Q q =>
  h H1 e _ fun v H2 ⟨e2, r2⟩ => ⟨(n : Int), r2, RgOk.of_le (by omega) (by omega) (by omega) (by omega), fun p hp => q _ _ ⟨e2.trans (Ex.new hp), p, _, rfl, upd_same, by rw [rgV_nat]; exact of_nats _⟩⟩

/-! ### slices of lists -/
def cutA {α : Type} (xs : List α) (lo hi : Option Int) : List α := (xs.drop (HT.sIx xs.length 0 lo)).take (HT.sIx xs.length xs.length hi - HT.sIx xs.length 0 lo)
theorem f_cutA [Arg α] {as : List α} {lo hi : TO} {l u : Option Int} (h : EL ta σ H as) (h1 : EvO lo σ H l) (h2 : EvO hi σ H u) : EF (tSl (rSlL K) ta lo hi) σ H (cutA as l u) :=
  f_cut h h1 h2 (cutA as l u) fun vs hv => ⟨_, _, rfl, by unfold cutA; rw [hv]⟩
theorem o_none : EvO tNoPart σ H none := fun H1 _ Q q => q H1 (Ex.refl H1)
theorem o_some {i : Int} (h : EX te σ H i) : EvO (tPart te) σ H (some i) := fun H1 e Q q => h H1 e _ fun v H2 ⟨e2, r2⟩ => ⟨i, r2, q H2 e2⟩
theorem cutA_nil (l u : Option Int) : cutA ([] : List α) l u = [] := by simp [cutA]
theorem cutA_1 (xs : List α) : cutA xs (some 1) none = xs.drop 1 := by
  have e1 : HT.sIx xs.length 0 (some 1) = min 1 xs.length := HT.sIx_nat xs.length 0 1
  have e2 : HT.sIx xs.length xs.length none = xs.length := rfl
  unfold cutA
  rw [e1, e2]
  cases xs with
  | nil => rfl
  | cons a t =>
    have e : min 1 (a :: t).length = 1 := by simp
    rw [e]
    exact List.take_of_length_le (by simp)
theorem f_rev [Arg α] {as : List α} (h : EL ta σ H as) : EF (tRevL K ta) σ H as.reverse := fun H1 e Q q =>
  h H1 e _ fun v H2 ⟨e2, p, vs, h1, h2, h3⟩ => ⟨p, vs, h1, sq_of h2, fun l hl => q _ _ ⟨e2.trans (Ex.new hl), l, _, rfl, fresh_back e2 hl, upd_same, its_rev (Its.mono (Ex.new hl) h3)⟩⟩
where its_rev {H : Hp} : ∀ {as : List α} {vs : List V}, Its as vs H → Its as.reverse vs.reverse H
  | _, _, .nil => .nil
  | a :: as, v :: vs, .cons r t => by
    rw [List.reverse_cons, List.reverse_cons]
    exact its_snoc (its_rev t) r
/-- xs + ys, lists -/
theorem its_app [Arg α] {H : Hp} : ∀ {as bs : List α} {vs us : List V}, Its as vs H → Its bs us H → Its (as ++ bs) (vs ++ us) H
  | _, _, _, _, .nil, h => h
  | _, _, _, _, .cons r t, h => .cons r (its_app t h)
theorem f_cat [Arg α] {as bs : List α} (ha : EL ta σ H as) (hb : EL tb σ H bs) (hz : as.length + bs.length ≤ 100000) : EF (tOp rCat ta tb) σ H (as ++ bs) := fun H1 e Q q =>
  ha H1 e _ fun v H2 ⟨e2, p, vs, h1, h2, h3⟩ => hb H2 (e.trans e2) _ fun u H3 ⟨e3, p', us, k1, k2, k3⟩ => ⟨p, p', vs, us, h1, k1, e3 _ _ h2, k2, sz_of (by rw [← Its.len h3, ← Its.len k3]; exact hz), fun l hl => q _ _ ⟨(e2.trans e3).trans (Ex.new hl), l, _, rfl, fresh_back (e2.trans e3) hl, upd_same, its_app (Its.mono (e3.trans (Ex.new hl)) h3) (Its.mono (Ex.new hl) k3)⟩⟩
/-- t + u, tuples -/
theorem x_catT [Rep α] {as bs : List α} (ha : ET ta σ H as) (hb : ET tb σ H bs) (hz : as.length + bs.length ≤ 100000) : ET (tOp (rCatA K) ta tb) σ H (as ++ bs) := fun H1 e Q q =>
  ha H1 e _ fun v H2 ⟨e2, p, vs, h1, h2, h3⟩ => hb H2 (e.trans e2) _ fun u H3 ⟨e3, p', us, k1, k2, k3⟩ => ⟨p, p', vs, us, h1, k1, st_of (e3 _ _ h2), st_of k2, sz_of (by rw [← Its.len h3, ← Its.len k3]; exact hz), fun hz => by
    have e0 : as = [] := List.length_eq_zero_iff.mp (by rw [Its.len h3, hz]; rfl)
    refine q _ _ ⟨e2.trans e3, p', us, rfl, k2, ?_⟩
    rw [e0]
    exact k3, fun _ hz => by
    have e0 : bs = [] := List.length_eq_zero_iff.mp (by rw [Its.len k3, hz]; rfl)
    refine q _ _ ⟨e2.trans e3, p, vs, rfl, e3 _ _ h2, ?_⟩
    rw [e0, List.append_nil]
    exact Its.mono e3 h3, fun _ _ l hl => q _ _ ⟨(e2.trans e3).trans (Ex.new hl), l, _, rfl, upd_same, its_app (Its.mono (e3.trans (Ex.new hl)) h3) (Its.mono (Ex.new hl) k3)⟩⟩

/-! ### enumerate -/
def enumL {α : Type} (xs : List α) : List (Nat × α) := (List.range xs.length).zip xs
theorem enumL_len (xs : List α) : (enumL xs).length = xs.length := by simp [enumL]
theorem enumL_get {xs : List α} {i : Nat} {a : α} (h : xs[i]? = some a) : (enumL xs)[i]? = some (i, a) := by
  have hi : i < xs.length := (List.getElem?_eq_some_iff.mp h).1
  exact List.getElem?_zip_eq_some.mpr ⟨List.getElem?_range hi, h⟩
theorem i_enumT [Rep α] {xs : List α} (h : ET te σ H xs) : EvI (iEnumT K (tCons te tNil)) σ H (enumL xs) := fun H1 e R q =>
  h H1 e _ fun v H2 ⟨e2, p, vs, h1, h2, h3⟩ => ⟨p, vs, by rw [h1], st_of h2, q _ _ e2
    ⟨fun i H3 e3 hi => by
      rw [enumL_len, Its.len h3] at hi
      exact ⟨vs, vs[i], st_of (e3 _ _ h2), List.getElem?_eq_getElem hi⟩,
     fun H3 e3 => ⟨vs, st_of (e3 _ _ h2), by rw [enumL_len, Its.len h3]; exact Nat.le_refl _⟩,
     fun i H3 x H4 e3 hi y => by
      obtain ⟨T, u, rfl, hT, rfl, hu⟩ := y
      obtain ⟨a, ha, ra⟩ := Its.back h3 (hu vs (st_of (e3 _ _ h2)))
      exact ⟨Ex.new hT, (i, a), enumL_get ha, T, _, u, rfl, upd_same, rfl, mn (e3.trans (Ex.new hT)) ra⟩⟩⟩
theorem mem_enumL {xs : List α} {p : Nat × α} (h : p ∈ enumL xs) : xs[p.1]? = some p.2 := by
  obtain ⟨i, hi⟩ := List.mem_iff_getElem?.mp h
  have h2 := List.getElem?_zip_eq_some.mp hi
  obtain ⟨k1, k2⟩ := h2
  have hl : i < (List.range xs.length).length := (List.getElem?_eq_some_iff.mp k1).1
  rw [List.length_range] at hl
  rw [List.getElem?_range hl] at k1
  rw [← Option.some.inj k1]
  exact k2

/-! ### sums -/
theorem x_sumT {bs : List Nat} (h : ET ta σ H bs) : EX (tCB (rSumT K) (tCons ta tNil)) σ H bs.sum := fun H1 e Q q =>
  h H1 e _ fun v H2 ⟨e2, p, vs, h1, h2, h3⟩ => ⟨p, _, by rw [h1], by rw [← its_nat h3]; exact st_of h2, q _ _ ⟨e2, by rw [sum_cast]; rfl⟩⟩

/-! ### loops -/
variable {nx bk ct : L2.St → Hp → Prop} {rt : VK}
theorem z_for [Arg α] {wi : TI} {g0 : TG} {tb : TS} {xs : List α} (hi : EvI wi σ H xs) (Pv : Nat → L2.St → Hp → Prop) (h0 : ∀ H1, Ex H H1 → Pv 0 σ H1)
    (hs : ∀ i a x σ' H0 H', xs[i]? = some a → Ex H H0 → Pv i σ' H0 → Ex H0 H' → rp a x H' → ∀ N : L2.St → Hp → Prop, (∀ σ3 H4, Ex H' H4 → Pv (i + 1) σ3 H4 → N σ3 H4) → g0 x σ' H' fun σ2 H3 => tb ⟨N, rt, nx, N⟩ σ2 H3)
    (hd : ∀ σ' H', Ex H H' → Pv xs.length σ' H' → nx σ' H') : tFor wi g0 tb ⟨nx, rt, bk, ct⟩ σ H := hi H (Ex.refl H) _ fun J H2 e2 s => by
  refine ⟨fun i m σ' H' => m = xs.length - i ∧ i ≤ xs.length ∧ Ex H2 H' ∧ Pv i σ' H', ⟨xs.length, by simp, Nat.zero_le _, Ex.refl _, h0 H2 e2⟩, ?_⟩
  rintro i m σ' H' ⟨rfl, hi, p1, p2⟩
  by_cases hlt : i < xs.length
  · refine .inr ⟨s.go i H' p1 hlt, fun σ3 H4 => Ex H2 H4 ∧ Pv (i + 1) σ3 H4, fun σ3 H4 p' => ⟨xs.length - (i + 1), by omega, rfl, hlt, p'.1, p'.2⟩, fun x H3 y => ?_⟩
    obtain ⟨e3, a, ha, ra⟩ := s.yld i H' x H3 p1 hlt y
    exact hs i a x σ' H' H3 ha (e2.trans p1) p2 e3 ra _ fun σ3 H4 e4 p' => ⟨(p1.trans e3).trans e4, p'⟩
  · have e' : i = xs.length := by omega
    subst e'
    exact .inl ⟨s.stop H' p1, hd σ' H' (e2.trans p1) p2⟩
theorem z_for0 [Arg α] {wi : TI} {g0 : TG} {tb : TS} (hi : EvI wi σ H ([] : List α)) (hd : ∀ H', Ex H H' → nx σ H') : tFor wi g0 tb ⟨nx, rt, bk, ct⟩ σ H := hi H (Ex.refl H) _ fun J H2 e2 s =>
  ⟨fun i m σ' H' => i = 0 ∧ σ' = σ ∧ H' = H2, ⟨0, rfl, rfl, rfl⟩, fun i m σ' H' ⟨h1, h2, h3⟩ => .inl ⟨by rw [h1, h3]; exact s.stop H2 (Ex.refl _), by rw [h2, h3]; exact hd H2 e2⟩⟩
end
end DL
namespace DL
open PySem L2 Evl
open Arg (rp mn)
section
variable {K : PySem.W.Frag} {σ : L2.St} {H H' : Hp} {ta tb te tc : TE} {α β γ δ : Type} {E : XK}
theorem x_call3 [Arg α] [Arg β] [Arg γ] [Arg δ] {pre : α → β → γ → Prop} {f : α → β → γ → δ} {a : α} {b : β} {c : γ} (ha : EX ta σ H a) (hb : EX tb σ H b) (hc : EX tc σ H c) (hp : pre a b c) : EX (tCall (sp3 pre fun a b c => RX (f a b c)) [] E (tCons ta (tCons tb (tCons tc tNil)))) σ H (f a b c) := r_call3 (fun _ _ _ => RX.bk) ha hb hc hp
end
end DL

/-! Mt: matchings of a table of meetings, by ways that are made longer; Hall's condition. Plain Lean. -/
namespace MT

theorem nodup_le {α : Type} [DecidableEq α] : ∀ {l m : List α}, l.Nodup → (∀ x ∈ l, x ∈ m) → l.length ≤ m.length
  | [], _, _, _ => Nat.zero_le _
  | a :: l, m, hn, hs => by
    obtain ⟨h1, h2⟩ := List.nodup_cons.mp hn
    have ha : a ∈ m := hs a List.mem_cons_self
    have ih := nodup_le (m := m.erase a) h2 fun x hx => (List.mem_erase_of_ne (fun e => h1 (by rw [← e]; exact hx))).mpr (hs x (List.mem_cons_of_mem _ hx))
    rw [List.length_erase_of_mem ha] at ih
    have : 0 < m.length := List.length_pos_of_mem ha
    simp only [List.length_cons]
    omega
theorem asc_eq : ∀ {l m : List Nat}, l.Pairwise (· < ·) → m.Pairwise (· < ·) → (∀ x, x ∈ l ↔ x ∈ m) → l = m
  | [], [], _, _, _ => rfl
  | [], b :: m, _, _, h => absurd ((h b).mpr List.mem_cons_self) (by simp)
  | a :: l, [], _, _, h => absurd ((h a).mp List.mem_cons_self) (by simp)
  | a :: l, b :: m, hl, hm, h => by
    obtain ⟨l1, l2⟩ := List.pairwise_cons.mp hl
    obtain ⟨m1, m2⟩ := List.pairwise_cons.mp hm
    have e : a = b := by
      rcases List.mem_cons.mp ((h a).mp List.mem_cons_self) with e | hx
      · exact e
      · rcases List.mem_cons.mp ((h b).mpr List.mem_cons_self) with e | hy
        · exact e.symm
        · have := m1 a hx
          have := l1 b hy
          omega
    subst e
    rw [asc_eq l2 m2 fun x => ⟨fun hx => by
      rcases List.mem_cons.mp ((h x).mp (List.mem_cons_of_mem _ hx)) with e | hy
      · have := l1 x hx
        omega
      · exact hy, fun hx => by
      rcases List.mem_cons.mp ((h x).mpr (List.mem_cons_of_mem _ hx)) with e | hy
      · have := m1 x hx
        omega
      · exact hy⟩]

/-! ### tables, pairs -/
def cel (T : List (List Nat)) (i j : Nat) : Nat := (T.getD i []).getD j 0
def ed (T : List (List Nat)) (i j : Nat) : Bool := decide (0 < cel T i j)
abbrev As := List (Nat × Nat)
def keys (M : As) : List Nat := M.map (·.1)
def vals (M : As) : List Nat := M.map (·.2)
def get (M : As) (f : Nat) : Option Nat := (M.find? fun p => decide (p.1 = f)).map (·.2)
def put (M : As) (f s : Nat) : As := if (M.any fun p => decide (p.1 = f)) = true then M.map (fun p => if p.1 = f then (p.1, s) else p) else M ++ [(f, s)]
theorem mem_keys {M : As} {a : Nat} : a ∈ keys M ↔ ∃ b, (a, b) ∈ M := by
  unfold keys
  rw [List.mem_map]
  exact ⟨fun ⟨p, h, e⟩ => ⟨p.2, by rw [← e]; exact h⟩, fun ⟨b, h⟩ => ⟨(a, b), h, rfl⟩⟩
theorem get_mem {M : As} {f s : Nat} (h : get M f = some s) : (f, s) ∈ M := by
  unfold get at h
  obtain ⟨p, hp, e⟩ := Option.map_eq_some_iff.mp h
  have h1 := List.mem_of_find?_eq_some hp
  have h2 := List.find?_some hp
  have h3 : p.1 = f := of_decide_eq_true h2
  rw [← h3, ← e]
  exact h1
theorem get_none {M : As} {f : Nat} (h : get M f = none) : f ∉ keys M := by
  intro hk
  obtain ⟨b, hb⟩ := mem_keys.mp hk
  unfold get at h
  have h1 := List.find?_eq_none.mp (Option.map_eq_none_iff.mp h) (f, b) hb
  simp at h1
theorem uniq {M : As} (hn : (keys M).Nodup) {f s s' : Nat} (h : (f, s) ∈ M) (h' : (f, s') ∈ M) : s = s' := by
  induction M with
  | nil => simp at h
  | cons p M ih =>
    have hn' : (p.1 :: keys M).Nodup := hn
    obtain ⟨h1, h2⟩ := List.nodup_cons.mp hn'
    rcases List.mem_cons.mp h with e | hx
    · rcases List.mem_cons.mp h' with e' | hy
      · rw [← e] at e'
        exact (Prod.mk.inj e').2.symm
      · exact absurd (mem_keys.mpr ⟨s', hy⟩) (by rw [← e] at h1; exact h1)
    · rcases List.mem_cons.mp h' with e' | hy
      · exact absurd (mem_keys.mpr ⟨s, hx⟩) (by rw [← e'] at h1; exact h1)
      · exact ih h2 hx hy
theorem mem_get {M : As} (hn : (keys M).Nodup) {f s : Nat} (h : (f, s) ∈ M) : get M f = some s := by
  cases e : get M f with
  | none => exact absurd (mem_keys.mpr ⟨s, h⟩) (get_none e)
  | some s' => rw [uniq hn h (get_mem e)]
theorem keys_put_old {M : As} {f s : Nat} (h : f ∈ keys M) : keys (put M f s) = keys M := by
  unfold put
  have : (M.any fun p => decide (p.1 = f)) = true := by
    obtain ⟨b, hb⟩ := mem_keys.mp h
    exact List.any_eq_true.mpr ⟨(f, b), hb, by simp⟩
  rw [if_pos this]
  unfold keys
  rw [List.map_map]
  apply List.map_congr_left
  intro p _
  simp only [Function.comp]
  split <;> rfl
theorem put_new {M : As} {f s : Nat} (h : f ∉ keys M) : put M f s = M ++ [(f, s)] := by
  unfold put
  rw [if_neg]
  intro z
  obtain ⟨p, hp, e⟩ := List.any_eq_true.mp z
  exact h (mem_keys.mpr ⟨p.2, by rw [← of_decide_eq_true e]; exact hp⟩)
theorem mem_keys_put {M : As} {f s a : Nat} : a ∈ keys (put M f s) ↔ a = f ∨ a ∈ keys M := by
  by_cases h : f ∈ keys M
  · rw [keys_put_old h]
    exact ⟨.inr, fun z => z.elim (fun e => by rw [e]; exact h) id⟩
  · rw [put_new h]
    unfold keys
    rw [List.map_append, List.mem_append]
    simp
    constructor
    · rintro (z | z)
      · exact .inr z
      · exact .inl z
    · rintro (z | z)
      · exact .inr z
      · exact .inl z
theorem nodup_put {M : As} {f s : Nat} (hn : (keys M).Nodup) : (keys (put M f s)).Nodup := by
  by_cases h : f ∈ keys M
  · rw [keys_put_old h]
    exact hn
  · rw [put_new h]
    unfold keys
    rw [List.map_append]
    exact List.nodup_append.mpr ⟨hn, by simp, fun a ha b hb => by
      simp at hb
      intro e
      exact h (by rw [← hb, ← e]; exact ha)⟩
theorem mem_put {M : As} (hn : (keys M).Nodup) {f s a b : Nat} : (a, b) ∈ put M f s ↔ (a = f ∧ b = s) ∨ (a ≠ f ∧ (a, b) ∈ M) := by
  by_cases h : f ∈ keys M
  · have : (M.any fun p => decide (p.1 = f)) = true := by
      obtain ⟨b, hb⟩ := mem_keys.mp h
      exact List.any_eq_true.mpr ⟨(f, b), hb, by simp⟩
    unfold put
    rw [if_pos this, List.mem_map]
    constructor
    · rintro ⟨p, hp, e⟩
      by_cases hf : p.1 = f
      · rw [if_pos hf] at e
        obtain ⟨e1, e2⟩ := Prod.mk.inj e
        exact .inl ⟨by rw [← e1, hf], e2.symm⟩
      · rw [if_neg hf] at e
        rw [e] at hp hf
        exact .inr ⟨hf, hp⟩
    · rintro (⟨rfl, rfl⟩ | ⟨h1, h2⟩)
      · obtain ⟨c, hc⟩ := mem_keys.mp h
        exact ⟨(a, c), hc, by simp⟩
      · exact ⟨(a, b), h2, by simp [h1]⟩
  · rw [put_new h, List.mem_append]
    constructor
    · rintro (z | z)
      · exact .inr ⟨fun e => h (mem_keys.mpr ⟨b, by rw [← e]; exact z⟩), z⟩
      · obtain ⟨e1, e2⟩ := Prod.mk.inj (List.mem_singleton.mp z)
        exact .inl ⟨e1, e2⟩
    · rintro (⟨rfl, rfl⟩ | ⟨h1, h2⟩)
      · exact .inr (List.mem_singleton.mpr rfl)
      · exact .inl h2

/-! ### matchings -/
structure Mat (T : List (List Nat)) (M : As) : Prop where
  nk : (keys M).Nodup
  inj : ∀ {a b c : Nat}, (a, c) ∈ M → (b, c) ∈ M → a = b
  ed : ∀ {a b : Nat}, (a, b) ∈ M → MT.ed T a b = true
theorem Mat.nil (T : List (List Nat)) : Mat T [] := ⟨List.nodup_nil, fun h => by simp at h, fun h => by simp at h⟩
/-- whom one comes to from st: each second with the first by whom -/
structure Way (T : List (List Nat)) (M : As) (st : Nat) (F : As) : Prop where
  nd : (keys F).Nodup
  ed : ∀ {s f : Nat}, (s, f) ∈ F → MT.ed T f s = true
  back : ∀ {i s f : Nat}, F[i]? = some (s, f) → f = st ∨ ∃ j s' f' : Nat, j < i ∧ F[j]? = some (s', f') ∧ (f, s') ∈ M
/-- f is st, or meets in M one of F's seconds -/
def From (M : As) (st : Nat) (F : As) (f : Nat) : Prop := f = st ∨ ∃ s, s ∈ keys F ∧ (f, s) ∈ M
def Closed (T : List (List Nat)) (M : As) (st : Nat) (F : As) : Prop := ∀ f, From M st F f → ∀ s, MT.ed T f s = true → s ∈ keys F
theorem Way.nil (T : List (List Nat)) (M : As) (st : Nat) : Way T M st [] := ⟨List.nodup_nil, fun h => by simp at h, fun h => by simp at h⟩
theorem mem_keys_at {F : As} {s : Nat} (h : s ∈ keys F) : ∃ i f : Nat, F[i]? = some (s, f) := by
  obtain ⟨f, hf⟩ := mem_keys.mp h
  obtain ⟨i, hi⟩ := List.mem_iff_getElem?.mp hf
  exact ⟨i, f, hi⟩
theorem Way.add {T : List (List Nat)} {M : As} {st : Nat} {F : As} (w : Way T M st F) {f s : Nat} (hf : From M st F f) (he : MT.ed T f s = true) (hs : s ∉ keys F) : Way T M st (F ++ [(s, f)]) := by
  refine ⟨?_, fun {s' f'} h => ?_, fun {i s' f'} h => ?_⟩
  · unfold keys
    rw [List.map_append]
    exact List.nodup_append.mpr ⟨w.nd, by simp, fun a ha b hb => by
      simp at hb
      intro e
      exact hs (by rw [← hb, ← e]; exact ha)⟩
  · rcases List.mem_append.mp h with h | h
    · exact w.ed h
    · obtain ⟨e1, e2⟩ := Prod.mk.inj (List.mem_singleton.mp h)
      rw [e1, e2]
      exact he
  · by_cases hi : i < F.length
    · rw [List.getElem?_append_left hi] at h
      rcases w.back h with e | ⟨j, s2, f2, hj, h2, h3⟩
      · exact .inl e
      · exact .inr ⟨j, s2, f2, hj, by rw [List.getElem?_append_left (by omega)]; exact h2, h3⟩
    · rw [List.getElem?_append_right (by omega)] at h
      have h0 : i - F.length = 0 := by
        have := (List.getElem?_eq_some_iff.mp h).1
        simp at this
        omega
      rw [h0] at h
      obtain ⟨e1, e2⟩ := Prod.mk.inj (Option.some.inj h)
      rcases hf with e | ⟨s2, h2, h3⟩
      · exact .inl (by rw [← e2]; exact e)
      · obtain ⟨j, f2, hj⟩ := mem_keys_at h2
        have hjl := (List.getElem?_eq_some_iff.mp hj).1
        exact .inr ⟨j, s2, f2, by omega, by rw [List.getElem?_append_left hjl]; exact hj, by rw [← e2]; exact h3⟩
theorem keys_snoc {F : As} {s f a : Nat} : a ∈ keys (F ++ [(s, f)]) ↔ a ∈ keys F ∨ a = s := by
  unfold keys
  rw [List.map_append, List.mem_append]
  simp
theorem same_at {F : As} (hn : (keys F).Nodup) {i j s f f' : Nat} (h1 : F[i]? = some (s, f)) (h2 : F[j]? = some (s, f')) : i = j := by
  have k1 : (keys F)[i]? = some s := by unfold keys; rw [List.getElem?_map, h1]; rfl
  have k2 : (keys F)[j]? = some s := by unfold keys; rw [List.getElem?_map, h2]; rfl
  obtain ⟨l1, e1⟩ := List.getElem?_eq_some_iff.mp k1
  obtain ⟨l2, e2⟩ := List.getElem?_eq_some_iff.mp k2
  exact (List.getElem_inj hn).mp (e1.trans e2.symm)

/-! ### a way back to st turned round, pair by pair -/
/-- C: what M has become; so: the second who is to be met next -/
def Turn (T : List (List Nat)) (M : As) (st : Nat) (F C : As) : Option Nat → Prop
  | none => Mat T C ∧ ∀ a, a ∈ keys C ↔ a = st ∨ a ∈ keys M
  | some s => ∃ k f : Nat, F[k]? = some (s, f) ∧ Mat T C ∧ (∀ a, a ∈ keys C ↔ a ∈ keys M) ∧ (∀ {a b : Nat}, (a, b) ∈ C → b ≠ s) ∧ ∀ {a b j f' : Nat}, (a, b) ∈ M → F[j]? = some (b, f') → j < k → (a, b) ∈ C
/-- how far it is to st -/
def far (F : As) : Option Nat → Nat
  | none => 0
  | some s => ((F.findIdx? fun p => decide (p.1 = s)).getD 0) + 1
theorem far_at {F : As} (hn : (keys F).Nodup) {k s f : Nat} (h : F[k]? = some (s, f)) : far F (some s) = k + 1 := by
  show ((F.findIdx? fun p => decide (p.1 = s)).getD 0) + 1 = k + 1
  cases e : F.findIdx? (fun p => decide (p.1 = s)) with
  | none =>
    have := List.findIdx?_eq_none_iff.mp e (s, f) (List.mem_of_getElem? h)
    simp at this
  | some j =>
    obtain ⟨hj, h1, _⟩ := List.findIdx?_eq_some_iff_getElem.mp e
    have h2 : F[j]? = some (s, (F[j]).2) := by
      rw [List.getElem?_eq_getElem hj]
      have e3 : (F[j]).1 = s := of_decide_eq_true h1
      rw [← e3]
    rw [same_at hn h2 h]
    rfl
theorem Turn.start {T : List (List Nat)} {M : As} {st : Nat} {F : As} (m : Mat T M) {s : Nat} (hs : s ∈ keys F) (hf : ∀ {a b : Nat}, (a, b) ∈ M → b ≠ s) : Turn T M st F M (some s) := by
  obtain ⟨k, f, h⟩ := mem_keys_at hs
  exact ⟨k, f, h, m, fun _ => Iff.rfl, hf, fun h _ _ => h⟩
theorem Turn.step {T : List (List Nat)} {M : As} {st : Nat} {F C : As} {s : Nat} (m : Mat T M) (w : Way T M st F) (hst : st ∉ keys M) (h : Turn T M st F C (some s)) :
    ∃ f, get F s = some f ∧ Turn T M st F (put C f s) (get C f) ∧ far F (get C f) < far F (some s) := by
  obtain ⟨k, f, hk, mc, kc, fr, ag⟩ := h
  have hm : (s, f) ∈ F := List.mem_of_getElem? hk
  have hed := w.ed hm
  refine ⟨f, mem_get w.nd hm, ?_⟩
  have mput : ∀ (hnew : ∀ {a b : Nat}, (a, b) ∈ C → a ≠ f → b ≠ s), Mat T (put C f s) := fun hnew => by
    refine ⟨nodup_put mc.nk, fun {a b c} h1 h2 => ?_, fun {a b} h1 => ?_⟩
    · rcases (mem_put mc.nk).mp h1 with ⟨a1, a2⟩ | ⟨n1, g1⟩
      · rcases (mem_put mc.nk).mp h2 with ⟨b1, _⟩ | ⟨n2, g2⟩
        · rw [a1, b1]
        · exact absurd a2 (hnew g2 n2)
      · rcases (mem_put mc.nk).mp h2 with ⟨b1, b2⟩ | ⟨n2, g2⟩
        · exact absurd b2 (hnew g1 n1)
        · exact mc.inj g1 g2
    · rcases (mem_put mc.nk).mp h1 with ⟨rfl, rfl⟩ | ⟨_, h1⟩
      · exact hed
      · exact mc.ed h1
  rcases w.back hk with e | ⟨j, s', f', hj, h2, h3⟩
  · subst e
    have hn : get C f = none := by
      cases e : get C f with
      | none => rfl
      | some x => exact absurd ((kc f).mp (mem_keys.mpr ⟨x, get_mem e⟩)) hst
    rw [hn]
    refine ⟨⟨mput fun h _ => fr h, fun a => ?_⟩, Nat.succ_pos _⟩
    rw [mem_keys_put, kc a]
  · have hC : (f, s') ∈ C := ag h3 h2 hj
    rw [mem_get mc.nk hC]
    have hfs : s ≠ s' := fun e => fr hC e.symm
    refine ⟨⟨j, f', h2, mput fun h _ => fr h, fun a => ?_, fun {a b} h1 => ?_, fun {a b j2 f2} h1 h4 h5 => ?_⟩, ?_⟩
    · rw [mem_keys_put, kc a]
      exact ⟨fun z => z.elim (fun e => by rw [e]; exact (kc f).mp (mem_keys.mpr ⟨s', hC⟩)) id, .inr⟩
    · rcases (mem_put mc.nk).mp h1 with ⟨rfl, rfl⟩ | ⟨n1, h1⟩
      · exact hfs
      · intro e
        rw [e] at h1
        exact n1 (mc.inj h1 hC)
    · refine (mem_put mc.nk).mpr (.inr ⟨fun e => ?_, ag h1 h4 (by omega)⟩)
      rw [e] at h1
      have e2 := uniq m.nk h1 h3
      rw [e2] at h4
      have := same_at w.nd h4 h2
      omega
    · rw [far_at w.nd h2, far_at w.nd hk]
      omega

/-! ### the lot that bars -/
def Viol (T : List (List Nat)) (lot : List Nat) : Prop := ∃ S N : List Nat, S.Nodup ∧ (∀ f ∈ S, f ∈ lot) ∧ N.length < S.length ∧ ∀ f ∈ S, ∀ s, ed T f s = true → s ∈ N
/-- a round with all of a lot -/
structure Rnd (T : List (List Nat)) (lot : List Nat) (r : As) : Prop where
  ks : keys r = lot
  nv : (vals r).Nodup
  ed : ∀ {a b : Nat}, (a, b) ∈ r → MT.ed T a b = true
theorem viol_of {T : List (List Nat)} {M F : As} {st : Nat} {lot : List Nat} (m : Mat T M) (w : Way T M st F) (c : Closed T M st F) (hst : st ∉ keys M) (hl : st ∈ lot) (hM : ∀ a ∈ keys M, a ∈ lot) (hF : ∀ s ∈ keys F, ∃ f, (f, s) ∈ M) : Viol T lot := by
  have build : ∀ L : List Nat, L.Nodup → (∀ s ∈ L, s ∈ keys F) → ∃ S : List Nat, S.length = L.length ∧ S.Nodup ∧ ∀ f ∈ S, ∃ s ∈ L, (f, s) ∈ M := fun L => by
    induction L with
    | nil => exact fun _ _ => ⟨[], rfl, List.nodup_nil, fun f h => by simp at h⟩
    | cons s L ih =>
      intro hn hs
      obtain ⟨h1, h2⟩ := List.nodup_cons.mp hn
      obtain ⟨S, e1, e2, e3⟩ := ih h2 fun x hx => hs x (List.mem_cons_of_mem _ hx)
      obtain ⟨f, hf⟩ := hF s (hs s List.mem_cons_self)
      refine ⟨f :: S, by simp [e1], List.nodup_cons.mpr ⟨fun hm => ?_, e2⟩, fun g hg => ?_⟩
      · obtain ⟨s', hs', hm'⟩ := e3 f hm
        exact h1 (by rw [uniq m.nk hf hm']; exact hs')
      · rcases List.mem_cons.mp hg with e | hg
        · exact ⟨s, List.mem_cons_self, by rw [e]; exact hf⟩
        · obtain ⟨s', h3, h4⟩ := e3 g hg
          exact ⟨s', List.mem_cons_of_mem _ h3, h4⟩
  obtain ⟨S, e1, e2, e3⟩ := build (keys F) w.nd fun _ h => h
  refine ⟨st :: S, keys F, List.nodup_cons.mpr ⟨fun hm => ?_, e2⟩, fun f hf => ?_, by simp [e1], fun f hf s he => c f ?_ s he⟩
  · obtain ⟨s, _, h⟩ := e3 st hm
    exact hst (mem_keys.mpr ⟨s, h⟩)
  · rcases List.mem_cons.mp hf with e | hf
    · rw [e]
      exact hl
    · obtain ⟨s, _, h⟩ := e3 f hf
      exact hM f (mem_keys.mpr ⟨s, h⟩)
  · rcases List.mem_cons.mp hf with e | hf
    · exact .inl e
    · obtain ⟨s, h1, h2⟩ := e3 f hf
      exact .inr ⟨s, h1, h2⟩
theorem Rnd.no_viol {T : List (List Nat)} {lot : List Nat} {r : As} (h : Rnd T lot r) (hn : lot.Nodup) : ¬ Viol T lot := by
  rintro ⟨S, N, h1, h2, h3, h4⟩
  have hk : (keys r).Nodup := by rw [h.ks]; exact hn
  have inj : ∀ {a b c : Nat}, (a, c) ∈ r → (b, c) ∈ r → a = b := fun {a b c} ha hb => by
    obtain ⟨i, hi⟩ := List.mem_iff_getElem?.mp ha
    obtain ⟨j, hj⟩ := List.mem_iff_getElem?.mp hb
    have k1 : (vals r)[i]? = some c := by unfold vals; rw [List.getElem?_map, hi]; rfl
    have k2 : (vals r)[j]? = some c := by unfold vals; rw [List.getElem?_map, hj]; rfl
    obtain ⟨l1, e1⟩ := List.getElem?_eq_some_iff.mp k1
    obtain ⟨l2, e2⟩ := List.getElem?_eq_some_iff.mp k2
    have e := (List.getElem_inj h.nv).mp (e1.trans e2.symm)
    rw [e, hj] at hi
    exact ((Prod.mk.inj (Option.some.inj hi)).1).symm
  have all : ∀ f ∈ S, ∃ s, (f, s) ∈ r := fun f hf => mem_keys.mp (by rw [h.ks]; exact h2 f hf)
  have go : ∀ L : List Nat, L.Nodup → (∀ f ∈ L, f ∈ S) → ∃ N' : List Nat, N'.length = L.length ∧ N'.Nodup ∧ ∀ s ∈ N', ∃ f ∈ L, (f, s) ∈ r := fun L => by
    induction L with
    | nil => exact fun _ _ => ⟨[], rfl, List.nodup_nil, fun f h => by simp at h⟩
    | cons f L ih =>
      intro hn hs
      obtain ⟨n1, n2⟩ := List.nodup_cons.mp hn
      obtain ⟨N', e1, e2, e3⟩ := ih n2 fun x hx => hs x (List.mem_cons_of_mem _ hx)
      obtain ⟨s, hf⟩ := all f (hs f List.mem_cons_self)
      refine ⟨s :: N', by simp [e1], List.nodup_cons.mpr ⟨fun hm => ?_, e2⟩, fun g hg => ?_⟩
      · obtain ⟨f', hf', hm'⟩ := e3 s hm
        exact n1 (by rw [inj hf hm']; exact hf')
      · rcases List.mem_cons.mp hg with e | hg
        · exact ⟨f, List.mem_cons_self, by rw [e]; exact hf⟩
        · obtain ⟨f', g1, g2⟩ := e3 g hg
          exact ⟨f', List.mem_cons_of_mem _ g1, g2⟩
  obtain ⟨N', e1, e2, e3⟩ := go S h1 fun _ h => h
  have := nodup_le e2 (m := N) fun s hs => by
    obtain ⟨f, hf, hm⟩ := e3 s hs
    exact h4 f hf s (h.ed hm)
  omega

/-! ### there is a round with all of a lot, or a lot that bars -/
theorem way_closed {T : List (List Nat)} {M : As} {st n : Nat} (hn : ∀ {f s : Nat}, ed T f s = true → s < n) : ∀ (d : Nat) (F : As), Way T M st F → n - F.length ≤ d → ∃ F', Way T M st F' ∧ Closed T M st F' := fun d => by
  have len : ∀ F, Way T M st F → F.length ≤ n := fun F w => by
    have h := nodup_le w.nd (m := List.range n) fun s hs => by
      obtain ⟨f, hf⟩ := mem_keys.mp hs
      exact List.mem_range.mpr (hn (w.ed hf))
    rw [List.length_range] at h
    unfold keys at h
    rw [List.length_map] at h
    exact h
  induction d with
  | zero =>
    intro F w h
    refine ⟨F, w, fun f hf s he => ?_⟩
    refine Classical.byContradiction fun hs => ?_
    have := len _ (w.add hf he hs)
    have := len _ w
    simp at *
    omega
  | succ d ih =>
    intro F w h
    by_cases hc : Closed T M st F
    · exact ⟨F, w, hc⟩
    · have : ∃ f s, From M st F f ∧ ed T f s = true ∧ s ∉ keys F := by
        refine Classical.byContradiction fun z => hc fun f hf s he => ?_
        exact Classical.byContradiction fun hs => z ⟨f, s, hf, he, hs⟩
      obtain ⟨f, s, hf, he, hs⟩ := this
      have w' := w.add hf he hs
      refine ih _ w' ?_
      have := len _ w'
      simp at *
      omega
theorem turned {T : List (List Nat)} {M F : As} {st : Nat} (m : Mat T M) (w : Way T M st F) (hst : st ∉ keys M) : ∀ (d : Nat) (C : As) (so : Option Nat), far F so ≤ d → Turn T M st F C so → ∃ C', Turn T M st F C' none := fun d => by
  induction d with
  | zero =>
    intro C so h t
    cases so with
    | none => exact ⟨C, t⟩
    | some s => exact absurd h (by simp [far])
  | succ d ih =>
    intro C so h t
    cases so with
    | none => exact ⟨C, t⟩
    | some s =>
      obtain ⟨f, _, t', hlt⟩ := t.step m w hst
      exact ih _ _ (by omega) t'
/-- one first more, or a lot that bars -/
theorem more {T : List (List Nat)} {M : As} {st n : Nat} {lot : List Nat} (hn : ∀ {f s : Nat}, ed T f s = true → s < n) (m : Mat T M) (hst : st ∉ keys M) (hl : st ∈ lot) (hM : ∀ a ∈ keys M, a ∈ lot) :
    (∃ C, Mat T C ∧ ∀ a, a ∈ keys C ↔ a = st ∨ a ∈ keys M) ∨ Viol T lot := by
  obtain ⟨F, w, c⟩ := way_closed (M := M) (st := st) hn _ [] (Way.nil T M st) (Nat.le_refl _)
  by_cases h : ∃ s, s ∈ keys F ∧ ∀ {a b : Nat}, (a, b) ∈ M → b ≠ s
  · obtain ⟨s, h1, h2⟩ := h
    exact .inl (turned m w hst _ _ _ (Nat.le_refl _) (Turn.start m h1 h2))
  · refine .inr (viol_of m w c hst hl hM fun s hs => ?_)
    refine Classical.byContradiction fun z => h ⟨s, hs, fun {a b} hab e => z ⟨a, by rw [← e]; exact hab⟩⟩
theorem mat_exists {T : List (List Nat)} {n : Nat} (hn : ∀ {f s : Nat}, ed T f s = true → s < n) {lot : List Nat} : ∀ L : List Nat, L.Nodup → (∀ f ∈ L, f ∈ lot) → (∃ M, Mat T M ∧ ∀ a, a ∈ keys M ↔ a ∈ L) ∨ Viol T lot := fun L => by
  induction L with
  | nil => exact fun _ _ => .inl ⟨[], Mat.nil T, fun a => by simp [keys]⟩
  | cons f L ih =>
    intro h1 h2
    obtain ⟨n1, n2⟩ := List.nodup_cons.mp h1
    rcases ih n2 fun x hx => h2 x (List.mem_cons_of_mem _ hx) with ⟨M, m, hk⟩ | v
    · rcases more hn m (fun z => n1 ((hk f).mp z)) (h2 f List.mem_cons_self) (fun a ha => h2 a (List.mem_cons_of_mem _ ((hk a).mp ha))) with ⟨C, c, hC⟩ | v
      · exact .inl ⟨C, c, fun a => by rw [hC a, hk a, List.mem_cons]⟩
      · exact .inr v
    · exact .inr v
/-- in the order of the firsts -/
def inOrder (M : As) (lot : List Nat) : As := lot.filterMap fun f => (get M f).map fun s => (f, s)
theorem rnd_of {T : List (List Nat)} {M : As} {lot : List Nat} (m : Mat T M) (hn : lot.Nodup) (hk : ∀ a, a ∈ keys M ↔ a ∈ lot) : ∃ r, Rnd T lot r := by
  have go : ∀ L : List Nat, L.Nodup → (∀ a ∈ L, a ∈ keys M) → ∃ r : As, keys r = L ∧ ∀ p ∈ r, p ∈ M := fun L => by
    induction L with
    | nil => exact fun _ _ => ⟨[], rfl, fun p h => by simp at h⟩
    | cons f L ih =>
      intro h1 h2
      obtain ⟨n1, n2⟩ := List.nodup_cons.mp h1
      obtain ⟨r, e, h⟩ := ih n2 fun x hx => h2 x (List.mem_cons_of_mem _ hx)
      obtain ⟨s, hs⟩ := mem_keys.mp (h2 f List.mem_cons_self)
      refine ⟨(f, s) :: r, by show f :: keys r = f :: L; rw [e], fun p hp => ?_⟩
      rcases List.mem_cons.mp hp with e | hp
      · rw [e]
        exact hs
      · exact h p hp
  obtain ⟨r, e, h⟩ := go lot hn fun a ha => (hk a).mpr ha
  refine ⟨r, e, ?_, fun h' => m.ed (h _ h')⟩
  have hr : (keys r).Nodup := by rw [e]; exact hn
  clear e
  induction r with
  | nil => exact List.nodup_nil
  | cons p r ih =>
    have hr' : (p.1 :: keys r).Nodup := hr
    obtain ⟨n1, n2⟩ := List.nodup_cons.mp hr'
    refine List.nodup_cons.mpr ⟨fun hm => ?_, ih (fun q hq => h q (List.mem_cons_of_mem _ hq)) n2⟩
    obtain ⟨q, hq, e⟩ := List.mem_map.mp hm
    have h1 := h p List.mem_cons_self
    have h2 := h q (List.mem_cons_of_mem _ hq)
    have : q.1 = p.1 := m.inj (a := q.1) (b := p.1) (c := p.2) (by have e : q.2 = p.2 := e; rw [← e]; exact h2) h1
    exact n1 (by rw [← this]; exact mem_keys.mpr ⟨q.2, hq⟩)
theorem rnd_or {T : List (List Nat)} {n : Nat} (hn : ∀ {f s : Nat}, ed T f s = true → s < n) {lot : List Nat} (hl : lot.Nodup) : (∃ r, Rnd T lot r) ∨ Viol T lot := by
  rcases mat_exists hn lot hl (fun _ h => h) with ⟨M, m, hk⟩ | v
  · exact .inl (rnd_of m hl hk)
  · exact .inr v
end MT

/-! Dl6: dicts of numbers: read, stored, walked while they are locked; while; loops that change an object of their own. -/
namespace DL
open PySem L2 Evl
open Arg (rp mn)
open Rep (mt)

theorem key_nat (a b : Nat) : decide ((Sum.inl (a : Int) : Key) = Sum.inl (b : Int)) = decide (a = b) := decide_eq_decide.mpr ⟨fun e => Int.ofNat.inj (Sum.inl.inj e), fun e => by rw [e]⟩
theorem dnn_val (M : List (Nat × Nat)) (f : Nat) : valV (dnn M) (Sum.inl (f : Int) : Key) = (MT.get M f).map fun n : Nat => V.int (n : Int) := by
  unfold valV dnn MT.get
  rw [List.find?_map]
  have e : ((fun kv : Key × V => decide (kv.1 = (Sum.inl (f : Int) : Key))) ∘ fun p : Nat × Nat => ((Sum.inl (p.1 : Int) : Key), V.int (p.2 : Int))) = fun p : Nat × Nat => decide (p.1 = f) := funext fun p => key_nat p.1 f
  rw [e]
  cases List.find? (fun p : Nat × Nat => decide (p.1 = f)) M <;> rfl
theorem dnn_put (M : List (Nat × Nat)) (f s : Nat) : putK (dnn M) (Sum.inl (f : Int) : Key) (V.int (s : Int)) = dnn (MT.put M f s) := by
  unfold putK MT.put dnn
  rw [List.any_map]
  have e : ((fun kv : Key × V => decide (kv.1 = (Sum.inl (f : Int) : Key))) ∘ fun p : Nat × Nat => ((Sum.inl (p.1 : Int) : Key), V.int (p.2 : Int))) = fun p : Nat × Nat => decide (p.1 = f) := funext fun p => key_nat p.1 f
  rw [e]
  by_cases h : (M.any fun p => decide (p.1 = f)) = true
  · rw [if_pos h, if_pos h, List.map_map, List.map_map]
    apply List.map_congr_left
    intro p _
    simp only [Function.comp]
    by_cases hp : p.1 = f
    · rw [if_pos hp, if_pos (by rw [hp])]
    · rw [if_neg hp, if_neg fun z : (Sum.inl (p.1 : Int) : Key) = Sum.inl (f : Int) => hp (Int.ofNat.inj (Sum.inl.inj z))]
  · rw [if_neg h, if_neg h, List.map_append]
    rfl
theorem dnn_len (M : List (Nat × Nat)) : (dnn M).length = M.length := List.length_map ..
theorem dnn_in (M : List (Nat × Nat)) (f : Nat) : (valV (dnn M) (Sum.inl (f : Int) : Key)).isSome = decide (f ∈ MT.keys M) := by
  rw [dnn_val]
  cases e : MT.get M f with
  | none => exact (decide_eq_false (MT.get_none e)).symm
  | some s => exact (decide_eq_true (MT.mem_keys.mpr ⟨s, MT.get_mem e⟩)).symm

section
variable {K : PySem.W.Frag} {σ : L2.St} {H H' : Hp} {ta tb te tc td ty tv : TE} {tt tu : TT} {R R' : Res} {α β γ : Type} {nx bk ct : L2.St → Hp → Prop} {rt : VK}
/-! ### locked while it is walked -/
theorem ex_unlock {H1 H2 : Hp} {d : Addr} {u : HO} {od : Obj} (h : H1 d = some u) (e : Ex (upd H1 d (.frz od u)) H2) : Ex H1 (upd H2 d u) := fun a o ha => by
  by_cases hd : a = d
  · rw [hd] at ha ⊢
    rw [h] at ha
    rw [upd_same]
    exact ha
  · rw [upd_ne hd]
    exact e a o (by rw [upd_ne hd]; exact ha)
theorem rf_unlock [Rep α] {as : List α} {H1 H2 : Hp} {d : Addr} {u : HO} {od : Obj} {v : V} (h : H1 d = some u) (r : RF as (upd H1 d (.frz od u)) v H2) : H2 d = some (.frz od u) ∧ RF as H1 v (upd H2 d u) := by
  obtain ⟨e2, p, vs, rfl, hp, h2, its⟩ := r
  have hd : H2 d = some (.frz od u) := e2 d _ upd_same
  have hpd : p ≠ d := fun z => by
    rw [z, upd_same] at hp
    cases hp
  refine ⟨hd, ex_unlock h e2, p, vs, rfl, by rw [upd_ne hpd] at hp; exact hp, by rw [upd_ne hpd]; exact h2, Its.mt (exT_upd fun xs z => ?_) its⟩
  rw [hd] at z
  cases z
theorem f_lock [Rep α] {d : Addr} {u : HO} {as : List α} (h : H d = some u) (mu : Mut (some u)) (hE : ∀ H1 od, Ex H H1 → EF te σ (upd H1 d (.frz od u)) as) : EF (tLockE te) σ H as := fun H1 e Q q =>
  ⟨d, u, e _ _ h, mu, fun od => hE H1 od e _ (Ex.refl _) _ fun v H2 r => let ⟨a, b⟩ := rf_unlock (e _ _ h) r; ⟨a, q _ _ b⟩⟩
theorem z_lockSet [Rep α] {i : Nat} {d : Addr} {u : HO} {as : List α} (h : H d = some u) (mu : Mut (some u)) (hE : ∀ od, EF te σ (upd H d (.frz od u)) as) (k : ∀ v H', RF as H v H' → nx (σ.set i (some v)) H') : tLock (tAsg te (gName i)) ⟨nx, rt, bk, ct⟩ σ H :=
  ⟨d, u, h, mu, fun od => hE od _ (Ex.refl _) _ fun v H2 r => let ⟨a, b⟩ := rf_unlock h r; ⟨a, k _ _ b⟩⟩
theorem i_items {d : Addr} {od : Obj} {M : List (Nat × Nat)} (h : Ev td σ H (.ref d)) (hd : H d = some (.frz od (.dK (dnn M)))) : EvI (α := Nat × Nat) (iItems td) σ H M := fun H1 e R q =>
  h H1 e _ fun H2 e2 => ⟨d, od, dnn M, rfl, (e.trans e2) _ _ hd, q _ _ e2
    ⟨fun i H3 e3 hi => ⟨((e.trans e2).trans e3) _ _ hd, by rw [dnn_len]; exact hi⟩, fun H3 e3 => ⟨((e.trans e2).trans e3) _ _ hd, Nat.le_of_eq (dnn_len M)⟩, fun i H3 x H4 e3 hi y => by
      obtain ⟨A, k, v, h1, rfl, hA, rfl⟩ := y
      unfold dnn at h1
      rw [List.getElem?_map, List.getElem?_eq_getElem hi] at h1
      obtain ⟨k1, k2⟩ := Prod.mk.inj (Option.some.inj h1)
      refine ⟨Ex.new hA, M[i], List.getElem?_eq_getElem hi, A, _, _, rfl, upd_same, ?_, ?_⟩
      · rw [← k1]
        rfl
      · rw [← k2]
        rfl⟩⟩
theorem i_keys {d : Addr} {od : Obj} {M : List (Nat × Nat)} (h : Ev td σ H (.ref d)) (hd : H d = some (.frz od (.dK (dnn M)))) : EvI (α := Nat) (iKeys td) σ H (MT.keys M) := fun H1 e R q =>
  h H1 e _ fun H2 e2 => ⟨d, od, rfl, .inl ⟨dnn M, (e.trans e2) _ _ hd, q _ _ e2
    ⟨fun i H3 e3 hi => ⟨((e.trans e2).trans e3) _ _ hd, by rw [dnn_len]; unfold MT.keys at hi; rw [List.length_map] at hi; exact hi⟩, fun H3 e3 => ⟨((e.trans e2).trans e3) _ _ hd, by unfold MT.keys; rw [List.length_map]; exact Nat.le_of_eq (dnn_len M)⟩, fun i H3 x H4 e3 hi y => by
      unfold MT.keys at hi ⊢
      rw [List.length_map] at hi
      obtain ⟨rfl, k, v, h1, rfl⟩ := y
      unfold dnn at h1
      rw [List.getElem?_map, List.getElem?_eq_getElem hi] at h1
      obtain ⟨k1, k2⟩ := Prod.mk.inj (Option.some.inj h1)
      refine ⟨Ex.refl _, (M[i]).1, by rw [List.getElem?_map, List.getElem?_eq_getElem hi]; rfl, ?_⟩
      rw [← k1]
      rfl⟩⟩⟩
/-! ### reads -/
theorem x_dnotin {d : Addr} {M : List (Nat × Nat)} {s : Nat} (hs : EX ty σ H s) (h : Ev td σ H (.ref d)) (hd : H d = some (.dK (dnn M))) : EX (tDNotIn ty td) σ H (!decide (s ∈ MT.keys M)) := fun H1 e Q q =>
  hs H1 e _ fun v H2 ⟨e2, r2⟩ => h H2 (e.trans e2) _ fun H3 e3 => ⟨d, valV (dnn M) (Sum.inl (s : Int) : Key), rfl, by
    rw [show v = V.int (s : Int) from r2]
    exact DGet.k (k := Sum.inl (s : Int)) (((e.trans e2).trans e3) _ _ hd), q _ _ ⟨e2.trans e3, by rw [dnn_in]; rfl⟩⟩
theorem x_din {d : Addr} {M : List (Nat × Nat)} {s : Nat} (hs : EX ty σ H s) (h : Ev td σ H (.ref d)) (hd : H d = some (.dK (dnn M))) : EX (tDIn ty td) σ H (decide (s ∈ MT.keys M)) := fun H1 e Q q =>
  hs H1 e _ fun v H2 ⟨e2, r2⟩ => h H2 (e.trans e2) _ fun H3 e3 => ⟨d, valV (dnn M) (Sum.inl (s : Int) : Key), rfl, by
    rw [show v = V.int (s : Int) from r2]
    exact DGet.k (k := Sum.inl (s : Int)) (((e.trans e2).trans e3) _ _ hd), q _ _ ⟨e2.trans e3, by rw [dnn_in]; rfl⟩⟩
theorem x_dget {d : Addr} {M : List (Nat × Nat)} {s f : Nat} (h : Ev td σ H (.ref d)) (hs : EX ty σ H s) (hd : H d = some (.dK (dnn M))) (hf : MT.get M s = some f) : EX (tDGet td ty) σ H f := fun H1 e Q q =>
  h H1 e _ fun H2 e2 => hs H2 (e.trans e2) _ fun v H3 ⟨e3, r3⟩ => ⟨d, V.int (f : Int), rfl, by
    have k := DGet.k (H := H3) (k := Sum.inl (s : Int)) (((e.trans e2).trans e3) _ _ hd)
    rw [dnn_val, hf] at k
    rw [show v = V.int (s : Int) from r3]
    exact k, q _ _ ⟨e2.trans e3, rfl⟩⟩
theorem x_dget1 {d : Addr} {M : List (Nat × Nat)} {s : Nat} (h : Ev td σ H (.ref d)) (hs : EX ty σ H s) (hd : H d = some (.dK (dnn M))) : EX (tDGet1 td ty) σ H (MT.get M s) := fun H1 e Q q =>
  h H1 e _ fun H2 e2 => ⟨d, rfl, .inl ⟨dnn M, .inl ((e.trans e2) _ _ hd)⟩, hs H2 (e.trans e2) _ fun v H3 ⟨e3, r3⟩ => ⟨valV (dnn M) (Sum.inl (s : Int) : Key), by
    rw [show v = V.int (s : Int) from r3]
    exact DGet.k (k := Sum.inl (s : Int)) (((e.trans e2).trans e3) _ _ hd), q _ _ ⟨e2.trans e3, by
      rw [dnn_val]
      cases MT.get M s <;> rfl⟩⟩⟩
/-- d[s] = f -/
theorem z_dput {d : Addr} {M : List (Nat × Nat)} {s f : Nat} (hv : EX tv σ H f) (h : Ev td σ H (.ref d)) (hs : EX ty σ H s) (hd : H d = some (.dK (dnn M))) (hl : M.length < 1000) (k : ∀ H1, Ex H H1 → nx σ (upd H1 d (.dK (dnn (MT.put M s f))))) : sDPut td ty tv ⟨nx, rt, bk, ct⟩ σ H :=
  hv H (Ex.refl H) _ fun v H1 ⟨e1, r1⟩ => h H1 e1 _ fun H2 e2 => hs H2 (e1.trans e2) _ fun u H3 ⟨e3, r3⟩ => by
    have ev : v = V.int (f : Int) := r1
    have eu : u = V.int (s : Int) := r3
    subst ev eu
    refine ⟨d, _, rfl, DPut.k (k := Sum.inl (s : Int)) (((e1.trans e2).trans e3) _ _ hd) (by rw [dnn_len]; exact Nat.lt_of_lt_of_le hl (by decide)), ?_⟩
    rw [dnn_put]
    exact k H3 ((e1.trans e2).trans e3)
/-! ### loops -/
theorem z_while {tb : TS} (W : Nat → L2.St → Hp → Prop) (m0 : Nat) (h0 : W m0 σ H)
    (hs : ∀ m σ' H', W m σ' H' → ∃ b, EvT tt σ' H' b ∧ (b = true → ∀ H1, Ex H' H1 → ∀ N : L2.St → Hp → Prop, (∀ m' σ2 H2, m' < m → W m' σ2 H2 → N σ2 H2) → tb ⟨N, rt, nx, N⟩ σ' H1) ∧ (b = false → ∀ H1, Ex H' H1 → nx σ' H1)) : tWhile tt tb ⟨nx, rt, bk, ct⟩ σ H :=
  ⟨W, ⟨m0, h0⟩, fun m σ' H' hw => by
    obtain ⟨b, hb, h1, h2⟩ := hs m σ' H' hw
    refine hb H' (Ex.refl H') _ fun H1 e => ?_
    cases b with
    | true => exact ⟨fun σ2 H2 => ∃ m', m' < m ∧ W m' σ2 H2, fun σ2 H2 z => z, h1 rfl H1 e _ fun m' σ2 H2 hlt hw' => ⟨m', hlt, hw'⟩⟩
    | false => exact h2 rfl H1 e⟩
abbrev natV (as : List Nat) : List V := (as.map fun n : Nat => (n : Int)).map V.int
/-- for x in a new list of numbers, whatever the body changes but this list -/
theorem z_forFN {tb : TS} {j : Nat} {as : List Nat} (h : EF te σ H as) (Pv : Addr → Nat → L2.St → Hp → Prop) (h0 : ∀ p H1, H p = none → Ex H H1 → H1 p = some (.lst (natV as)) → Pv p 0 σ H1) (hl : ∀ p i σ' H', Pv p i σ' H' → H' p = some (.lst (natV as)))
    (hs : ∀ p i a σ' H', as[i]? = some a → Pv p i σ' H' → tb ⟨Pv p (i + 1), rt, nx, Pv p (i + 1)⟩ (σ'.set j (some (.int (a : Int)))) H') (hd : ∀ p σ' H', Pv p as.length σ' H' → nx σ' H') : tFor (iList K te) (gName j) tb ⟨nx, rt, bk, ct⟩ σ H :=
  h H (Ex.refl H) _ fun v H1 ⟨e, p, vs, hv, hp, h1, its⟩ => by
    rw [its_nat its] at h1
    have hn : (natV as).length = as.length := by simp [natV]
    refine ⟨p, hv, ⟨_, sq_of h1⟩, for_list (xs := natV as) (Pv p) (h0 p H1 hp e h1) (fun i σ' H' _ q => sq_of (hl p i σ' H' q)) (fun i x σ' H' hx q => ?_) fun σ' H' q => hd p σ' H' (by rw [hn] at q; exact q)⟩
    rw [List.getElem?_map, List.getElem?_map] at hx
    cases ha : as[i]? with
    | none =>
      rw [ha] at hx
      cases hx
    | some a =>
      rw [ha] at hx
      have ex := Option.some.inj hx
      rw [← ex]
      exact hs p i a σ' H' ha q
end
end DL

/-! R1: rules over HandS: sorted of data; in over tuples of data; repr of tuples; dicts of the written part with int keys. -/
namespace DL
open PySem PySem.Spec PyProof.Rows L2
section
variable {X : Cx}
/-! ### sorted of any data -/
abbrev rSortD (K : PySem.W.Frag) : RCall := fun vs H Q => ∃ (a : Addr) (xs : List V) (ds : List PyData), vs = [V.ref a] ∧ SqL K H a xs ∧ DpAll K H xs ds ∧ PySem.W.AllAlike ds ∧ PySem.W.Sortable ds ∧ (∀ d ∈ ds, d.depth ≤ 60) ∧
  ∀ p, H p = none → Q (.ref p) (upd H p (.lst (((xs.zip ds).mergeSort (PySem.W.dataLe false (·.2))).map (·.1))))
theorem dpAll_len {K : PySem.W.Frag} {H : Hp} : ∀ {xs : List V} {ds : List PyData}, DpAll K H xs ds → xs.length = ds.length
  | _, _, .nil => rfl
  | _, _, .cons _ t => congrArg (· + 1) (dpAll_len t)
theorem each_zip {pins : List (Addr × Obj)} {σ : L2.St} {H : Hp} {s : Shared} (I : Inv X pins σ H s) : ∀ {xs : List V} {ds : List PyData} {us : List Value}, DpAll X.K H xs ds → Vals xs us →
    PySem.W.EachIs (fun (u : Value) (b : V × PyData) => RelV b.1 u) us (xs.zip ds) ∧ PySem.W.EachIs (fun (u : Value) (b : V × PyData) => ∃ as, Reads s.heap u b.2 as) us (xs.zip ds)
  | _, _, _, .nil, .nil => ⟨.nil, .nil⟩
  | _, _, _, .cons (v := v) (d := d) h t, .cons r rt => by
    obtain ⟨h1, h2⟩ := each_zip I t rt
    exact ⟨.cons r h1, .cons (Dp.reads I d v _ h r) h2⟩
theorem vals_each : ∀ {us : List Value} {bs : List (V × PyData)}, PySem.W.EachIs (fun (u : Value) (b : V × PyData) => RelV b.1 u) us bs → Vals (bs.map (·.1)) us
  | _, _, .nil => .nil
  | _, _, .cons r t => .cons r (vals_each t)
theorem cr_sortD (hu : X.A.units + 64 < cLine) : CallR X (.builtin "sorted") (rSortD X.K) := by
  intro pins s σ H vs us Q I r h
  obtain ⟨a, xs, ds, rfl, hs, hd, hal, hk, hdp, q⟩ := h
  obtain ⟨its, rv, hl, hz⟩ := I.list hs
  rw [Vals.ref1 r]
  obtain ⟨e1, e2⟩ := each_zip I hd rv
  have en : (xs.zip ds).map (·.2) = ds := List.map_snd_zip (Nat.le_of_eq (dpAll_len hd).symm)
  have hlen : (xs.zip ds).length = xs.length := by rw [List.length_zip, ← dpAll_len hd, Nat.min_self]
  refine PySem.W.sorted_data (R := fun (u : Value) (b : V × PyData) => RelV b.1 u) (enc := fun b : V × PyData => b.2) hl.isList e1 e2 (by rw [en]; exact hal) (by rw [en]; exact hk) (by rw [hlen]; exact hz) (fun b hb => ?_) fun out h1 h2 => ?_
  · have := hdp b.2 (by rw [← en]; exact List.mem_map.mpr ⟨b, hb, rfl⟩)
    omega
  · obtain ⟨ep, he'⟩ := PyProof.Rows.sortedAll_at s.heap its out.toArray
    have hv := vals_each h2
    refine ⟨.ref _, upd H (s.heap.objs.size + 1) (.lst (((xs.zip ds).mergeSort (PySem.W.dataLe false (·.2))).map (·.1))), I.laid (t' := s.toks) (fun _ _ => PyProof.Rows.sortedAll_old) (Nat.le_succ _) ⟨?_, out, ep, hv, he'⟩, rfl, q _ (I.hok.fresh (Nat.le_succ _))⟩
    rw [List.length_map, List.length_mergeSort, hlen]
    exact hz
/-! ### in, not in, of a tuple of data -/
abbrev rInT (K : PySem.W.Frag) (neg : Bool) : R2 := fun x y H Q => ∃ d ds, Dp K H x d ∧ Dp K H y (.tuple ds) ∧ SeqAt.shaped d = true ∧ SeqAt.shaped (.tuple ds) = true ∧ Q (.bl (if neg then !ds.any (fun z => PyData.eqv z d) else ds.any fun z => PyData.eqv z d)) H
theorem op_inT (hu : X.A.units + 65 < cLine) : OpR X (compareOp .In) (rInT X.K false) := by
  intro pins s σ H x y v u Q I rx ry h
  obtain ⟨d, ds, hd, he, sd, se, q⟩ := h
  obtain ⟨as, r1⟩ := Dp.reads I d x v hd rx
  obtain ⟨bs, r2⟩ := Dp.reads I (.tuple ds) y u he ry
  exact SeqAt.in_tuple_reads r2 r1 (SeqAt.canLay_of_shaped se) (SeqAt.canLay_of_shaped sd) (room_in_shaped sd hu) ⟨.bl _, H, I, rfl, q⟩
theorem op_notInT (hu : X.A.units + 65 < cLine) : OpR X (compareOp .NotIn) (rInT X.K true) := by
  intro pins s σ H x y v u Q I rx ry h
  obtain ⟨d, ds, hd, he, sd, se, q⟩ := h
  obtain ⟨as, r1⟩ := Dp.reads I d x v hd rx
  obtain ⟨bs, r2⟩ := Dp.reads I (.tuple ds) y u he ry
  exact SeqAt.notIn_tuple_reads r2 r1 (SeqAt.canLay_of_shaped se) (SeqAt.canLay_of_shaped sd) (room_in_shaped sd hu) ⟨.bl _, H, I, rfl, q⟩
end
end DL

/-! R2: dicts of the written part whose keys and values are small numbers. -/
namespace DL
open PySem PySem.Spec PyProof.Rows L2
/-- the entries of such a dict -/
def EntI : List DictEntry → List (Nat × Nat) → Prop
  | [], [] => True
  | e :: es, p :: ps => ((∃ t, e.key = .int (p.1 : Int) t) ∧ e.hash = hashInt (p.1 : Int) ∧ ∃ t, e.val = .int (p.2 : Int) t) ∧ EntI es ps
  | _, _ => False
def KDI (K : PySem.W.Frag) (d : Addr) (kvs : List (Nat × Nat)) : Prop := ∃ es n, K.lookup d = some ⟨.type "dict", none, .dict es n, #[]⟩ ∧ (d == sysModules) = false ∧ EntI es.toList kvs
theorem ent_keys {P : Program} {w : World} : ∀ {es : List DictEntry} {kvs : List (Nat × Nat)}, EntI es kvs → ∀ e ∈ es, ∃ k, (mixKind P w).is k e.key = true ∧ e.hash = (mixKind P w).hash k
  | e :: es, p :: ps, ⟨⟨⟨t, h1⟩, h2, _⟩, h4⟩, f, hf => by
    rcases List.mem_cons.mp hf with rfl | hf
    · exact ⟨.inl (p.1 : Int), by rw [h1]; exact keyIs_int (p.1 : Int) t, h2⟩
    · exact ent_keys h4 f hf
theorem ent_find : ∀ {es : List DictEntry} {kvs : List (Nat × Nat)} (i : Nat), EntI es kvs → match MT.get kvs i with
    | none => ((es.find? fun e => keyIs (.inl (i : Int)) e.key).map (·.val)) = none
    | some v => ∃ t, ((es.find? fun e => keyIs (.inl (i : Int)) e.key).map (·.val)) = some (.int (v : Int) t)
  | [], [], i, _ => rfl
  | e :: es, p :: ps, i, ⟨⟨⟨t, h1⟩, h2, t', h3⟩, h4⟩ => by
    have ih := ent_find i h4
    have hk : keyIs (.inl (i : Int)) e.key = decide (p.1 = i) := by
      rw [h1]
      by_cases z : p.1 = i
      · rw [z, decide_eq_true rfl]
        exact keyIs_int _ _
      · rw [decide_eq_false z]
        cases q : keyIs (.inl (i : Int)) (.int (p.1 : Int) t) with
        | false => rfl
        | true =>
          rcases keyIs_shape q with ⟨j, u, e1, e2⟩ | ⟨x, u, e1, e2⟩
          · cases e1
            injection e2 with e2 _
            exact absurd (Int.ofNat.inj e2) z
          · cases e1
    unfold MT.get at ih ⊢
    rw [List.find?_cons, List.find?_cons, hk]
    by_cases z : p.1 = i
    · rw [decide_eq_true z]
      exact ⟨t', by rw [← h3]; rfl⟩
    · rw [decide_eq_false z]
      exact ih
section
variable {X : Cx} {K : PySem.W.Frag}
theorem kdi_map {d : Addr} {kvs : List (Nat × Nat)} {h : Heap} (KX : X.K.In h) (D : KDI X.K d kvs) : ∃ f : Key → Option Value, h.MapOf (mixKind X.prog X.w) d f ∧ ∀ i : Nat, match MT.get kvs i with
    | none => f (.inl (i : Int)) = none
    | some v => ∃ t, f (.inl (i : Int)) = some (.int (v : Int) t) := by
  obtain ⟨es, n, h1, h2, h3⟩ := D
  refine ⟨_, ⟨_, es, n, KX _ _ h1, ⟨rfl, rfl, rfl⟩, rfl, fun e he => ent_keys h3 e (Array.mem_toList_iff.mpr he), fun _ => rfl⟩, fun i => ?_⟩
  have z := ent_find i h3
  have e : findBy (mixKind X.prog X.w).is es (.inl (i : Int)) = (es.toList.find? fun e => keyIs (.inl (i : Int)) e.key).map (·.val) := by
    obtain ⟨l⟩ := es
    show (Array.find? _ _).map _ = _
    rw [List.find?_toArray]
    rfl
  rw [e]
  exact z
abbrev rKIn (K : PySem.W.Frag) (kvs : List (Nat × Nat)) (neg : Bool) : R2 := fun x y H Q => ∃ (i : Nat) (p : Addr), x = .int (i : Int) ∧ y = .ref p ∧ KDI K p kvs ∧ Q (.bl (if neg then (MT.get kvs i).isNone else (MT.get kvs i).isSome)) H
theorem op_kIn {kvs : List (Nat × Nat)} : OpR X (compareOp .In) (rKIn X.K kvs false) := by
  intro pins s σ H x y v u Q I rx ry ⟨i, p, ex, ey, D, q⟩
  subst ex ey
  cases ry
  obtain ⟨f, hm, hf⟩ := kdi_map I.kIn D
  obtain ⟨es, n, h1, h2, h3⟩ := D
  refine wpAny_in_of (kV_is (k := .inl (i : Int)) rx) h2 hm ⟨.bl _, H, I.tok _, rfl, ?_⟩
  have e : (f (.inl (i : Int))).isSome = (MT.get kvs i).isSome := by
    have := hf i
    cases z : MT.get kvs i with
    | none => rw [z] at this; rw [this]; rfl
    | some v => rw [z] at this; obtain ⟨t, ht⟩ := this; rw [ht]; rfl
  rw [e]
  exact q
theorem op_kNotIn {kvs : List (Nat × Nat)} : OpR X (compareOp .NotIn) (rKIn X.K kvs true) := by
  intro pins s σ H x y v u Q I rx ry ⟨i, p, ex, ey, D, q⟩
  subst ex ey
  cases ry
  obtain ⟨f, hm, hf⟩ := kdi_map I.kIn D
  obtain ⟨es, n, h1, h2, h3⟩ := D
  refine wpAny_notIn_of (kV_is (k := .inl (i : Int)) rx) h2 hm ⟨.bl _, H, I.tok _, rfl, ?_⟩
  have e : (!(f (.inl (i : Int))).isSome) = (MT.get kvs i).isNone := by
    have := hf i
    cases z : MT.get kvs i with
    | none => rw [z] at this; rw [this]; rfl
    | some v => rw [z] at this; obtain ⟨t, ht⟩ := this; rw [ht]; rfl
  rw [e]
  exact q
abbrev rIxK (K : PySem.W.Frag) (kvs : List (Nat × Nat)) : R2 := fun x y H Q => ∃ (i v : Nat) (p : Addr), x = .ref p ∧ y = .int (i : Int) ∧ KDI K p kvs ∧ MT.get kvs i = some v ∧ Q (.int (v : Int)) H
theorem ix_kI {kvs : List (Nat × Nat)} : IxR X (rIxK X.K kvs) := by
  intro value slice pins s σ H x y v u Q I rx ry ⟨i, r, p, ex, ey, D, hr, q⟩ hs
  subst ex ey
  obtain rfl : v = Value.ref p := rx
  obtain ⟨f, hm, hf⟩ := kdi_map I.kIn D
  have := hf i
  rw [hr] at this
  obtain ⟨t, ht⟩ := this
  exact tail_any hm.typeIs slot_dict_getitem.lookup (wpAny_getItem_of (kV_is (k := .inl (i : Int)) ry) hm ht ⟨.int (r : Int), H, I.tok _, ⟨t, rfl⟩, q⟩) hs
/-! the dict's name, its address hidden -/
def KD (mg : Str → Option Value) (K : PySem.W.Frag) (x : Str) (kvs : List (Nat × Nat)) : Prop := ∃ d, mg x = some (.ref d) ∧ KDI K d kvs
abbrev tKIn (kvs : List (Nat × Nat)) (neg : Bool) (te : TE) : TE := fun σ H Q => te σ H fun x H1 => ∃ i : Nat, x = .int (i : Int) ∧ Q (.bl (if neg then (MT.get kvs i).isNone else (MT.get kvs i).isSome)) H1
abbrev tKGet (kvs : List (Nat × Nat)) (te : TE) : TE := fun σ H Q => te σ H fun x H1 => ∃ i v : Nat, x = .int (i : Int) ∧ MT.get kvs i = some v ∧ Q (.int (v : Int)) H1
variable {e : Expr} {te : TE} {x : Str} {p pos : Pos} {kvs : List (Nat × Nat)}
theorem pc_kIn (D : KD X.mg X.K x kvs) (hg : Gl X x) (he : PE X e te) (hd : (x == ("__debug__" : Str)) = false := by decide) : PC X .In e (.Name x p) (tKIn kvs false te) := by
  obtain ⟨d, hm, D⟩ := D
  exact ⟨fun pins s σ H Q I h => thn (he.run pins s σ H _ I h) fun v s1 ⟨y, H1, I1, r1, i, ex, q⟩ => ld_glob I1 hg hm (op_kIn pins s1 σ H1 y (.ref d) v (.ref d) Q I1 r1 rfl ⟨i, d, ex, rfl, D, q⟩) hd⟩
theorem pc_kNotIn (D : KD X.mg X.K x kvs) (hg : Gl X x) (he : PE X e te) (hd : (x == ("__debug__" : Str)) = false := by decide) : PC X .NotIn e (.Name x p) (tKIn kvs true te) := by
  obtain ⟨d, hm, D⟩ := D
  exact ⟨fun pins s σ H Q I h => thn (he.run pins s σ H _ I h) fun v s1 ⟨y, H1, I1, r1, i, ex, q⟩ => ld_glob I1 hg hm (op_kNotIn pins s1 σ H1 y (.ref d) v (.ref d) Q I1 r1 rfl ⟨i, d, ex, rfl, D, q⟩) hd⟩
theorem pe_kGet (D : KD X.mg X.K x kvs) (hg : Gl X x) (he : PE X e te) (hs : PlainIx e) (hd : (x == ("__debug__" : Str)) = false := by decide) : PE X (.Subscript (.Name x p) e pos) (tKGet kvs te) := by
  obtain ⟨d, hm, D⟩ := D
  refine ⟨fun pins s σ H Q I h => Subscript_ (ld_glob I hg hm (thn (he.run pins s σ H _ I h) fun u s1 ⟨y, H1, I1, r1, i, v, ex, hv, q⟩ => ?_) hd)⟩
  exact ix_kI (.Name x p) e pins s1 σ H1 (.ref d) y (.ref d) u Q I1 rfl r1 ⟨i, v, d, rfl, ex, D, hv, q⟩ (hs _ _)
end
end DL

/-! R3: defs that are promised only where nothing is being shown around them (repr of a tuple asks that); repr. -/
namespace DL
open PySem PySem.Spec PyProof.Rows L2
/-- room, and no repr is under way -/
structure RoomG (k : Nat) (A : Around) : Prop where
  room : Room k A
  free : A.guards = some []
theorem RoomG.deeper {k : Nat} {A : Around} (r : RoomG (k + 1) A) (env : Env) : RoomG k (A.deeper env) := ⟨r.room.deeper env, r.free⟩
theorem RoomG.mono {j k : Nat} {A : Around} (r : RoomG k A) (h : j ≤ k) : RoomG j A := ⟨r.room.mono h, r.free⟩
structure FnG (P : Program) (w : World) (K : PySem.W.Frag) (mg : Str → Option Value) (base : Heap) (k : Nat) (f : Addr) (fd : FuncData) (ps : List Str) (sp : Sp) : Prop where
  len : ∀ vs H Q E, sp vs H Q E → vs.length = ps.length
  run : ∀ (A : Around) (outer : List Env) (s : Shared) (H : Hp) (args : Args) (us : List Value) (vs : List V) (Q : VK) (E : XK), RoomG k A → Env0 P w K mg base A outer s H → BindsTo s fd args (ps.zip us) → Vals vs us → sp vs H Q E →
    codeAny (model P w) A (.call (.ref f) args) (CR CX0 outer P w H s Q E) s
section
variable {X : Cx} {P : Program} {w : World} {K : PySem.W.Frag} {mg : Str → Option Value} {base : Heap}
/-- a def by what its body's reading asks -/
theorem Fun.okG {x : Str} {st : Stmt} {f : Addr} {fd : FuncData} {N ps : List Str} {k : Nat} {sp : Sp} {t : TS} (F : Fun K x x st f fd) (S : FnScope N ps (defScope st)) (len : ∀ vs H Q E, sp vs H Q E → vs.length = ps.length)
    (der : ∀ (cdv : Value) (A : Around) (outer : List Env) (s : Shared) (H : Hp) (E : XK), RoomG k (A.deeper (envOfC x (defScope st) s.heap.objs.size f cdv)) → PSs (cxOf CX0 P w K mg base N x (defScope st) f cdv A outer s H E).nox (defBody st) t)
    (sem : ∀ vs H Q E, sp vs H Q E → t { nx := fun _ H' => Q .non H', rt := Q } (start N vs) H) : FnG P w K mg base (k + 1) f fd ps sp := by
  obtain ⟨oc, od, kV, doc, pm, an, cdv, ct, osl, rfl, lk, hcd⟩ := F.ex
  refine ⟨len, fun A outer s H args us vs Q E hr e0 hb r hsp => ?_⟩
  have kin := e0.mod.kin.keeps fun b o e => (e0.bs b o e).1
  have lim := e0.mod.nolimit.keeps fun b o e => (e0.bs b o e).1
  refine codeAny_call_function hr.room.depth (kin _ _ lk) rfl S.co S.gen rfl (PySem.W.codeRec_of kin hcd) (hb _ _ _ _ (wpAny_newFunctionEnv_cells S.kind (fun y hy => ?_) fun env he s1 xh => ?_))
  · rcases S.par y.1 (List.of_mem_zip hy).1 with q | q
    · exact .inl q
    · exact .inr ⟨q, PySem.W.cellsFrom_some _ _ _ (.inl q)⟩
  · subst he
    have body := (der cdv A outer s H E (hr.deeper _)).nox
    have I : Inv (cxOf CX0 P w K mg base N x (defScope st) f cdv A outer s H E) [] (start N vs) H s1 := inv_start S hr.room.hd e0 (len _ _ _ _ hsp) r xh
    refine ⟨lim.keeps xh.toInCall.keep, codeAny_func (wpAny_mono (body.run [] s1 (start N vs) H _ I (sem vs H Q E hsp)) (fun fl s' hs => ?_) fun e s' hs => hs)⟩
    have fin : ∀ (σ' : L2.St) (H' : Hp) (v : V) (u : Value), Inv (cxOf CX0 P w K mg base N x (defScope st) f cdv A outer s H E) [] σ' H' s' → RelV v u → Q v H' → CE outer P w H s Q u s' := fun σ' H' v u J rv q => ⟨v, H', J.os, J.bare, J.base, J.hok, rv, q⟩
    match fl, hs with
    | .ret u, ⟨v, σ', H', J, rv, q⟩ => exact fin σ' H' v u J rv q
    | .next, ⟨σ', H', J, q⟩ => exact fin σ' H' .non .none J rfl q
    | .brk, ⟨_, _, _, q⟩ => exact q.elim
    | .cont, ⟨_, _, _, q⟩ => exact q.elim
theorem run_fnG {k : Nat} {f : Addr} {fd : FuncData} {ps : List Str} {sp : Sp} {pins : List (Addr × Obj)} {σ : L2.St} {H : Hp} {s : Shared} {Q : VK} {us : List Value} {vs : List V} (F : FnG X.prog X.w X.K X.mg X.base k f fd ps sp) (hr : RoomG k X.A) (hb : Binds X.K fd ps [])
    (I : Inv X pins σ H s) (r : Vals vs us) (h : sp vs H Q E0) : wpAny (model X.prog X.w) X.A (call (.ref f) us) (EP X pins σ Q) X.xe s := by
  have hl : us.length = ps.length := by rw [← r.length]; exact F.len _ _ _ _ h
  have b := hb s us I.kIn (by rw [List.append_nil]; exact hl)
  rw [List.append_nil] at b
  refine wpAny_call (codeAny_mono (F.run X.A X.stack s H ⟨us, []⟩ us vs Q E0 hr I.env0 b r h) fun rr s' hq => ?_)
  match rr, hq with
  | .error e, hq => exact pass0 pins σ H s e s' I hq
  | .ok (.ret u), hq => exact I.after hq
  | .ok .next, hq => exact hq.elim
  | .ok .brk, hq => exact hq.elim
  | .ok .cont, hq => exact hq.elim
/-- the module's name x is such a def -/
structure DfG (P : Program) (w : World) (K : PySem.W.Frag) (mg : Str → Option Value) (base : Heap) (k : Nat) (x : Str) (ps : List Str) (sp : Sp) : Prop where
  ex : ∃ (f : Addr) (fd : FuncData), FnG P w K mg base k f fd ps sp ∧ mg x = some (.ref f) ∧ PySem.W.keepIn K (.ref f) = true ∧ Binds K fd ps []
theorem pe_dfG {k : Nat} {x : Str} {ps : List Str} {sp : Sp} {p pos : Pos} {e : Expr} {es : List Expr} {t : TA} (D : DfG X.prog X.w X.K X.mg X.base k x ps sp) (hr : RoomG k X.A) (hg : Gl X x) (ha : PA X (e :: es) t)
    (hdb : (x == ("__debug__" : Str)) = false := by decide) (he : starEach (e :: es) X.env = (false, eval e X.env) :: starEach es X.env := by rfl) (hpl : (backTo pos (starEach es X.env)).any (·.1) = false := by rfl) :
    PE X (.Call (.Name x p) (e :: es) [] pos) (tCall sp [] E0 t) := by
  obtain ⟨f, fd, F, hm, hk, hb⟩ := D.ex
  refine ⟨fun pins s σ H Q I h => wpAny_Call_Name_kw (ld_glob I hg hm (PySem.W.callWith_K (h₀ := X.base) I.ok.mod.kin hk (thn (ha.run pos pins s σ H _ I h) fun us s1 ⟨vs, H1, I1, r, q⟩ => ⟨I1.kIn, ?_⟩) he hpl) hdb)⟩
  have q : sp (vs ++ []) H1 Q E0 := q
  rw [List.append_nil] at q
  exact run_fnG F hr hb I1 r q
theorem DfG.of {x : Str} {st : Stmt} {f : Addr} {fd : FuncData} {ps : List Str} {k : Nat} {sp : Sp} (F : Fun K x x st f fd) (G : FnG P w K mg base k f fd ps sp) (hm : mg x = some (.ref f))
    (h : ∀ (kV doc pm : Value) (an : Option Addr) (cdv ct : Value) (us : List Value), us.length = ps.length → bindArgs (PySem.W.fnOf x x (defArgs st) (defBody st) (defScope st) .none kV doc pm an cdv ct) ⟨us, []⟩ = pure (ps.zip us)) : DfG P w K mg base k x ps sp :=
  ⟨f, fd, G, hm, F.kp, F.binds h⟩
/-! ### repr of a tuple -/
theorem cr_repr (hg : X.A.guards = some []) (hu : X.A.units + 64 < cLine) : CallR X (.builtin "repr") (fun xs H Q => ∃ (p : Addr) (d : PyData), xs = [.ref p] ∧ Dp X.K H (.ref p) d ∧ d.showable = true ∧ d.hasDict = false ∧ d.depth ≤ 50 ∧ d.shown.length ≤ sizeLine ∧ Q (.str d.shown) H) := by
  intro pins s σ H xs us Q I r ⟨p, d, ex, hd, h1, h2, h3, h4, q⟩
  subst ex
  rw [Vals.ref1 r]
  obtain ⟨as, rd⟩ := Dp.reads I d (.ref p) (.ref p) hd rfl
  refine repr_of_reads' rd h1 (fun z => ?_) hg (by omega) (fun b o e => e) (fun h' u tk hk => ⟨.str d.shown, H, I.kept (t' := tk) hk, ⟨u, rfl⟩, q⟩) h4
  rw [h2] at z
  cases z
end
end DL

/-! R4: dicts with tuple keys: displayed with one pair, walked by items, their values summed. -/
namespace DL
open PySem PySem.Spec PyProof.Rows L2
/-- the raw table of a locked dict with tuple keys -/
theorem frzT2 {X : Cx} {pins : List (Addr × Obj)} {σ : L2.St} {H : Hp} {s : Shared} {d : Addr} {o : Obj} {kvs : List (List Key × V)} (I : Inv X pins σ H s) (h : H d = some (.frz o (.dT kvs))) :
    (d == sysModules) = false ∧ ∃ (es : Array DictEntry) (ep : Nat), o.data = .dict es ep ∧ DT.Raw s.heap d es ep ∧ es.size = kvs.length ∧
      ∀ (i : Nat) (k : List Key) (v : V), kvs[i]? = some (k, v) → ∃ (hi : i < es.size) (q : Addr), es[i].key = .ref q ∧ H q = some (.tup (k.map kV)) ∧ RelV v es[i].val := by
  obtain ⟨hd, z, hs, xs, pr, o', es, ep, ho, hx, hdt, he, _⟩ := I.hok d _ h
  have e0 : some o' = some o := ho.symm.trans hd
  cases e0
  have l1 : es.size = xs.length := size_of_entries he
  have l2 : kvs.length = xs.length := Paired.length pr
  refine ⟨hs, es, ep, hdt, ⟨o, hd, hx, hdt⟩, by omega, fun i k v e => ?_⟩
  obtain ⟨b, hb, e1, e2, e3⟩ := paired_get pr e
  have hi : i < es.size := by
    have := (List.getElem?_eq_some_iff.mp e).1
    omega
  have q := entry_at he i
  rw [hb] at q
  rw [Array.getElem?_eq_getElem hi] at q
  have q := Option.some.inj q
  exact ⟨hi, b.2.1, by rw [q]; rfl, e2, by rw [q]; exact e3⟩
/-- the pairs of a locked dict with tuple keys: each a new tuple of the key's own tuple and the value -/
def Itit (d : Addr) (o : Obj) (kvs : List (List Key × V)) : It :=
  ⟨fun i H => H d = some (.frz o (.dT kvs)) ∧ i < kvs.length, fun i H x H' => ∃ T k v q, kvs[i]? = some (k, v) ∧ x = .ref T ∧ H q = some (.tup (k.map kV)) ∧ H T = none ∧ H' = upd H T (.tup [.ref q, v]), fun i H => H d = some (.frz o (.dT kvs)) ∧ kvs.length ≤ i⟩
section
variable {P : Program} {w : World} {K : PySem.W.Frag} {d : Addr} {o : Obj} {es : Array DictEntry} {ep : Nat}
theorem turn_itemsT {kvs : List (List Key × V)} {elts : List Expr} {kk : Nat} {tpos : Pos} (it : Addr) (hod : o.data = .dict es ep) :
    Turn P w K (.Tuple elts kk tpos) (Itit d o kvs) [it] it (fun i h => ∃ ok ov, IsItemIter h it d i kvs.length ep ok ov) where
  mem := by simp
  obj := fun i h st b hb => by
    have e : b = it := by simpa using hb
    subst e
    obtain ⟨ok, ov, e⟩ := st
    exact ⟨_, e, fun v z => nomatch z⟩
  keep := fun i h h' st k => let ⟨ok, ov, e⟩ := st; ⟨ok, ov, k it (by simp) _ e⟩
  item := by
    intro X hP hw hK hc i pins s σ H E I hf st hg
    subst hP hw hK
    obtain ⟨hd, hi⟩ := hg
    obtain ⟨hs, es', ep', hdt, raw, hsz, ent⟩ := frzT2 I hd
    obtain ⟨rfl, rfl⟩ := dict_ep hod hdt
    obtain ⟨⟨k, v⟩, hkv⟩ : ∃ p, kvs[i]? = some p := ⟨kvs[i], List.getElem?_eq_getElem hi⟩
    obtain ⟨hi', q, ek, hq, ru⟩ := ent i k v hkv
    obtain ⟨ok, ov, he⟩ := st
    rw [← hsz] at he
    have hlt : it < s.heap.objs.size := Heap.lt_size he
    refine DT.nextI he raw hi' fun h' ho hT hz hk => ⟨_, rfl, wpAny_letOwnedTupleGo_items (s := { s with heap := h' }) ho fun h'' he' sb => ?_⟩
    have hT2 : h''.get? s.heap.objs.size = some { cls := .type "tuple", data := .seq #[es'[i].key, es'[i].val] } := (sb.2 _ (Nat.ne_of_gt hlt)).trans hT
    have new : ObjOk X.prog X.w (upd H s.heap.objs.size (.tup [.ref q, v])) h'' s.heap.objs.size (.tup [.ref q, v]) :=
      ⟨by show 2 ≤ sizeLine; decide, [es'[i].key, es'[i].val], .cons (show es'[i].key = Value.ref q from ek) (.cons ru .nil), ⟨_, hT2, rfl, _, rfl⟩⟩
    have I1 : Inv X pins σ (upd H s.heap.objs.size (.tup [.ref q, v])) { s with heap := h'' } :=
      I.turnedNew (t' := s.toks) (ch := [it]) (fun b ob hb e => (sb.2 b (by simpa using hb)).trans (hk b ob (by simpa using hb) e)) hf (Nat.le_refl _) new
    refine ⟨.ref s.heap.objs.size, _, I1, rfl, ⟨_, k, v, q, hkv, rfl, hq, I.hok.fresh (Nat.le_refl _), rfl⟩, ⟨es'[i].key, es'[i].val, ?_⟩, fun b hb => ?_⟩
    · rw [← hsz]; exact he'
    · have e : b = it := by simpa using hb
      rw [e, upd_ne (Nat.ne_of_lt hlt)]
      exact (hf it (by simp)).1
  done := by
    intro X hP hw hK hc i pins s σ H E I hf st hg
    subst hP hw hK
    obtain ⟨hd, hi⟩ := hg
    obtain ⟨f0, f1, f2, f3, f4, f5⟩ := hf it (by simp)
    obtain ⟨hs, es', ep', hdt, raw, hsz, ent⟩ := frzT2 I hd
    obtain ⟨rfl, rfl⟩ := dict_ep hod hdt
    obtain ⟨ok, ov, he⟩ := st
    rw [← hsz] at he
    exact DT.endI (I.ok.hd hc) he raw (by omega) fun h' eb => ⟨rfl, I.turned (t' := s.toks) (fun b ob hb e => eb b ob hb e) f0 f1 f3 f4 f5⟩
  self := fun A i s Q E st h => let ⟨_, _, e⟩ := st; PySem.W.kcp_self e h
end
def iItemsT (td : TE) : TI := fun σ H R => td σ H fun x H1 => ∃ d o kvs, x = .ref d ∧ H1 d = some (.frz o (.dT kvs)) ∧ R (Itit d o kvs) H1
section
variable {X : Cx} {tg e : Expr} {td : TE} {apos cpos : Pos}
theorem pi_itemsT {elts : List Expr} {kk : Nat} {tpos : Pos} (he : PE X e td) (hbase : attributeBase e "items" X.env (eval e X.env) = eval e X.env := by rfl) (hline : (apos.endLine == cpos.line) = true := by rfl) :
    PI X (.Tuple elts kk tpos) (.Call (.Attribute e "items" apos) [] [] cpos) (iItemsT td) := by
  refine ⟨fun pins s σ H R I h => ?_⟩
  refine wpAny_Call_method (T := "dict") (id := "dict.items") hbase rfl hline F.plainAttrs_dict F.slot_dict_items F.type_dict_items (thn (he.run pins s σ H _ I h) fun u s1 ⟨x, H1, I1, rx, d, o, kvs, ex, hd, q⟩ => ?_)
  subst ex
  obtain rfl : u = Value.ref d := rx
  obtain ⟨hs, es, ep, hdt, raw, hsz, ent⟩ := frzT2 I1 hd
  refine ⟨raw.typeIs, fun b z => ?_, ?_⟩
  · cases z
    obtain ⟨ob, h1, h2, _⟩ := raw
    exact ⟨ob, h1, h2.2.1⟩
  have I2 : Inv X pins σ H1 { s1 with heap := s1.heap.push { cls := .type "dict_items", data := .fields #[.ref d] } } := I1.kept (t' := s1.toks) fun b ob q => Heap.get?_push_of_some _ q
  have fin : wpAny (model X.prog X.w) X.A (pyIter (.ref s1.heap.objs.size)) (PIE X pins σ (.Tuple elts kk tpos) R) X.xe { s1 with heap := s1.heap.push { cls := .type "dict_items", data := .fields #[.ref d] } } := by
    refine DT.iterI (d := d) ⟨_, Heap.get?_push_size _ rfl, rfl, rfl⟩ (raw.push _) (pi_one (tk := s1.toks) I2 _ (turn_itemsT _ hdt) ⟨.none, .none, ?_⟩ q)
    rw [← hsz]
    exact Heap.get?_push_size _ rfl
  show wpAny _ _ (callWith cpos (.builtin "dict.items") [.ref d] [] []) _ X.xe s1
  exact method_meetsIn F.slot_dict_items F.entry_dict_items rfl (PySem.evalArgs_none ⟨rfl, raw.typeIs, F.args_dict_items_1 _, _, DT.meetsItems (es := es) (ep := ep) hs, ⟨raw, fin⟩⟩)
/-! ### {k: v}, k a tuple of numbers -/
theorem d_dictSetT {pins : List (Addr × Obj)} {σ : L2.St} {H : Hp} {s : Shared} {E : Value → Shared → Prop} {D b : Addr} {kvs : List (List Key × V)} {k : List Key} {v : V} {r : Value} {Q : Unit → Shared → Prop} (hu : X.A.units + 1 < cLine) (I : Inv X pins σ H s) (hD : H D = some (.dT kvs)) (hz : kvs.length < sizeLine)
    (eb : H b = some (.tup (k.map kV))) (rv : RelV v r) (h : ∀ s', Inv X pins σ (upd H D (.dT (putK kvs k v))) s' → Q () s') : wpAny (model X.prog X.w) X.A (dictSet D (.ref b) r) Q E s := by
  obtain ⟨z, hd, xs, rel, dd⟩ := dt_of I.hok hD
  have hzv : xs.length ≤ sizeLine := by rw [← Paired.length rel]; exact z
  have hl : (putK kvs k v).length ≤ sizeLine := by have := length_putK kvs k v; omega
  refine wpAny_dictSet_heap (hsz := hzv) (show X.A.units < cLine by omega) (key_of I.hok eb) dd fun h' dd' hs => h _ ?_
  obtain ⟨q, es, ep, hq, h2, h3, h4, _, h5⟩ := dd'
  refine d_write I (by rw [hD]; exact True.intro) hs ⟨q, hq⟩ ⟨hl, hd, _, (rel.put k eb rv).keeps fun c ys ec => ?_, q, es, ep, hq, h2, h3, h4, h5⟩
  rw [upd_ne (ne_of ec hD (fun z => nomatch z))]
  exact ec
def tDisp1T (tk tv : TE) : TE := fun σ H Q => ∀ p, H p = none → tk σ (upd H p (.dT [])) fun x H1 => tv σ H1 fun y H2 => ∃ (b : Addr) (k : List Key), x = .ref b ∧ H2 b = some (.tup (k.map kV)) ∧ H2 p = some (.dT []) ∧ Q (.ref p) (upd H2 p (.dT [(k, y)]))
theorem pe_disp1T {pos : Pos} {k v : Expr} {tk tv : TE} (hu : X.A.units + 1 < cLine) (hk : PE X k tk) (hv : PE X v tv) : PE X (.Dict [some k] [v] pos) (tDisp1T tk tv) := by
  refine ⟨fun pins s σ H Q I q => ?_⟩
  have hn := I.hok.fresh (Nat.le_refl s.heap.objs.size)
  have new : ObjOk X.prog X.w (upd H s.heap.objs.size (.dT [])) (s.heap.push { cls := .type "dict", data := .dict #[] }) s.heap.objs.size (.dT []) := by
    obtain ⟨z, hd, _⟩ := dk_empty (P := X.prog) (w := X.w) (H := upd H s.heap.objs.size (.dK [])) s.heap I.big
    exact ⟨Nat.zero_le _, hd, [], .nil, _, _, _, Heap.get?_push_size _ rfl, ⟨rfl, rfl, rfl⟩, rfl, rfl, List.nodup_nil⟩
  have I1 := I.laid (a := s.heap.objs.size) (o := .dT []) (h' := s.heap.push { cls := .type "dict", data := .dict #[] }) (t' := s.toks) (fun _ _ q => Heap.get?_push_of_some _ q) (Nat.le_refl _) new
  refine wpAny_Dict_any rfl rfl (by simp) (show 1 ≤ 15 by decide) (pairTrees_cons_walk (thn (hk.run pins _ σ _ _ I1 (q _ hn)) fun u s2 ⟨x, H2, I2, rx, q2⟩ => thn (hv.run pins s2 σ H2 _ I2 q2) fun r s3 ⟨y, H3, I3, ry, b, ks, ex, eb, eD, q3⟩ => pairTrees_nil_walk ?_))
  subst ex
  cases rx
  unfold storeAll
  rw [List.forIn_cons]
  refine wpAny_bind (wpAny_bind (d_dictSetT hu I3 eD (show 0 < sizeLine by decide) eb ry fun s' I' => wpAny_pure (wpAny_pure ?_)))
  exact ⟨.ref s.heap.objs.size, _, I', rfl, q3⟩
/-! ### sum(d.values()) -/
theorem valuesRaw {prog : Program} {w : World} {d : Addr} {es : Array DictEntry} {ep : Nat} (hd : (d == sysModules) = false) :
    MeetsIn prog w (Builtin.«dict.values» ⟨[.ref d], []⟩) (fun _ R s => s.heap.DictRaw d es ep ∧ R (.ok (.ret (.ref s.heap.objs.size))) { s with heap := s.heap.push { cls := .type "dict_values", data := .fields #[.ref d] } }) :=
  .of_wp fun A R s ⟨hm, h⟩ => by
    unfold Builtin.«dict.values»
    refine wpAny_bind ?_
    unfold Builtin.Dict.noArgs
    refine wpAny_bind (wpAny_notOrdered_dict hm.typeIs ?_)
    show wpAny _ _ (pure d) _ _ s
    refine wpAny_pure ?_
    show wpAny _ _ (Builtin.Dict.showsAll d >>= _) _ _ s
    unfold Builtin.Dict.showsAll
    rw [if_neg (by rw [hd]; exact Bool.false_ne_true)]
    exact wpAny_bind (wpAny_pure (wpAny_bind (wpAny_newObj_type (wpAny_pure ⟨_, rfl, h⟩))))
theorem preSum_list : ∀ (is : List Int), preSum (fun i => is.getD i 0) is.length = is.sum := by
  have key : ∀ (is : List Int) (n : Nat), n ≤ is.length → preSum (fun i => is.getD i 0) n = (is.take n).sum := by
    intro is n
    induction n with
    | zero => intro _; rfl
    | succ n ih =>
      intro hn
      show preSum (fun i => is.getD i 0) n + is.getD n 0 = _
      rw [ih (by omega), List.take_add_one, List.getElem?_eq_getElem (by omega), List.getD_eq_getElem?_getD, List.getElem?_eq_getElem (by omega), List.sum_append]
      simp
  intro is
  rw [key is is.length (Nat.le_refl _), List.take_length]
def tSumValsT (td : TE) : TE := fun σ H Q => td σ H fun x H1 => ∃ (a : Addr) (kvs : List (List Key × V)) (is : List Int), x = V.ref a ∧ H1 a = some (.dT kvs) ∧ kvs.map (·.2) = is.map V.int ∧ Q (.int is.sum) H1
theorem pe_sumValsT {o : Expr} {p pos mpos : Pos} (hg : Gl X "sum") (hc : X.calm = true) (hm : X.mg "sum" = none) (hd : PE X o td) (hbase : attributeBase o "values" X.env (eval o X.env) = eval o X.env := by rfl) (hline : (apos.endLine == mpos.line) = true := by rfl)
    (hse : starEach [Expr.Call (.Attribute o "values" apos) [] [] mpos] X.env = [(false, eval (Expr.Call (.Attribute o "values" apos) [] [] mpos) X.env)] := by rfl) :
    PE X (.Call (.Name "sum" p) [.Call (.Attribute o "values" apos) [] [] mpos] [] pos) (tSumValsT td) := by
  refine ⟨fun pins s σ H Q I h => ?_⟩
  refine wpAny_Call_Name_kw (ld_blt I hg hm (u := .builtin "sum") (by first | rfl | decide +kernel) ?_ (by first | decide +kernel | decide) (by first | decide +kernel | decide))
  rw [hse]
  refine PySem.callWith_builtin1 (wpAny_Call_method0_late hbase hline (thn (hd.run pins s σ H _ I h) fun v s1 ⟨x, H1, I1, r1, a, kvs, is, ex, ha, hv, q⟩ => ?_))
  subst ex
  obtain rfl : v = Value.ref a := r1
  obtain ⟨z, hs, xs, pr, o', es, ep, ho, hx, hdt, he, _⟩ := I1.hok a _ ha
  have l1 : es.size = xs.length := size_of_entries he
  have l2 : kvs.length = xs.length := Paired.length pr
  have l3 : kvs.length = is.length := by
    have e1 := congrArg List.length hv
    simpa using e1
  have raw : s1.heap.DictRaw a es ep := ⟨o', ho, hx, hdt⟩
  refine ⟨"dict", "dict.values", F.plainAttrs_dict, F.slot_dict_values, F.type_dict_values, ⟨o', ho, hx.1⟩, fun b e => ?_, Calls.callWith_builtin rfl (PySem.evalArgs_none ?_)⟩
  · cases e
    exact ⟨o', ho, hx.2.1⟩
  refine call_meetsIn F.slot_dict_values ⟨o', ho, hx.1⟩ F.entry_dict_values (F.args_dict_values_1 _) (valuesRaw (es := es) (ep := ep) hs) ⟨raw, ?_⟩
  have k1 : ∀ b u, s1.heap.get? b = some u → (s1.heap.push { cls := .type "dict_values", data := .fields #[.ref a] }).get? b = some u := fun b u e => Heap.get?_push_of_some _ e
  have hval : ∀ (i : Nat) (v : Value), (∃ hi : i < es.size, v = es[i].val) → ∃ t, v = Value.int (is.getD i 0) t := fun i v ⟨hi, ev⟩ => by
    have hk : i < kvs.length := by omega
    obtain ⟨b, hb, e1, e2, e3⟩ := paired_get pr (List.getElem?_eq_getElem hk)
    have q1 := entry_at he i
    rw [hb, Array.getElem?_eq_getElem hi] at q1
    have q1 := Option.some.inj q1
    have e4 : (kvs.map (·.2))[i]? = some (kvs[i]).2 := by rw [List.getElem?_map, List.getElem?_eq_getElem hk] <;> rfl
    rw [hv, List.getElem?_map] at e4
    obtain ⟨j, hj, e5⟩ := Option.map_eq_some_iff.mp e4
    rw [← e5] at e3
    obtain ⟨t, e6⟩ := e3
    refine ⟨t, ?_⟩
    rw [ev, q1, List.getD_eq_getElem?_getD, hj]
    exact e6
  refine call_sum_walkAnyS ?_
  obtain ⟨oI, St, hit, W, st⟩ := (KdlSrc.rawValues (prog := X.prog) (w := X.w) (r := s1.heap.objs.size) (d := a) (es := es) (ep := ep)).iter X.A.in1 { s1 with heap := s1.heap.push { cls := .type "dict_values", data := .fields #[.ref a] } } (I.ok.hd hc) ⟨⟨_, Heap.get?_push_size _ rfl, rfl, rfl⟩, raw.at fun o e => Heap.get?_push_of_some _ e⟩
  have hsz : (s1.heap.push { cls := .type "dict_values", data := .fields #[.ref a] }).objs.size = s1.heap.objs.size + 1 := Heap.size_push _ _
  have hlt : a < s1.heap.objs.size := Heap.lt_size ho
  refine hit _ _ ⟨(s1.heap.push { cls := .type "dict_values", data := .fields #[.ref a] }).objs.size, _, _, _, es.size, _, _, fun i => is.getD i 0, rfl, W.toS, st, fun b hb => ?_, hval, fun s' t' hm => ?_⟩
  · show b < ((s1.heap.push _).push _).objs.size
    rw [Heap.size_push, hsz]
    rcases List.mem_cons.mp hb with e | hb
    · rw [e, hsz]
      exact Nat.lt_succ_self _
    · rw [List.mem_singleton.mp hb]
      exact Nat.lt_succ_of_lt (Nat.lt_succ_of_lt hlt)
  · have hk : ∀ b u, s1.heap.get? b = some u → s'.heap.get? b = some u := fun b u e =>
      hm.heap b u (fun hI => absurd (Heap.lt_size e) (by rw [List.mem_singleton.mp hI, hsz]; exact Nat.not_lt.mpr (Nat.le_succ _))) (Heap.get?_push_of_some _ (k1 b u e))
    rw [Moved.eq_with hm]
    refine ⟨.int is.sum, H1, I1.kept (t' := s'.toks) hk, ⟨t', ?_⟩, q⟩
    rw [show es.size = is.length by omega, preSum_list]
end
end DL

/-! R5: factorial; short names of readings. -/
namespace DL
open PySem PySem.Spec PyProof.Rows L2
abbrev factN (n : Nat) : Nat := Builtin.Math.factorialNat n
abbrev rFact : RCall := fun vs H Q => ∃ n : Nat, vs = [.int (n : Int)] ∧ n ≤ 9 ∧ Q (.int (factN n : Int)) H
section
variable {X : Cx}
theorem cr_fact : CallR X (.builtin "math.factorial") rFact := by
  intro pins s σ H vs us Q I r ⟨n, ev, hn, q⟩
  subst ev
  obtain ⟨u, rfl, t, rfl⟩ := vals1 r
  have hz : (((Builtin.Math.factorialNat ((n : Int)).toNat : Nat) : Int)).natAbs.log2 < bitsLine := by
    rw [Int.toNat_natCast]
    have : ∀ m : Nat, m < 10 → (((Builtin.Math.factorialNat m : Nat) : Int)).natAbs.log2 < bitsLine := by decide +kernel
    exact this n (by omega)
  have g := PySem.W.mg_run_factorial (n : Int) t (by show ¬ (n : Int) > Builtin.Math.maxSsize; unfold Builtin.Math.maxSsize; omega) (by omega) (by show ¬ (n : Int) > Builtin.Math.manyFactors; unfold Builtin.Math.manyFactors; omega) hz
  rw [Int.toNat_natCast] at g
  exact call_function_meets PySem.W.MGF.kind_factorial PySem.W.MGF.plain_factorial PySem.W.MGF.entry_factorial (PySem.W.MGF.args_factorial _) g.meets ⟨.int (factN n : Int), H, I.tok _, ⟨_, rfl⟩, q⟩
abbrev tFact (te : TE) : TE := tCB rFact (tCons te tNil)
theorem pe_fact {x : Str} {p pos : Pos} {e : Expr} {te : TE} (hm : X.mg x = some (.builtin "math.factorial")) (hg : Gl X x) (he : PE X e te) (hdb : (x == ("__debug__" : Str)) = false := by decide)
    (hs : starEach [e] X.env = (false, eval e X.env) :: starEach [] X.env := by rfl) (hs0 : starEach [] X.env = [] := by rfl) : PE X (.Call (.Name x p) [e] [] pos) (tFact te) := pe_callBfun cr_fact hg hm (pa_cons he pa_nil hs) hdb hs (by rw [hs0]; rfl)
theorem u65 {k : Nat} {A : Around} (hr : Room k A) : A.units + 65 < cLine := by have := hr.un; omega
end
abbrev oAnd : R2 := rI0 fun i j => .int (Builtin.bitAnd i j)
abbrev oOr : R2 := rI0 fun i j => .int (Builtin.bitOr i j)
abbrev oShl : R2 := rI CPow fun i j => .int (i * 2 ^ j.toNat)
abbrev oShr : R2 := rI CPow fun i j => .int (i / 2 ^ j.toNat)
abbrev rIsBl : R2 := fun x y H Q => ∃ a b, x = .bl a ∧ y = .bl b ∧ Q (.bl (decide (a = b))) H
abbrev rNotBl : R2 := fun x y H Q => ∃ a b, x = .bl a ∧ y = .bl b ∧ Q (.bl (!decide (a = b))) H
abbrev rRepr (K : PySem.W.Frag) : RCall := fun xs H Q => ∃ (p : Addr) (d : PyData), xs = [.ref p] ∧ Dp K H (.ref p) d ∧ d.showable = true ∧ d.hasDict = false ∧ d.depth ≤ 50 ∧ d.shown.length ≤ sizeLine ∧ Q (.str d.shown) H
abbrev rLenD : RCall := fun xs H Q => ∃ (a : Addr) (kvs : List (Key × V)), xs = [V.ref a] ∧ H a = some (.dK kvs) ∧ Q (.int kvs.length) H
end DL

/-! R6: y = {k: v for ..}, y a local. -/
namespace DL
open PySem PySem.Spec PyProof.Rows L2
section
variable {X : Cx}
theorem sw_trueD {kx vx : Expr} {gs : List Comprehension} {scope : Scope} {pos py : Pos} {y : Str} {l : Nat} {env : Env} (hk : env.scope.kind = .function) (hy : env.scope.names.lookup y = some .local) (hl : (py.line == pos.line) = true)
    (ha : (scope.names.any fun (n, k) => n == y && (k == .local || k == .cell)) = false) : swapsWith (.DictComp kx vx gs scope pos) (some (.Name y py)) l env = pure true := by
  have ky : env.kindOf y = some .local := hy
  have hb : env.blockKind = .function := by unfold Env.blockKind; rw [hk]; rfl
  unfold swapsWith
  simp only [hb, ky, ha, Expr.pos, hl]
  rfl
theorem ps_setDc {i : Nat} {y : Str} {py : Pos} {kx vx tg iter : Expr} {ifs : List Expr} {scope : Scope} {own : List (Str × Nat)} {pos spos : Pos} {wi : TI} {g : TG} {tt : TT} {tk tv : TE} (hc : X.calm = true) (hN : X.N.Nodup) (hy : X.N[i]? = some y) (hyl : X.env.scope.names.lookup y = some .local)
    (hsw : swapsWith (.DictComp kx vx [⟨tg, iter, ifs, 0⟩] scope pos) (some (.Name y py)) spos.line X.env = pure true) (hi : PI X tg iter wi) (ok : BlkOk X.N X.env.scope scope own)
    (hg : ∀ (s : Shared) (H : Hp) (C : Addr) (cl : List (Str × Addr)) (fp : List Addr), PG (X.blk s H scope (compEnvC scope cl C X.env) fp) tg g) (ht : ∀ (s : Shared) (H : Hp) (C : Addr) (cl : List (Str × Addr)) (fp : List Addr), PTs (X.blk s H scope (compEnvC scope cl C X.env) fp) ifs tt)
    (hk : ∀ (s : Shared) (H : Hp) (C : Addr) (cl : List (Str × Addr)) (fp : List Addr), PE (X.blk s H scope (compEnvC scope cl C X.env) fp) kx tk)
    (he : ∀ (s : Shared) (H : Hp) (C : Addr) (cl : List (Str × Addr)) (fp : List Addr), PE (X.blk s H scope (compEnvC scope cl C X.env) fp) vx tv) (hs : ∀ x, foldedSetIterable iter X.env x = pure x := by intro _; rfl) :
    PS X (.Assign [.Name y py] (.DictComp kx vx [⟨tg, iter, ifs, 0⟩] scope pos) spos) (tAsg (tDc wi g tt tk tv (own.map (·.2))) (gName i)) := by
  refine ⟨fun pins s σ H D I h => ?_⟩
  rw [exec_Assign_Name_used _ _ _ _ hsw]
  refine wpAny_bind (wpAny_standAt (wpAny_bind ?_))
  show wpAny _ X.A (do let _ ← comprehension (.DictComp kx vx [⟨tg, iter, ifs, 0⟩] scope pos) scope X.env (firstIterPos [⟨tg, iter, ifs, 0⟩] pos) newDict false (eval iter X.env) (some (assign (.Name y py) X.env))) _ _ s
  have h : tDc wi g tt tk tv (own.map (·.2)) σ H (fun x H1 => gName i x σ H1 D.nx) := h
  refine wpAny_bind (thn (dc_core (Qf := fun _ s' => SP X pins D .next s') hc hN I hi ok hg ht hk he hs h fun L C s' m H' I' q hn f => ?_) fun _ s' hq => wpAny_pure (wpAny_pure hq))
  show wpAny _ _ (assign (.Name y py) X.env (.ref L)) _ _ _
  refine wpAny_assign_Name (store_ok2 (v := V.ref L) I' hN hy (.inl hyl) rfl (fun s2 I2 ⟨a, sb, ha⟩ => ?_) (.inr hyl))
  obtain ⟨f0, f1, f2, f3, f4, f5⟩ := f
  have haC : C ≠ a := by
    rcases ha with z | z
    · rw [z]; exact f1
    · exact fun e => f4 y a z e.symm
  exact ⟨m, hn.sameBut sb haC, fun h3 sb3 => ⟨_, H', I2.turned (t' := s2.toks) (fun b o hb e => (sb3.2 b hb).trans e) f0 f1 f3 f4 f5, q⟩⟩
end
end DL

/-! readings of the bodies, printed by gen.py -/
namespace K77
open PySem L2 DL StX

def N_is_whole : List Str := ["value"]

def t_is_whole (K : PySem.W.Frag) : TS := (tRet (tAndV (tCB (rIsi K) (tCons (tVar 0) (tCons (tC (.ty "int")) tNil))) (tNotV (tCB (rIsi K) (tCons (tVar 0) (tCons (tC (.ty "bool")) tNil))))))

def N_is_between : List Str := ["value", "low", "high"]

def t_is_between (K : PySem.W.Frag) (sp_is_whole : Sp) : TS := (tRet (tAndV (tCall sp_is_whole [] E0 (tCons (tVar 0) tNil)) (tChain oLe oLe (tVar 1) (tVar 0) (tVar 2))))

def N_is_tuple_of : List Str := ["value", "many"]

def t_is_tuple_of (K : PySem.W.Frag) : TS := (tRet (tAndV (tCB (rIsi K) (tCons (tVar 0) (tCons (tC (.ty "tuple")) tNil))) (tOp rEq (tCB (rLenQ K) (tCons (tVar 0) tNil)) (tVar 1))))

def N_is_tuple_of_P : List Str := ["value", "many"]

def t_is_tuple_of_P (K : PySem.W.Frag) : TS := (tRet (tAndV (tCB (rIsi K) (tCons (tVar 0) (tCons (tC (.ty "tuple")) tNil))) (tOp rEq (tCB (rLenQ K) (tCons (tVar 0) tNil)) (tVar 1))))

def N_are_rising : List Str := ["value", "index"]

def t_are_rising (K : PySem.W.Frag) : TS := (tRet (tCB (rAll K) (tCons (tLc (iRng2 (tCons (tC (.int 1)) (tCons (tCB (rLenQ K) (tCons (tVar 0) tNil)) tNil))) (gName 1) tYes (tOp (rLtT K) (tOp (rIxT K) (tVar 0) (tOp oSub (tVar 1) (tC (.int 1)))) (tOp (rIxT K) (tVar 0) (tVar 1))) [1]) tNil)))

def N_wrong_in_lines : List Str := ["value", "index", "line"]

def t_wrong_in_lines (K : PySem.W.Frag) (sp_is_between : Sp) : TS := (tSeq (tIfS (tOr (tNot (tB (tCB (rIsi K) (tCons (tVar 0) (tCons (tC (.ty "tuple")) tNil))))) (tB (tKIn [(2, 1), (4, 3), (8, 5)] true (tCB (rLenQ K) (tCons (tVar 0) tNil))))) (tRet (tLst (tCons (tC .non) tNil))) tNext)
    (tSeq (tFor (iEnumT K (tCons (tVar 0) tNil)) (gTup K 2 (gCons (gName 1) (gCons (gName 2) gNil))) (tIfS (tOr (tNot (tB (tCall sp_is_between [] E0 (tCons (tVar 2) (tCons (tC (.int 0)) (tCons (tOp oSub (tCB (rLenQ K) (tCons (tVar 0) tNil)) (tC (.int 1))) tNil)))))) (tTest (tOp (rIn K false) (tVar 2) (tSl (rSlA K) (tVar 0) tNoPart (tPart (tVar 1)))))) (tRet (tLst (tCons (tVar 1) tNil))) tNext))
    (tRet (tLst tNil))))

def N_is_column : List Str := ["value", "many", "each"]

def t_is_column (K : PySem.W.Frag) (sp_is_tuple_of : Sp) (sp_is_between : Sp) : TS := (tRet (tAndV (tCall sp_is_tuple_of [] E0 (tCons (tVar 0) (tCons (tVar 1) tNil))) (tCB (rAll K) (tCons (tLc (iTup K (tVar 0)) (gName 2) tYes (tCall sp_is_between [] E0 (tCons (tVar 2) (tCons (tC (.int 0)) (tCons (tC (.int 1)) tNil)))) [2]) tNil))))

def N_is_setting_by : List Str := ["value", "each"]

def t_is_setting_by (K : PySem.W.Frag) (sp_is_column : Sp) : TS := (tSeq (tIfS (tOr (tNot (tB (tCB (rIsi K) (tCons (tVar 0) (tCons (tC (.ty "tuple")) tNil))))) (tB (tKIn [(1, 2), (3, 4), (5, 8)] true (tCB (rLenQ K) (tCons (tVar 0) tNil))))) (tRet (tC (.bl false))) tNext)
    (tRet (tCB (rAll K) (tCons (tLc (iTup K (tVar 0)) (gName 1) tYes (tCall sp_is_column [] E0 (tCons (tVar 1) (tCons (tOp oDiv (tKGet [(1, 2), (3, 4), (5, 8)] (tCB (rLenQ K) (tCons (tVar 0) tNil))) (tC (.int 2))) tNil))) [1]) tNil))))

def N_switched : List Str := ["column", "place"]

def t_switched (K : PySem.W.Frag) : TS := (tSeq (tIfS (tTest (tOp rEq (tOp (rIxT K) (tVar 0) (tOp oDiv (tVar 1) (tC (.int 2)))) (tC (.int 0)))) (tRet (tVar 1)) tNext)
    (tRet (tOp oSub (tOp oAdd (tVar 1) (tC (.int 1))) (tOp oMul (tC (.int 2)) (tOp oMod (tCB rIntQ (tCons (tVar 1) tNil)) (tC (.int 2)))))))

def N_parted : List Str := ["place", "size", "within"]

def t_parted (K : PySem.W.Frag) : TS := (tSeq (tAsg (tOp oMod (tCB rIntQ (tCons (tVar 0) tNil)) (tVar 1)) (gName 2))
    (tRet (tOp oAdd (tOp oAdd (tOp oSub (tVar 0) (tVar 2)) (tOp oMul (tOp oMod (tCB rIntQ (tCons (tVar 2) tNil)) (tC (.int 2))) (tOp oDiv (tVar 1) (tC (.int 2))))) (tOp oDiv (tVar 2) (tC (.int 2))))))

def N_brought_back : List Str := ["place", "size", "within"]

def t_brought_back (K : PySem.W.Frag) : TS := (tSeq (tAsg (tOp oMod (tCB rIntQ (tCons (tVar 0) tNil)) (tVar 1)) (gName 2))
    (tRet (tOp oAdd (tOp oAdd (tOp oSub (tVar 0) (tVar 2)) (tOp oMul (tC (.int 2)) (tOp oMod (tCB rIntQ (tCons (tVar 2) tNil)) (tOp oDiv (tVar 1) (tC (.int 2)))))) (tOp oDiv (tVar 2) (tOp oDiv (tVar 1) (tC (.int 2)))))))

def N_led_through : List Str := ["setting", "line", "size", "middle", "place", "column"]

def t_led_through (K : PySem.W.Frag) (sp_parted : Sp) (sp_switched : Sp) (sp_brought_back : Sp) : TS := (tSeq (tPar3 2 3 4 (tCons (tKGet [(1, 2), (3, 4), (5, 8)] (tCB (rLenQ K) (tCons (tVar 0) tNil))) (tCons (tOp oDiv (tCB (rLenQ K) (tCons (tVar 0) tNil)) (tC (.int 2))) (tCons (tVar 1) tNil))))
    (tSeq (tFor (iTup K (tSl (rSlA K) (tVar 0) tNoPart (tPart (tVar 3)))) (gName 5) (tSeq (tAsg (tCall sp_parted [] E0 (tCons (tCall sp_switched [] E0 (tCons (tVar 5) (tCons (tVar 4) tNil))) (tCons (tVar 2) tNil))) (gName 4))
    (tAsg (tOp oDiv (tVar 2) (tC (.int 2))) (gName 2))))
    (tSeq (tAsg (tCall sp_switched [] E0 (tCons (tOp (rIxT K) (tVar 0) (tVar 3)) (tCons (tVar 4) tNil))) (gName 4))
    (tSeq (tFor (iTup K (tSl (rSlA K) (tVar 0) (tPart (tOp oAdd (tVar 3) (tC (.int 1)))) tNoPart)) (gName 5) (tSeq (tAsg (tOp oMul (tC (.int 2)) (tVar 2)) (gName 2))
    (tAsg (tCall sp_switched [] E0 (tCons (tVar 5) (tCons (tCall sp_brought_back [] E0 (tCons (tVar 4) (tCons (tVar 2) tNil))) tNil))) (gName 4))))
    (tRet (tVar 4))))))

def N_led_by_setting : List Str := ["setting", "line"]

def t_led_by_setting (K : PySem.W.Frag) (sp_led_through : Sp) : TS := (tRet (tCB (rTupQ K) (tCons (tLc (iRng1 (tCons (tKGet [(1, 2), (3, 4), (5, 8)] (tCB (rLenQ K) (tCons (tVar 0) tNil))) tNil)) (gName 1) tYes (tCall sp_led_through [] E0 (tCons (tVar 0) (tCons (tVar 1) tNil))) [1]) tNil)))

def N_partner_of : List Str := ["place"]

def t_partner_of (K : PySem.W.Frag) : TS := (tRet (tOp oSub (tOp oAdd (tVar 0) (tC (.int 1))) (tOp oMul (tC (.int 2)) (tOp oMod (tCB rIntQ (tCons (tVar 0) tNil)) (tC (.int 2))))))

def N_sides_of : List Str := ["order", "comes", "line", "there", "found", "start", "other"]

def t_sides_of (K : PySem.W.Frag) (sp_partner_of : Sp) : TS := (tSeq (tAsg (tDc (iEnumT K (tCons (tVar 0) tNil)) (gTup K 2 (gCons (gName 2) (gCons (gName 3) gNil))) tYes (tVar 3) (tVar 2) [2, 3]) (gName 1))
    (tSeq (tAsg tDNewK (gName 4))
    (tSeq (tFor (iRng1 (tCons (tCB (rLenQ K) (tCons (tVar 0) tNil)) tNil)) (gName 5) (tSeq (tAsg (tVar 5) (gName 2))
    (tWhile (tB (tDNotIn (tVar 2) (tVar 4))) (tSeq (tAsg (tCall sp_partner_of [] E0 (tCons (tVar 2) tNil)) (gName 6))
    (tSeq (tAsg (tTup (tCons (tC (.int 0)) (tCons (tC (.int 1)) tNil))) (gTup K 2 (gCons (gSub (tVar 4) (tVar 2) rSetD) (gCons (gSub (tVar 4) (tVar 6) rSetD) gNil))))
    (tAsg (tDGet (tVar 1) (tCall sp_partner_of [] E0 (tCons (tOp (rIxT K) (tVar 0) (tVar 6)) tNil))) (gName 2)))))))
    (tRet (tVar 4)))))

def N_first_column : List Str := ["sides", "switch"]

def t_first_column (K : PySem.W.Frag) : TS := (tRet (tLc (iRng1 (tCons (tOp oDiv (tCB rLenD (tCons (tVar 0) tNil)) (tC (.int 2))) tNil)) (gName 1) tYes (tDGet (tVar 0) (tOp oMul (tC (.int 2)) (tVar 1))) [1]))

def N_last_column : List Str := ["order", "sides", "ways", "line", "there", "switch"]

def t_last_column (K : PySem.W.Frag) : TS := (tSeq (tAsg (tDc (iEnumT K (tCons (tVar 0) tNil)) (gTup K 2 (gCons (gName 3) (gCons (gName 4) gNil))) tYes (tVar 4) (tDGet (tVar 1) (tVar 3)) [3, 4]) (gName 2))
    (tRet (tLc (iRng1 (tCons (tOp oDiv (tCB (rLenQ K) (tCons (tVar 0) tNil)) (tC (.int 2))) tNil)) (gName 5) tYes (tDGet (tVar 2) (tOp oMul (tC (.int 2)) (tVar 5))) [5])))

def N_part_order : List Str := ["order", "sides", "side", "lines", "line"]

def t_part_order (K : PySem.W.Frag) : TS := (tSeq (tAsg (tLc (iRng1 (tCons (tCB (rLenQ K) (tCons (tVar 0) tNil)) tNil)) (gName 4) (tTest (tOp rEq (tDGet (tVar 1) (tVar 4)) (tVar 2))) (tVar 4) [4]) (gName 3))
    (tRet (tCB (rTupQ K) (tCons (tLc (iList K (tVar 3)) (gName 4) tYes (tOp oDiv (tOp (rIxT K) (tVar 0) (tVar 4)) (tC (.int 2))) [4]) tNil))))

def N_column_pair : List Str := ["orders", "firsts", "lasts", "parts", "order", "sides"]

def t_column_pair (K : PySem.W.Frag) (sp_sides_of : Sp) (sp_first_column : Sp) (sp_last_column : Sp) (sp_part_order : Sp) : TS := (tSeq (tPar3 1 2 3 (tCons (tLst tNil) (tCons (tLst tNil) (tCons (tLst tNil) tNil))))
    (tSeq (tFor (iList K (tVar 0)) (gName 4) (tSeq (tAsg (tCall sp_sides_of [] E0 (tCons (tVar 4) tNil)) (gName 5))
    (tSeq (tDrop (tBM K "list" rExtend (tVar 1) (tCons (tCall sp_first_column [] E0 (tCons (tVar 5) tNil)) tNil)))
    (tSeq (tDrop (tBM K "list" rExtend (tVar 2) (tCons (tCall sp_last_column [] E0 (tCons (tVar 4) (tCons (tVar 5) tNil))) tNil)))
    (tDrop (tBM K "list" rExtend (tVar 3) (tCons (tLst (tCons (tCall sp_part_order [] E0 (tCons (tVar 4) (tCons (tVar 5) (tCons (tC (.int 0)) tNil)))) (tCons (tCall sp_part_order [] E0 (tCons (tVar 4) (tCons (tVar 5) (tCons (tC (.int 1)) tNil)))) tNil))) tNil)))))))
    (tRet (tTup (tCons (tCB (rTupQ K) (tCons (tVar 1) tNil)) (tCons (tCB (rTupQ K) (tCons (tVar 2) tNil)) (tCons (tVar 3) tNil)))))))

def N_setting_for_by : List Str := ["order", "orders", "ahead", "behind", "first", "last", "middle", "each"]

def t_setting_for_by (K : PySem.W.Frag) (sp_column_pair : Sp) : TS := (tSeq (tPar3 1 2 3 (tCons (tLst (tCons (tVar 0) tNil)) (tCons (tLst tNil) (tCons (tLst tNil) tNil))))
    (tSeq (tWhile (tTest (tOp oGt (tCB (rLenQ K) (tCons (tOp (rIxL K) (tVar 1) (tC (.int 0))) tNil)) (tC (.int 2)))) (tSeq (tAsg (tCall sp_column_pair [] E0 (tCons (tVar 1) tNil)) (gTup K 3 (gCons (gName 4) (gCons (gName 5) (gCons (gName 1) gNil)))))
    (tSeq (tDrop (tBM K "list" rAppend (tVar 2) (tCons (tVar 4) tNil)))
    (tDrop (tBM K "list" rAppend (tVar 3) (tCons (tVar 5) tNil))))))
    (tSeq (tAsg (tCB (rTupQ K) (tCons (tLc (iList K (tVar 1)) (gName 7) tYes (tOp (rIxT K) (tVar 7) (tC (.int 0))) [7]) tNil)) (gName 6))
    (tRet (tTup (tStar K (tVar 2) (tCons (tVar 6) (tStar K (tRevL K (tVar 3)) tNil))))))))

def N_rows_of : List Str := ["things", "many", "found", "_", "row", "thing"]

def t_rows_of (K : PySem.W.Frag) : TS := (tSeq (tAsg (tLst (tCons (tTup tNil) tNil)) (gName 2))
    (tSeq (tFor (iRng1 (tCons (tVar 1) tNil)) (gName 3) (tAsg (tLc2 (iList K (tVar 2)) (gName 4) tYes (iTup K (tVar 0)) (gName 5) tYes (tTup (tStar K (tVar 4) (tCons (tVar 5) tNil))) [4, 5] [5]) (gName 2)))
    (tRet (tVar 2))))

def N_rows_of_L : List Str := ["things", "many", "found", "_", "row", "thing"]

def t_rows_of_L (K : PySem.W.Frag) : TS := (tSeq (tAsg (tLst (tCons (tTup tNil) tNil)) (gName 2))
    (tSeq (tFor (iRng1 (tCons (tVar 1) tNil)) (gName 3) (tAsg (tLc2 (iList K (tVar 2)) (gName 4) tYes (iList K (tVar 0)) (gName 5) tYes (tTup (tStar K (tVar 4) (tCons (tVar 5) tNil))) [4, 5] [5]) (gName 2)))
    (tRet (tVar 2))))

def N_all_settings : List Str := ["lines"]

def t_all_settings (K : PySem.W.Frag) (sp_rows_of_L : Sp) (sp_rows_of : Sp) : TS := (tRet (tCall sp_rows_of_L [] E0 (tCons (tCall sp_rows_of [] E0 (tCons (tTup (tCons (tC (.int 0)) (tCons (tC (.int 1)) tNil))) (tCons (tOp oDiv (tVar 0) (tC (.int 2))) tNil))) (tCons (tKGet [(2, 1), (4, 3), (8, 5)] (tVar 0)) tNil))))

def N_count_settings_by : List Str := ["order", "setting"]

def t_count_settings_by (K : PySem.W.Frag) (sp_all_settings : Sp) (sp_led_by_setting : Sp) : TS := (tRet (tCB (rLenQ K) (tCons (tLc (iList K (tCall sp_all_settings [] E0 (tCons (tCB (rLenQ K) (tCons (tVar 0) tNil)) tNil))) (gName 1) (tTest (tOp (rEqD K) (tCall sp_led_by_setting [] E0 (tCons (tVar 1) tNil)) (tVar 0))) (tVar 1) [1]) tNil)))

def N_check_lines : List Str := ["value", "index"]

def t_check_lines (K : PySem.W.Frag) (sp_wrong_in_lines : Sp) : TS := (tFor (iList K (tCall sp_wrong_in_lines [] E0 (tCons (tVar 0) tNil))) (gName 1) tNever)

def N_led_by : List Str := ["setting"]

def t_led_by (K : PySem.W.Frag) (sp_is_setting_by : Sp) (sp_led_by_setting : Sp) : TS := (tSeq (tIfS (tNot (tB (tCall sp_is_setting_by [] E0 (tCons (tVar 0) tNil)))) tNever tNext)
    (tRet (tCall sp_led_by_setting [] E0 (tCons (tVar 0) tNil))))

def N_setting_for : List Str := ["order"]

def t_setting_for (K : PySem.W.Frag) (sp_check_lines : Sp) (sp_setting_for_by : Sp) : TS := (tSeq (tDrop (tCall sp_check_lines [] E0 (tCons (tVar 0) tNil)))
    (tRet (tCall sp_setting_for_by [] E0 (tCons (tVar 0) tNil))))

def N_count_settings : List Str := ["order"]

def t_count_settings (K : PySem.W.Frag) (sp_check_lines : Sp) (sp_count_settings_by : Sp) : TS := (tSeq (tDrop (tCall sp_check_lines [] E0 (tCons (tVar 0) tNil)))
    (tSeq (tIfS (tTest (tOp oGt (tCB (rLenQ K) (tCons (tVar 0) tNil)) (tC (.int 4)))) tNever tNext)
    (tRet (tCall sp_count_settings_by [] E0 (tCons (tVar 0) tNil)))))

def N_lone_pairs : List Str := ["plan", "one", "two", "both", "pair"]

def t_lone_pairs (K : PySem.W.Frag) : TS := (tSeq (tAsg (tLc (iTup K (tOp (rIxT K) (tVar 0) (tVar 1))) (gName 4) (tTest (tOp (rInT K false) (tVar 4) (tOp (rIxT K) (tVar 0) (tVar 2)))) (tVar 4) [4]) (gName 3))
    (tRet (tCB (rSortD K) (tCons (tLc (iTup K (tOp (rCatA K) (tOp (rIxT K) (tVar 0) (tVar 1)) (tOp (rIxT K) (tVar 0) (tVar 2)))) (gName 4) (tTest (tOp (rNotInD K) (tVar 4) (tVar 3))) (tVar 4) [4]) tNil))))

def N_share_person : List Str := ["pair", "other"]

def t_share_person (K : PySem.W.Frag) : TS := (tRet (tOrV (tOp rEq (tOp (rIxT K) (tVar 0) (tC (.int 0))) (tOp (rIxT K) (tVar 1) (tC (.int 0)))) (tOp rEq (tOp (rIxT K) (tVar 0) (tC (.int 1))) (tOp (rIxT K) (tVar 1) (tC (.int 1))))))

def N_chain_from : List Str := ["pairs", "start", "found", "waiting", "here", "pair"]

def t_chain_from (K : PySem.W.Frag) (sp_share_person : Sp) : TS := (tSeq (tPar 2 3 (tCons (tLst (tCons (tVar 1) tNil)) (tCons (tLst (tCons (tVar 1) tNil)) tNil)))
    (tSeq (tWhile (tTest (tOp (rNeD K) (tVar 3) (tLst tNil))) (tSeq (tAsg (tBM0 K "list" rPop (tVar 3)) (gName 4))
    (tFor (iList K (tVar 0)) (gName 5) (tIfS (tAnd (tTest (tOp (rNotInD K) (tVar 5) (tVar 2))) (tB (tCall sp_share_person [] E0 (tCons (tVar 4) (tCons (tVar 5) tNil))))) (tSeq (tDrop (tBM K "list" rAppend (tVar 2) (tCons (tVar 5) tNil)))
    (tDrop (tBM K "list" rAppend (tVar 3) (tCons (tVar 5) tNil)))) tNext))))
    (tRet (tCB (rTupQ K) (tCons (tCB (rSortD K) (tCons (tVar 2) tNil)) tNil)))))

def N_chains_by : List Str := ["plan", "one", "two", "left", "found", "chain", "pair"]

def t_chains_by (K : PySem.W.Frag) (sp_lone_pairs : Sp) (sp_chain_from : Sp) : TS := (tSeq (tPar 3 4 (tCons (tCall sp_lone_pairs [] E0 (tCons (tVar 0) (tCons (tVar 1) (tCons (tVar 2) tNil)))) (tCons (tLst tNil) tNil)))
    (tSeq (tWhile (tTest (tOp (rNeD K) (tVar 3) (tLst tNil))) (tSeq (tAsg (tCall sp_chain_from [] E0 (tCons (tVar 3) (tCons (tOp (rIxL K) (tVar 3) (tC (.int 0))) tNil))) (gName 5))
    (tSeq (tDrop (tBM K "list" rAppend (tVar 4) (tCons (tVar 5) tNil)))
    (tAsg (tLc (iList K (tVar 3)) (gName 6) (tTest (tOp (rInT K true) (tVar 6) (tVar 5))) (tVar 6) [6]) (gName 3)))))
    (tRet (tCB (rTupQ K) (tCons (tVar 4) tNil)))))

def N_without_and_with : List Str := ["each", "chain", "kept", "pair"]

def t_without_and_with (K : PySem.W.Frag) : TS := (tSeq (tAsg (tLc (iTup K (tVar 0)) (gName 3) (tTest (tOp (rInT K true) (tVar 3) (tVar 1))) (tVar 3) [3]) (gName 2))
    (tRet (tCB (rTupQ K) (tCons (tCB (rSortD K) (tCons (tOp rCat (tVar 2) (tLc (iTup K (tVar 1)) (gName 3) (tTest (tOp (rInT K true) (tVar 3) (tVar 0))) (tVar 3) [3])) tNil)) tNil))))

def N_exchanged_by : List Str := ["plan", "one", "two", "chain", "rounds"]

def t_exchanged_by (K : PySem.W.Frag) (sp_without_and_with : Sp) : TS := (tSeq (tAsg (tCB (rLstQ K) (tCons (tVar 0) tNil)) (gName 4))
    (tSeq (tAsg (tCall sp_without_and_with [] E0 (tCons (tOp (rIxT K) (tVar 0) (tVar 1)) (tCons (tVar 3) tNil))) (gSub (tVar 4) (tVar 1) rSetL))
    (tSeq (tAsg (tCall sp_without_and_with [] E0 (tCons (tOp (rIxT K) (tVar 0) (tVar 2)) (tCons (tVar 3) tNil))) (gSub (tVar 4) (tVar 2) rSetL))
    (tRet (tCB (rTupQ K) (tCons (tVar 4) tNil))))))

def N_is_count_row : List Str := ["value", "many", "each"]

def t_is_count_row (K : PySem.W.Frag) (sp_is_tuple_of : Sp) (sp_is_between : Sp) : TS := (tRet (tAndV (tCall sp_is_tuple_of [] E0 (tCons (tVar 0) (tCons (tVar 1) tNil))) (tCB (rAll K) (tCons (tLc (iTup K (tVar 0)) (gName 2) tYes (tCall sp_is_between [] E0 (tCons (tVar 2) (tCons (tC (.int 0)) (tCons (tC (.int 9)) tNil)))) [2]) tNil))))

def N_is_row_like : List Str := ["first", "value"]

def t_is_row_like (K : PySem.W.Frag) (sp_is_count_row : Sp) : TS := (tSeq (tIfS (tOr (tNot (tB (tCB (rIsi K) (tCons (tVar 0) (tCons (tC (.ty "tuple")) tNil))))) (tNot (tTest (tChain oLe oLe (tC (.int 1)) (tCB (rLenQ K) (tCons (tVar 0) tNil)) (tC (.int 6)))))) (tRet (tC (.bl false))) tNext)
    (tRet (tCall sp_is_count_row [] E0 (tCons (tVar 1) (tCons (tCB (rLenQ K) (tCons (tVar 0) tNil)) tNil)))))

def N_wrong_in_table : List Str := ["value", "found", "index", "row"]

def t_wrong_in_table (K : PySem.W.Frag) (sp_is_row_like : Sp) (sp_total_by : Sp) : TS := (tSeq (tIfS (tOr (tNot (tB (tCB (rIsi K) (tCons (tVar 0) (tCons (tC (.ty "tuple")) tNil))))) (tNot (tTest (tChain oLe oLe (tC (.int 1)) (tCB (rLenQ K) (tCons (tVar 0) tNil)) (tC (.int 6)))))) (tRet (tLst (tCons (tC .non) tNil))) tNext)
    (tSeq (tAsg (tSl (rSlL K) (tLc (iEnumT K (tCons (tVar 0) tNil)) (gTup K 2 (gCons (gName 2) (gCons (gName 3) gNil))) (tNot (tB (tCall sp_is_row_like [] E0 (tCons (tOp (rIxT K) (tVar 0) (tC (.int 0))) (tCons (tVar 3) tNil))))) (tVar 2) [2, 3]) tNoPart (tPart (tC (.int 1)))) (gName 1))
    (tSeq (tIfS (tTest (tOp (rNeD K) (tVar 1) (tLst tNil))) (tRet (tVar 1)) tNext)
    (tRet (tIf (tTest (tOp oLe (tCall sp_total_by [] E0 (tCons (tVar 0) tNil)) (tC (.int 60)))) (tLst tNil) (tLst (tCons (tCB (rLenQ K) (tCons (tVar 0) tNil)) tNil)))))))

def N_total_by : List Str := ["table", "row"]

def t_total_by (K : PySem.W.Frag) : TS := (tRet (tCB (rSum K) (tCons (tLc (iTup K (tVar 0)) (gName 1) tYes (tCB (rSumT K) (tCons (tVar 1) tNil)) [1]) tNil)))

def N_firsts_of : List Str := ["table"]

def t_firsts_of (K : PySem.W.Frag) : TS := (tRet (tLstRg (tRg1 (tCB (rLenQ K) (tCons (tVar 0) tNil)))))

def N_seconds_of : List Str := ["table"]

def t_seconds_of (K : PySem.W.Frag) : TS := (tRet (tLstRg (tRg1 (tCB (rLenQ K) (tCons (tOp (rIxT K) (tVar 0) (tC (.int 0))) tNil)))))

def N_is_first : List Str := ["table", "value"]

def t_is_first (K : PySem.W.Frag) (sp_is_between : Sp) : TS := (tRet (tCall sp_is_between [] E0 (tCons (tVar 1) (tCons (tC (.int 0)) (tCons (tOp oSub (tCB (rLenQ K) (tCons (tVar 0) tNil)) (tC (.int 1))) tNil)))))

def N_is_second : List Str := ["table", "value"]

def t_is_second (K : PySem.W.Frag) (sp_is_between : Sp) : TS := (tRet (tCall sp_is_between [] E0 (tCons (tVar 1) (tCons (tC (.int 0)) (tCons (tOp oSub (tCB (rLenQ K) (tCons (tOp (rIxT K) (tVar 0) (tC (.int 0))) tNil)) (tC (.int 1))) tNil)))))

def N_persons_of : List Str := ["table", "firsts", "first", "second"]

def t_persons_of (K : PySem.W.Frag) (sp_firsts_of : Sp) (sp_seconds_of : Sp) : TS := (tSeq (tAsg (tLc (iList K (tCall sp_firsts_of [] E0 (tCons (tVar 0) tNil))) (gName 2) tYes (tTup (tCons (tC (.int 0)) (tCons (tVar 2) tNil))) [2]) (gName 1))
    (tRet (tOp rCat (tVar 1) (tLc (iList K (tCall sp_seconds_of [] E0 (tCons (tVar 0) tNil))) (gName 3) tYes (tTup (tCons (tC (.int 1)) (tCons (tVar 3) tNil))) [3]))))

def N_load_by : List Str := ["table", "person", "side", "index", "row"]

def t_load_by (K : PySem.W.Frag) : TS := (tSeq (tAsg (tVar 1) (gTup K 2 (gCons (gName 2) (gCons (gName 3) gNil))))
    (tRet (tIf (tTest (tOp rEq (tVar 2) (tC (.int 0)))) (tCB (rSumT K) (tCons (tOp (rIxT K) (tVar 0) (tVar 3)) tNil)) (tCB (rSum K) (tCons (tLc (iTup K (tVar 0)) (gName 4) tYes (tOp (rIxT K) (tVar 4) (tVar 3)) [4]) tNil)))))

def N_height_by : List Str := ["table", "person"]

def t_height_by (K : PySem.W.Frag) (sp_persons_of : Sp) (sp_load_by : Sp) : TS := (tRet (tCB (rMax K) (tCons (tLc (iList K (tCall sp_persons_of [] E0 (tCons (tVar 0) tNil))) (gName 1) tYes (tCall sp_load_by [] E0 (tCons (tVar 0) (tCons (tVar 1) tNil))) [1]) tNil)))

def N_pairs_of : List Str := ["table", "first", "second"]

def t_pairs_of (K : PySem.W.Frag) (sp_firsts_of : Sp) (sp_seconds_of : Sp) : TS := (tRet (tLc2 (iList K (tCall sp_firsts_of [] E0 (tCons (tVar 0) tNil))) (gName 1) tYes (iList K (tCall sp_seconds_of [] E0 (tCons (tVar 0) tNil))) (gName 2) tYes (tTup (tCons (tVar 1) (tCons (tVar 2) tNil))) [1, 2] [2]))

def N_meetings_by : List Str := ["table", "found", "first", "second"]

def t_meetings_by (K : PySem.W.Frag) (sp_pairs_of : Sp) : TS := (tSeq (tAsg (tLst tNil) (gName 1))
    (tSeq (tFor (iList K (tCall sp_pairs_of [] E0 (tCons (tVar 0) tNil))) (gTup K 2 (gCons (gName 2) (gCons (gName 3) gNil))) (tDrop (tBM K "list" rExtend (tVar 1) (tCons (tOp rRep (tLst (tCons (tTup (tCons (tVar 2) (tCons (tVar 3) tNil))) tNil)) (tOp (rIxT K) (tOp (rIxT K) (tVar 0) (tVar 2)) (tVar 3))) tNil))))
    (tRet (tCB (rTupQ K) (tCons (tVar 1) tNil)))))

def N_is_pair : List Str := ["table", "value"]

def t_is_pair (K : PySem.W.Frag) (sp_is_tuple_of_P : Sp) (sp_is_first : Sp) (sp_is_second : Sp) : TS := (tRet (tAndV (tCall sp_is_tuple_of_P [] E0 (tCons (tVar 1) (tCons (tC (.int 2)) tNil))) (tAndV (tCall sp_is_first [] E0 (tCons (tVar 0) (tCons (tOp (rIxT K) (tVar 1) (tC (.int 0))) tNil))) (tCall sp_is_second [] E0 (tCons (tVar 0) (tCons (tOp (rIxT K) (tVar 1) (tC (.int 1))) tNil))))))

def N_are_all_unlike : List Str := ["numbers", "number"]

def t_are_all_unlike (K : PySem.W.Frag) : TS := (tRet (tOp rEq (tCB rLenD (tCons (tDc (iList K (tVar 0)) (gName 1) tYes (tVar 1) (tC (.bl true)) [1]) tNil)) (tCB (rLenQ K) (tCons (tVar 0) tNil))))

def N_is_round_by : List Str := ["table", "value", "each", "first", "second"]

def t_is_round_by (K : PySem.W.Frag) (sp_is_pair : Sp) (sp_are_rising : Sp) (sp_are_all_unlike : Sp) : TS := (tSeq (tIfS (tOr (tNot (tB (tCB (rIsi K) (tCons (tVar 1) (tCons (tC (.ty "tuple")) tNil))))) (tOr (tNot (tB (tCB (rAll K) (tCons (tLc (iTup K (tVar 1)) (gName 2) tYes (tCall sp_is_pair [] E0 (tCons (tVar 0) (tCons (tVar 2) tNil))) [2]) tNil)))) (tNot (tB (tCall sp_are_rising [] E0 (tCons (tVar 1) tNil)))))) (tRet (tC (.bl false))) tNext)
    (tRet (tAndV (tCall sp_are_all_unlike [] E0 (tCons (tLc (iTup K (tVar 1)) (gTup K 2 (gCons (gName 3) (gCons (gName 4) gNil))) tYes (tVar 3) [3, 4]) tNil)) (tCall sp_are_all_unlike [] E0 (tCons (tLc (iTup K (tVar 1)) (gTup K 2 (gCons (gName 3) (gCons (gName 4) gNil))) tYes (tVar 4) [3, 4]) tNil)))))

def N_times_in : List Str := ["plan", "pair", "each"]

def t_times_in (K : PySem.W.Frag) : TS := (tRet (tCB (rLenQ K) (tCons (tLc (iTup K (tVar 0)) (gName 2) (tTest (tOp (rInT K false) (tVar 1) (tVar 2))) (tVar 2) [2]) tNil)))

def N_is_plan_by : List Str := ["table", "value", "each", "first", "second"]

def t_is_plan_by (K : PySem.W.Frag) (sp_is_round_by : Sp) (sp_pairs_of : Sp) (sp_times_in : Sp) : TS := (tSeq (tIfS (tOr (tNot (tB (tCB (rIsi K) (tCons (tVar 1) (tCons (tC (.ty "tuple")) tNil))))) (tNot (tB (tCB (rAll K) (tCons (tLc (iTup K (tVar 1)) (gName 2) tYes (tCall sp_is_round_by [] E0 (tCons (tVar 0) (tCons (tVar 2) tNil))) [2]) tNil))))) (tRet (tC (.bl false))) tNext)
    (tRet (tCB (rAll K) (tCons (tLc (iList K (tCall sp_pairs_of [] E0 (tCons (tVar 0) tNil))) (gTup K 2 (gCons (gName 3) (gCons (gName 4) gNil))) tYes (tOp rEq (tCall sp_times_in [] E0 (tCons (tVar 1) (tCons (tTup (tCons (tVar 3) (tCons (tVar 4) tNil))) tNil))) (tOp (rIxT K) (tOp (rIxT K) (tVar 0) (tVar 3)) (tVar 4))) [3, 4]) tNil))))

def N_check_table : List Str := ["value", "index"]

def t_check_table (K : PySem.W.Frag) (sp_wrong_in_table : Sp) : TS := (tFor (iList K (tCall sp_wrong_in_table [] E0 (tCons (tVar 0) tNil))) (gName 1) tNever)

def N_check_plan : List Str := ["table", "value"]

def t_check_plan (K : PySem.W.Frag) (sp_is_plan_by : Sp) : TS := (tIfS (tNot (tB (tCall sp_is_plan_by [] E0 (tCons (tVar 0) (tCons (tVar 1) tNil))))) tNever tNext)

def N_check_times : List Str := ["value", "low", "high"]

def t_check_times (K : PySem.W.Frag) (sp_is_between : Sp) : TS := (tIfS (tNot (tB (tCall sp_is_between [] E0 (tCons (tVar 0) (tCons (tVar 1) (tCons (tVar 2) tNil)))))) tNever tNext)

def N_is_plan : List Str := ["table", "value"]

def t_is_plan (K : PySem.W.Frag) (sp_check_table : Sp) (sp_is_plan_by : Sp) : TS := (tSeq (tDrop (tCall sp_check_table [] E0 (tCons (tVar 0) tNil)))
    (tRet (tCall sp_is_plan_by [] E0 (tCons (tVar 0) (tCons (tVar 1) tNil)))))

def N_check_planned : List Str := ["table", "plan"]

def t_check_planned (K : PySem.W.Frag) (sp_check_table : Sp) (sp_check_plan : Sp) : TS := (tSeq (tDrop (tCall sp_check_table [] E0 (tCons (tVar 0) tNil)))
    (tDrop (tCall sp_check_plan [] E0 (tCons (tVar 0) (tCons (tVar 1) tNil)))))

def N_check_two : List Str := ["table", "plan", "one", "two"]

def t_check_two (K : PySem.W.Frag) (sp_check_planned : Sp) (sp_check_times : Sp) : TS := (tSeq (tDrop (tCall sp_check_planned [] E0 (tCons (tVar 0) (tCons (tVar 1) tNil))))
    (tSeq (tDrop (tCall sp_check_times [] E0 (tCons (tVar 2) (tCons (tC (.int 0)) (tCons (tOp oSub (tCB (rLenQ K) (tCons (tVar 1) tNil)) (tC (.int 1))) tNil)))))
    (tSeq (tDrop (tCall sp_check_times [] E0 (tCons (tVar 3) (tCons (tC (.int 0)) (tCons (tOp oSub (tCB (rLenQ K) (tCons (tVar 1) tNil)) (tC (.int 1))) tNil)))))
    (tIfS (tTest (tOp rEq (tVar 2) (tVar 3))) tNever tNext))))

def N_chains : List Str := ["table", "plan", "one", "two"]

def t_chains (K : PySem.W.Frag) (sp_check_two : Sp) (sp_chains_by : Sp) : TS := (tSeq (tDrop (tCall sp_check_two [] E0 (tCons (tVar 0) (tCons (tVar 1) (tCons (tVar 2) (tCons (tVar 3) tNil))))))
    (tRet (tCall sp_chains_by [] E0 (tCons (tVar 1) (tCons (tVar 2) (tCons (tVar 3) tNil))))))

def N_is_chain : List Str := ["plan", "one", "two", "value", "chain"]

def t_is_chain (K : PySem.W.Frag) (sp_chains_by : Sp) : TS := (tRet (tCB (rAny K) (tCons (tLc (iTup K (tCall sp_chains_by [] E0 (tCons (tVar 0) (tCons (tVar 1) (tCons (tVar 2) tNil))))) (gName 4) tYes (tOp rEq (tCB (rRepr K) (tCons (tVar 3) tNil)) (tCB (rRepr K) (tCons (tVar 4) tNil))) [4]) tNil)))

def N_exchanged : List Str := ["table", "plan", "one", "two", "chain"]

def t_exchanged (K : PySem.W.Frag) (sp_check_two : Sp) (sp_is_chain : Sp) (sp_exchanged_by : Sp) : TS := (tSeq (tDrop (tCall sp_check_two [] E0 (tCons (tVar 0) (tCons (tVar 1) (tCons (tVar 2) (tCons (tVar 3) tNil))))))
    (tSeq (tIfS (tNot (tB (tCall sp_is_chain [] E0 (tCons (tVar 1) (tCons (tVar 2) (tCons (tVar 3) (tCons (tVar 4) tNil))))))) tNever tNext)
    (tRet (tCall sp_exchanged_by [] E0 (tCons (tVar 1) (tCons (tVar 2) (tCons (tVar 3) (tCons (tVar 4) tNil))))))))

def N_without_own : List Str := ["ways", "found", "marks", "many", "cleared", "mark"]

def t_without_own (K : PySem.W.Frag) : TS := (tSeq (tAsg tDNewT (gName 1))
    (tSeq (tLock (tFor (iItemsT (tVar 0)) (gTup K 2 (gCons (gName 2) (gCons (gName 3) gNil))) (tSeq (tAsg (tCB (rTupQ K) (tCons (tCB (rSortedI K) (tCons (tLc (iTup K (tVar 2)) (gName 5) tYes (tOp oAnd (tVar 5) (tOp oSub (tC (.int 64)) (tC (.int 1)))) [5]) tNil)) tNil)) (gName 4))
    (sDPut (tVar 1) (tVar 4) (tOp oAdd (tDGet2 (tVar 1) (tVar 4) (tC (.int 0))) (tVar 3))))))
    (tRet (tVar 1))))

def N_laid_into : List Str := ["marks", "index", "second"]

def t_laid_into (K : PySem.W.Frag) : TS := (tRet (tCB (rTupQ K) (tCons (tCB (rSortedI K) (tCons (tLst (tStar K (tSl (rSlA K) (tVar 0) tNoPart (tPart (tVar 1))) (tCons (tOp oOr (tOp oOr (tOp (rIxT K) (tVar 0) (tVar 1)) (tOp oShl (tC (.int 1)) (tVar 2))) (tC (.int 64))) (tStar K (tSl (rSlA K) (tVar 0) (tPart (tOp oAdd (tVar 1) (tC (.int 1)))) tNoPart) tNil)))) tNil)) tNil)))

def N_with_second : List Str := ["ways", "second", "found", "marks", "many", "index", "mark", "more"]

def t_with_second (K : PySem.W.Frag) (sp_laid_into : Sp) : TS := (tSeq (tAsg tDNewT (gName 2))
    (tSeq (tLock (tFor (iItemsT (tVar 0)) (gTup K 2 (gCons (gName 3) (gCons (gName 4) gNil))) (tFor (iEnumT K (tCons (tVar 3) tNil)) (gTup K 2 (gCons (gName 5) (gCons (gName 6) gNil))) (tIfS (tTest (tOp rEq (tOp oAnd (tVar 6) (tOp oOr (tOp oShl (tC (.int 1)) (tVar 1)) (tC (.int 64)))) (tC (.int 0)))) (tSeq (tAsg (tCall sp_laid_into [] E0 (tCons (tVar 3) (tCons (tVar 5) (tCons (tVar 1) tNil)))) (gName 7))
    (sDPut (tVar 2) (tVar 7) (tOp oAdd (tDGet2 (tVar 2) (tVar 7) (tC (.int 0))) (tVar 4)))) tNext))))
    (tRet (tVar 2))))

def N_orders_of : List Str := ["table", "found", "first", "second"]

def t_orders_of (K : PySem.W.Frag) (sp_pairs_of : Sp) : TS := (tSeq (tAsg (tC (.int 1)) (gName 1))
    (tSeq (tFor (iList K (tCall sp_pairs_of [] E0 (tCons (tVar 0) tNil))) (gTup K 2 (gCons (gName 2) (gCons (gName 3) gNil))) (tAsg (tOp oMul (tVar 1) (tFact (tOp (rIxT K) (tOp (rIxT K) (tVar 0) (tVar 2)) (tVar 3)))) (gName 1)))
    (tRet (tVar 1))))

def N_plan_count_by : List Str := ["table", "times", "ways", "last", "first", "second"]

def t_plan_count_by (K : PySem.W.Frag) (sp_meetings_by : Sp) (sp_without_own : Sp) (sp_with_second : Sp) (sp_orders_of : Sp) : TS := (tSeq (tPar 2 3 (tCons (tDisp1T (tOp (rRepT K) (tTup (tCons (tC (.int 0)) tNil)) (tVar 1)) (tC (.int 1))) (tCons (tC (.int 0)) tNil)))
    (tSeq (tFor (iTup K (tCall sp_meetings_by [] E0 (tCons (tVar 0) tNil))) (gTup K 2 (gCons (gName 4) (gCons (gName 5) gNil))) (tSeq (tIfS (tTest (tOp rNe (tVar 4) (tVar 3))) (tPar 2 3 (tCons (tCall sp_without_own [] E0 (tCons (tVar 2) tNil)) (tCons (tVar 4) tNil))) tNext)
    (tAsg (tCall sp_with_second [] E0 (tCons (tVar 2) (tCons (tVar 5) tNil))) (gName 2))))
    (tRet (tOp oDiv (tSumValsT (tVar 2)) (tCall sp_orders_of [] E0 (tCons (tVar 0) tNil))))))

def N_has_person : List Str := ["each", "pair", "first", "second"]

def t_has_person (K : PySem.W.Frag) : TS := (tRet (tCB (rAny K) (tCons (tLc (iTup K (tVar 0)) (gTup K 2 (gCons (gName 2) (gCons (gName 3) gNil))) tYes (tOrV (tOp rEq (tOp (rIxT K) (tVar 1) (tC (.int 0))) (tVar 2)) (tOp rEq (tOp (rIxT K) (tVar 1) (tC (.int 1))) (tVar 3))) [2, 3]) tNil)))

def N_laid_plan : List Str := ["plan", "index", "pair"]

def t_laid_plan (K : PySem.W.Frag) : TS := (tRet (tOp (rCatA K) (tOp (rCatA K) (tSl (rSlA K) (tVar 0) tNoPart (tPart (tVar 1))) (tTup (tCons (tOp (rCatA K) (tOp (rIxT K) (tVar 0) (tVar 1)) (tTup (tCons (tVar 2) tNil))) tNil))) (tSl (rSlA K) (tVar 0) (tPart (tOp oAdd (tVar 1) (tC (.int 1)))) tNoPart)))

def N_plans_with : List Str := ["found", "pair", "longer", "plan", "last", "places", "index"]

def t_plans_with (K : PySem.W.Frag) (sp_has_person : Sp) (sp_laid_plan : Sp) : TS := (tSeq (tAsg (tLst tNil) (gName 2))
    (tSeq (tFor (iList K (tVar 0)) (gTup K 2 (gCons (gName 3) (gCons (gName 4) gNil))) (tSeq (tAsg (tLc (iRng2 (tCons (tOp oAdd (tVar 4) (tC (.int 1))) (tCons (tCB (rLenQ K) (tCons (tVar 3) tNil)) tNil))) (gName 6) (tNot (tB (tCall sp_has_person [] E0 (tCons (tOp (rIxT K) (tVar 3) (tVar 6)) (tCons (tVar 1) tNil))))) (tVar 6) [6]) (gName 5))
    (tDrop (tBM K "list" rExtend (tVar 2) (tCons (tLc (iList K (tVar 5)) (gName 6) tYes (tTup (tCons (tCall sp_laid_plan [] E0 (tCons (tVar 3) (tCons (tVar 6) (tCons (tVar 1) tNil)))) (tCons (tVar 6) tNil))) [6]) tNil)))))
    (tRet (tVar 2))))

def N_all_plans_by : List Str := ["table", "times", "found", "first", "second", "laid", "plan", "_"]

def t_all_plans_by (K : PySem.W.Frag) (sp_pairs_of : Sp) (sp_plans_with : Sp) : TS := (tSeq (tAsg (tLst (tCons (tOp (rRepT K) (tTup (tCons (tTup tNil) tNil)) (tVar 1)) tNil)) (gName 2))
    (tSeq (tFor (iList K (tCall sp_pairs_of [] E0 (tCons (tVar 0) tNil))) (gTup K 2 (gCons (gName 3) (gCons (gName 4) gNil))) (tSeq (tAsg (tLc (iList K (tVar 2)) (gName 6) tYes (tTup (tCons (tVar 6) (tCons (tUn oNeg (tC (.int 1))) tNil))) [6]) (gName 5))
    (tSeq (tFor (iRng1 (tCons (tOp (rIxT K) (tOp (rIxT K) (tVar 0) (tVar 3)) (tVar 4)) tNil)) (gName 7) (tAsg (tCall sp_plans_with [] E0 (tCons (tVar 5) (tCons (tTup (tCons (tVar 3) (tCons (tVar 4) tNil))) tNil))) (gName 5)))
    (tAsg (tLc (iList K (tVar 5)) (gTup K 2 (gCons (gName 6) (gCons (gName 7) gNil))) tYes (tVar 6) [6, 7]) (gName 2)))))
    (tRet (tCB (rTupQ K) (tCons (tCB (rSortD K) (tCons (tVar 2) tNil)) tNil)))))

def N_check_few : List Str := ["table"]

def t_check_few (K : PySem.W.Frag) (sp_total_by : Sp) : TS := (tIfS (tTest (tOp oGt (tCall sp_total_by [] E0 (tCons (tVar 0) tNil)) (tC (.int 12)))) tNever tNext)

def N_plan_count : List Str := ["table", "times"]

def t_plan_count (K : PySem.W.Frag) (sp_check_table : Sp) (sp_check_times : Sp) (sp_check_few : Sp) (sp_plan_count_by : Sp) : TS := (tSeq (tDrop (tCall sp_check_table [] E0 (tCons (tVar 0) tNil)))
    (tSeq (tDrop (tCall sp_check_times [] E0 (tCons (tVar 1) (tCons (tC (.int 0)) (tCons (tC (.int 8)) tNil)))))
    (tSeq (tDrop (tCall sp_check_few [] E0 (tCons (tVar 0) tNil)))
    (tRet (tCall sp_plan_count_by [] E0 (tCons (tVar 0) (tCons (tVar 1) tNil)))))))

def N_all_plans : List Str := ["table", "times"]

def t_all_plans (K : PySem.W.Frag) (sp_plan_count : Sp) (sp_all_plans_by : Sp) : TS := (tSeq (tIfS (tTest (tOp oGt (tCall sp_plan_count [] E0 (tCons (tVar 0) (tCons (tVar 1) tNil))) (tC (.int 200)))) tNever tNext)
    (tRet (tCall sp_all_plans_by [] E0 (tCons (tVar 0) (tCons (tVar 1) tNil)))))

def N_height : List Str := ["table"]

def t_height (K : PySem.W.Frag) (sp_check_table : Sp) (sp_height_by : Sp) : TS := (tSeq (tDrop (tCall sp_check_table [] E0 (tCons (tVar 0) tNil)))
    (tRet (tCall sp_height_by [] E0 (tCons (tVar 0) tNil))))

def N__law_well : List Str := ["script", "lap", "own", "stir", "each"]

def t__law_well (K : PySem.W.Frag) : TS := (tSeq (tAsg (tIf (tTest (tOp oLt (tVar 1) (tCB (rLenQ K) (tCons (tVar 0) tNil)))) (tCB rIntQ (tCons (tOp (rIxL K) (tVar 0) (tVar 1)) tNil)) (tC (.int 0))) (gName 2))
    (tSeq (tAsg (tOp oAdd (tC (.int 7919)) (tOp oMul (tC (.int 104729)) (tVar 1))) (gName 3))
    (tSeq (tFor (iList K (tOp rCat (tSl (rSlL K) (tVar 0) tNoPart (tPart (tC (.int 6)))) (tLst (tCons (tVar 2) tNil)))) (gName 4) (tAsg (tOp oMod (tCB rIntQ (tCons (tOp oAdd (tOp oAdd (tOp oMul (tVar 3) (tC (.int 48271))) (tOp oMod (tCB rIntQ (tCons (tVar 4) tNil)) (tC (.int 2147483629)))) (tC (.int 17))) tNil)) (tC (.int 2147483647))) (gName 3)))
    (tRet (tLst (tCons (tIf (tOr (tTest (tOp oLt (tVar 2) (tC (.int 0)))) (tTest (tOp oGe (tVar 2) (tOp oPow (tC (.int 10)) (tC (.int 18)))))) (tCB rAbsQ (tCons (tVar 2) tNil)) (tC (.int 0))) (tCons (tVar 3) (tCons (tC (.int 0)) tNil))))))))

def N__law_take : List Str := ["well", "many", "told", "span"]

def t__law_take (K : PySem.W.Frag) : TS := (tSeq (tIfS (tTest (tOp oGt (tOp (rIxL K) (tVar 0) (tC (.int 0))) (tC (.int 0)))) (tSeq (tAsg (tCB rDivmodQ (tCons (tOp (rIxL K) (tVar 0) (tC (.int 0))) (tCons (tVar 1) tNil))) (gTup K 2 (gCons (gSub (tVar 0) (tC (.int 0)) rSetL) (gCons (gName 2) gNil))))
    (tRet (tVar 2))) tNext)
    (tSeq (tAsg (tTup (tCons (tC (.int 0)) (tCons (tC (.int 1)) tNil))) (gTup K 2 (gCons (gName 2) (gCons (gName 3) gNil))))
    (tSeq (tWhile (tTest (tOp oLt (tVar 3) (tOp oMul (tC (.int 65536)) (tVar 1)))) (tSeq (tAsg (tOp oAdd (tOp (rIxL K) (tVar 0) (tC (.int 2))) (tC (.int 1))) (gSub (tVar 0) (tC (.int 2)) rSetL))
    (tSeq (tAsg (tOp oMod (tCB rIntQ (tCons (tOp oAdd (tOp oAdd (tOp oMul (tOp (rIxL K) (tVar 0) (tC (.int 1))) (tC (.int 69621))) (tOp oMul (tOp (rIxL K) (tVar 0) (tC (.int 2))) (tC (.int 40692)))) (tC (.int 5))) tNil)) (tC (.int 2147483629))) (gSub (tVar 0) (tC (.int 1)) rSetL))
    (tPar 2 3 (tCons (tOp oAdd (tOp oMul (tVar 2) (tC (.int 65536))) (tOp oMod (tCB rIntQ (tCons (tOp oDiv (tOp (rIxL K) (tVar 0) (tC (.int 1))) (tC (.int 64))) tNil)) (tC (.int 65536)))) (tCons (tOp oMul (tVar 3) (tC (.int 65536))) tNil))))))
    (tRet (tOp oMod (tCB rIntQ (tCons (tVar 2) tNil)) (tVar 1))))))

def N__law_same : List Str := ["told", "due", "k"]

def t__law_same (K : PySem.W.Frag) : TS := (tSeq (tIfS (tOr (tTest (tOp rNe (tCB (rIsi K) (tCons (tVar 1) (tCons (tC (.ty "tuple")) tNil))) (tCB (rIsi K) (tCons (tVar 0) (tCons (tC (.ty "tuple")) tNil))))) (tTest (tOp rNe (tCB (rIsi K) (tCons (tVar 1) (tCons (tC (.ty "list")) tNil))) (tCB (rIsi K) (tCons (tVar 0) (tCons (tC (.ty "list")) tNil)))))) (tRet (tC (.bl false))) tNext)
    (tSeq (tIfS (tB (tCB (rIsiT K) (tCons (tVar 1) (tCons (tTup (tCons (tC (.ty "tuple")) (tCons (tC (.ty "list")) tNil))) tNil)))) tNever tNext)
    (tSeq (tIfS (tOr (tB (tCB (rIsi K) (tCons (tVar 1) (tCons (tC (.ty "bool")) tNil)))) (tB (tCB (rIsi K) (tCons (tVar 0) (tCons (tC (.ty "bool")) tNil))))) (tRet (tAndV (tCB (rIsi K) (tCons (tVar 1) (tCons (tC (.ty "bool")) tNil))) (tAndV (tCB (rIsi K) (tCons (tVar 0) (tCons (tC (.ty "bool")) tNil))) (tOp rEq (tVar 1) (tVar 0))))) tNext)
    (tSeq (tIfS (tOr (tB (tCB (rIsi K) (tCons (tVar 1) (tCons (tC (.ty "int")) tNil)))) (tB (tCB (rIsi K) (tCons (tVar 0) (tCons (tC (.ty "int")) tNil))))) (tRet (tAndV (tCB (rIsi K) (tCons (tVar 1) (tCons (tC (.ty "int")) tNil))) (tAndV (tCB (rIsi K) (tCons (tVar 0) (tCons (tC (.ty "int")) tNil))) (tOp rEq (tVar 1) (tVar 0))))) tNext)
    (tSeq (tIfS (tOr (tB (tCB (rIsi K) (tCons (tVar 1) (tCons (tC (.ty "str")) tNil)))) (tB (tCB (rIsi K) (tCons (tVar 0) (tCons (tC (.ty "str")) tNil))))) (tRet (tAndV (tCB (rIsi K) (tCons (tVar 1) (tCons (tC (.ty "str")) tNil))) (tAndV (tCB (rIsi K) (tCons (tVar 0) (tCons (tC (.ty "str")) tNil))) (tOp rEq (tVar 1) (tVar 0))))) tNext)
    (tSeq (tIfS (tOr (tB (tIsN (tVar 1))) (tB (tIsN (tVar 0)))) (tRet (tAndV (tIsN (tVar 1)) (tIsN (tVar 0)))) tNext)
    (tRet (tAndV (tCB (rIsi K) (tCons (tVar 1) (tCons (tC (.ty "dict")) tNil))) (tAndV (tCB (rIsi K) (tCons (tVar 0) (tCons (tC (.ty "dict")) tNil))) (tChain rEq rEq (tCB (rLenQ K) (tCons (tVar 0) tNil)) (tCB (rLenQ K) (tCons (tVar 1) tNil)) (tC (.int 0))))))))))))

def N__law_whole : List Str := ["value"]

def t__law_whole (K : PySem.W.Frag) : TS := (tRet (tAndV (tCB (rIsi K) (tCons (tVar 0) (tCons (tC (.ty "int")) tNil))) (tNotV (tCB (rIsi K) (tCons (tVar 0) (tCons (tC (.ty "bool")) tNil))))))

def N__law_mixed : List Str := ["well", "many", "left", "found", "k"]

def t__law_mixed (K : PySem.W.Frag) (sp__law_take : Sp) : TS := (tSeq (tPar 2 3 (tCons (tLc (iRng1 (tCons (tVar 1) tNil)) (gName 4) tYes (tVar 4) [4]) (tCons (tLst tNil) tNil)))
    (tSeq (tFor (iRng1 (tCons (tVar 1) tNil)) (gName 4) (tDrop (tBM K "list" rAppend (tVar 3) (tCons (tBM K "list" rPopAt (tVar 2) (tCons (tCall sp__law_take [] E0 (tCons (tVar 0) (tCons (tCB (rLenQ K) (tCons (tVar 2) tNil)) tNil))) tNil)) tNil))))
    (tRet (tCB (rTupQ K) (tCons (tVar 3) tNil)))))

def N__law_pairs : List Str := ["table", "found", "i", "j"]

def t__law_pairs (K : PySem.W.Frag) : TS := (tSeq (tAsg (tLst tNil) (gName 1))
    (tSeq (tFor (iRng1 (tCons (tCB (rLenQ K) (tCons (tVar 0) tNil)) tNil)) (gName 2) (tFor (iRng1 (tCons (tCB (rLenQ K) (tCons (tOp (rIxT K) (tVar 0) (tC (.int 0))) tNil)) tNil)) (gName 3) (tAsg (tOp rCat (tVar 1) (tOp rRep (tLst (tCons (tTup (tCons (tVar 2) (tCons (tVar 3) tNil))) tNil)) (tOp (rIxT K) (tOp (rIxT K) (tVar 0) (tVar 2)) (tVar 3)))) (gName 1))))
    (tRet (tVar 1))))

def N__law_is_round : List Str := ["value", "many", "more", "each", "i", "j", "k", "firsts", "seconds"]

def t__law_is_round (K : PySem.W.Frag) (sp__law_whole : Sp) : TS := (tSeq (tIfS (tOr (tNot (tB (tCB (rIsi K) (tCons (tVar 0) (tCons (tC (.ty "tuple")) tNil))))) (tNot (tB (tCB (rAll K) (tCons (tLc (iTup K (tVar 0)) (gName 3) tYes (tAndV (tCB (rIsi K) (tCons (tVar 3) (tCons (tC (.ty "tuple")) tNil))) (tAndV (tOp rEq (tCB (rLenQ K) (tCons (tVar 3) tNil)) (tC (.int 2))) (tAndV (tCall sp__law_whole [] E0 (tCons (tOp (rIxT K) (tVar 3) (tC (.int 0))) tNil)) (tCall sp__law_whole [] E0 (tCons (tOp (rIxT K) (tVar 3) (tC (.int 1))) tNil))))) [3]) tNil))))) (tRet (tC (.bl false))) tNext)
    (tSeq (tIfS (tOr (tNot (tB (tCB (rAll K) (tCons (tLc (iTup K (tVar 0)) (gTup K 2 (gCons (gName 4) (gCons (gName 5) gNil))) tYes (tAndV (tChain oLe oLt (tC (.int 0)) (tVar 4) (tVar 1)) (tChain oLe oLt (tC (.int 0)) (tVar 5) (tVar 2))) [4, 5]) tNil)))) (tB (tCB (rAny K) (tCons (tLc (iRng1 (tCons (tOp oSub (tCB (rLenQ K) (tCons (tVar 0) tNil)) (tC (.int 1))) tNil)) (gName 6) tYes (tOp (rGeT K) (tOp (rIxT K) (tVar 0) (tVar 6)) (tOp (rIxT K) (tVar 0) (tOp oAdd (tVar 6) (tC (.int 1))))) [6]) tNil)))) (tRet (tC (.bl false))) tNext)
    (tSeq (tAsg (tTup (tCons (tLc (iTup K (tVar 0)) (gTup K 2 (gCons (gName 4) (gCons (gName 5) gNil))) tYes (tVar 4) [4, 5]) (tCons (tLc (iTup K (tVar 0)) (gTup K 2 (gCons (gName 4) (gCons (gName 5) gNil))) tYes (tVar 5) [4, 5]) tNil))) (gTup K 2 (gCons (gName 7) (gCons (gName 8) gNil))))
    (tRet (tAndV (tCB (rAll K) (tCons (tLc (iList K (tVar 7)) (gName 4) tYes (tOp rEq (tBM K "list" (rCntI K) (tVar 7) (tCons (tVar 4) tNil)) (tC (.int 1))) [4]) tNil)) (tCB (rAll K) (tCons (tLc (iList K (tVar 8)) (gName 5) tYes (tOp rEq (tBM K "list" (rCntI K) (tVar 8) (tCons (tVar 5) tNil)) (tC (.int 1))) [5]) tNil)))))))

def N__law_is_plan : List Str := ["table", "value", "rounds", "each", "found"]

def t__law_is_plan (K : PySem.W.Frag) (sp__law_is_round : Sp) (sp__law_pairs : Sp) : TS := (tSeq (tIfS (tOr (tNot (tB (tCB (rIsi K) (tCons (tVar 1) (tCons (tC (.ty "tuple")) tNil))))) (tOr (tTest (tOp rNe (tCB (rLenQ K) (tCons (tVar 1) tNil)) (tVar 2))) (tNot (tB (tCB (rAll K) (tCons (tLc (iTup K (tVar 1)) (gName 3) tYes (tCall sp__law_is_round [] E0 (tCons (tVar 3) (tCons (tCB (rLenQ K) (tCons (tVar 0) tNil)) (tCons (tCB (rLenQ K) (tCons (tOp (rIxT K) (tVar 0) (tC (.int 0))) tNil)) tNil)))) [3]) tNil)))))) (tRet (tC (.bl false))) tNext)
    (tSeq (tAsg (tLst tNil) (gName 4))
    (tSeq (tFor (iTup K (tVar 1)) (gName 3) (tAsg (tOp rCat (tVar 4) (tCB (rLstQ K) (tCons (tVar 3) tNil))) (gName 4)))
    (tRet (tOp (rEqD K) (tCB (rSortD K) (tCons (tVar 4) tNil)) (tCall sp__law_pairs [] E0 (tCons (tVar 0) tNil)))))))

def N__law_wires_2 : List Str := ["setting", "lines", "half", "columns", "upper", "column", "lower", "ways", "found", "line", "at", "side", "there"]

def t__law_wires_2 (K : PySem.W.Frag) : TS := (tSeq (tIfS (tTest (tOp rEq (tVar 1) (tC (.int 2)))) (tRet (tTup (tCons (tOp (rIxT K) (tOp (rIxT K) (tVar 0) (tC (.int 0))) (tC (.int 0))) (tCons (tOp oSub (tC (.int 1)) (tOp (rIxT K) (tOp (rIxT K) (tVar 0) (tC (.int 0))) (tC (.int 0)))) tNil)))) tNext)
    (tSeq tNever
    (tSeq tNever
    (tSeq tNever
    (tSeq tNever
    (tSeq tNever
    (tSeq tNever
    tNever)))))))

def N__law_wires : List Str := ["setting", "lines", "half", "columns", "upper", "column", "lower", "ways", "found", "line", "at", "side", "there"]

def t__law_wires (K : PySem.W.Frag) (sp__law_wires_2 : Sp) (sp__law_four : Sp) : TS := (tSeq (tIfS (tTest (tOp rEq (tVar 1) (tC (.int 2)))) (tRet (tTup (tCons (tOp (rIxT K) (tOp (rIxT K) (tVar 0) (tC (.int 0))) (tC (.int 0))) (tCons (tOp oSub (tC (.int 1)) (tOp (rIxT K) (tOp (rIxT K) (tVar 0) (tC (.int 0))) (tC (.int 0)))) tNil)))) tNext)
    (tSeq (tAsg (tTup (tCons (tOp oDiv (tVar 1) (tC (.int 2))) (tCons (tCB (rLenQ K) (tCons (tVar 0) tNil)) tNil))) (gTup K 2 (gCons (gName 2) (gCons (gName 3) gNil))))
    (tSeq (tAsg (tCB (rTupQ K) (tCons (tLc (iTup K (tSl (rSlA K) (tVar 0) (tPart (tC (.int 1))) (tPart (tOp oSub (tVar 3) (tC (.int 1)))))) (gName 5) tYes (tSl (rSlA K) (tVar 5) tNoPart (tPart (tOp oDiv (tVar 2) (tC (.int 2))))) [5]) tNil)) (gName 4))
    (tSeq (tAsg (tCB (rTupQ K) (tCons (tLc (iTup K (tSl (rSlA K) (tVar 0) (tPart (tC (.int 1))) (tPart (tOp oSub (tVar 3) (tC (.int 1)))))) (gName 5) tYes (tSl (rSlA K) (tVar 5) (tPart (tOp oDiv (tVar 2) (tC (.int 2)))) tNoPart) [5]) tNil)) (gName 6))
    (tSeq (tIfS (tTest (tOp rEq (tVar 2) (tC (.int 2)))) (tAsg (tTup (tCons (tCall sp__law_wires_2 [] E0 (tCons (tVar 4) (tCons (tC (.int 2)) tNil))) (tCons (tCall sp__law_wires_2 [] E0 (tCons (tVar 6) (tCons (tC (.int 2)) tNil))) tNil))) (gName 7)) (tAsg (tTup (tCons (tCall sp__law_four [] E0 (tCons (tVar 4) tNil)) (tCons (tCall sp__law_four [] E0 (tCons (tVar 6) tNil)) tNil))) (gName 7)))
    (tSeq (tAsg (tLst tNil) (gName 8))
    (tSeq (tFor (iRng1 (tCons (tVar 1) tNil)) (gName 9) (tSeq (tPar 10 11 (tCons (tOp oDiv (tVar 9) (tC (.int 2))) (tCons (tOp oMod (tCB rIntQ (tCons (tOp oAdd (tVar 9) (tOp (rIxT K) (tOp (rIxT K) (tVar 0) (tC (.int 0))) (tOp oDiv (tVar 9) (tC (.int 2))))) tNil)) (tC (.int 2))) tNil)))
    (tSeq (tAsg (tOp (rIxT K) (tOp (rIxT K) (tVar 7) (tVar 11)) (tVar 10)) (gName 12))
    (tDrop (tBM K "list" rAppend (tVar 8) (tCons (tOp oAdd (tOp oMul (tC (.int 2)) (tVar 12)) (tOp oMod (tCB rIntQ (tCons (tOp oAdd (tVar 11) (tOp (rIxT K) (tOp (rIxT K) (tVar 0) (tOp oSub (tVar 3) (tC (.int 1)))) (tVar 12))) tNil)) (tC (.int 2)))) tNil))))))
    (tRet (tCB (rTupQ K) (tCons (tVar 8) tNil))))))))))

def N__law_four : List Str := ["setting", "found", "line", "at", "side", "there"]

def t__law_four (K : PySem.W.Frag) : TS := (tSeq (tAsg (tLst tNil) (gName 1))
    (tSeq (tFor (iRng1 (tCons (tC (.int 4)) tNil)) (gName 2) (tSeq (tPar 3 4 (tCons (tOp oDiv (tVar 2) (tC (.int 2))) (tCons (tOp oMod (tCB rIntQ (tCons (tOp oAdd (tVar 2) (tOp (rIxT K) (tOp (rIxT K) (tVar 0) (tC (.int 0))) (tOp oDiv (tVar 2) (tC (.int 2))))) tNil)) (tC (.int 2))) tNil)))
    (tSeq (tAsg (tOp oMod (tCB rIntQ (tCons (tOp oAdd (tVar 3) (tOp (rIxT K) (tOp (rIxT K) (tVar 0) (tC (.int 1))) (tVar 4))) tNil)) (tC (.int 2))) (gName 5))
    (tDrop (tBM K "list" rAppend (tVar 1) (tCons (tOp oAdd (tOp oMul (tC (.int 2)) (tVar 5)) (tOp oMod (tCB rIntQ (tCons (tOp oAdd (tVar 4) (tOp (rIxT K) (tOp (rIxT K) (tVar 0) (tC (.int 2))) (tVar 5))) tNil)) (tC (.int 2)))) tNil))))))
    (tRet (tCB (rTupQ K) (tCons (tVar 1) tNil)))))

def N__law_setting : List Str := ["well", "lines", "columns", "k", "c"]

def t__law_setting (K : PySem.W.Frag) (sp__law_take : Sp) : TS := (tSeq (tAsg (tDGet (tDisp [((tC (.int 2)), (tC (.int 1))), ((tC (.int 4)), (tC (.int 3))), ((tC (.int 8)), (tC (.int 5)))]) (tVar 1)) (gName 2))
    (tRet (tCB (rTupQ K) (tCons (tLc (iRng1 (tCons (tVar 2) tNil)) (gName 4) tYes (tCB (rTupQ K) (tCons (tLc (iRng1 (tCons (tOp oDiv (tVar 1) (tC (.int 2))) tNil)) (gName 3) tYes (tCall sp__law_take [] E0 (tCons (tVar 0) (tCons (tC (.int 2)) tNil))) [3]) tNil)) [4]) tNil))))

def N__law_rounds_of : List Str := ["setting", "order", "found", "line", "side"]

def t__law_rounds_of (K : PySem.W.Frag) : TS := (tSeq (tAsg (tLst (tCons (tLst tNil) (tCons (tLst tNil) tNil))) (gName 2))
    (tSeq (tFor (iRng1 (tCons (tCB (rLenQ K) (tCons (tVar 1) tNil)) tNil)) (gName 3) (tSeq (tAsg (tOp oMod (tCB rIntQ (tCons (tOp oAdd (tVar 3) (tOp (rIxT K) (tOp (rIxT K) (tVar 0) (tC (.int 0))) (tOp oDiv (tVar 3) (tC (.int 2))))) tNil)) (tC (.int 2))) (gName 4))
    (tDrop (tBM K "list" rAppend (tOp (rIxL K) (tVar 2) (tVar 4)) (tCons (tTup (tCons (tOp oDiv (tVar 3) (tC (.int 2))) (tCons (tOp oDiv (tOp (rIxT K) (tVar 1) (tVar 3)) (tC (.int 2))) tNil))) tNil)))))
    (tRet (tTup (tCons (tCB (rTupQ K) (tCons (tCB (rSortD K) (tCons (tOp (rIxL K) (tVar 2) (tC (.int 0))) tNil)) tNil)) (tCons (tCB (rTupQ K) (tCons (tCB (rSortD K) (tCons (tOp (rIxL K) (tVar 2) (tC (.int 1))) tNil)) tNil)) tNil))))))

def N__law_table_of : List Str := ["order", "half", "rows", "k", "line", "row"]

def t__law_table_of (K : PySem.W.Frag) : TS := (tSeq (tAsg (tOp oDiv (tCB (rLenQ K) (tCons (tVar 0) tNil)) (tC (.int 2))) (gName 1))
    (tSeq (tAsg (tLc (iRng1 (tCons (tVar 1) tNil)) (gName 3) tYes (tOp rRep (tLst (tCons (tC (.int 0)) tNil)) (tVar 1)) [3]) (gName 2))
    (tSeq (tFor (iRng1 (tCons (tCB (rLenQ K) (tCons (tVar 0) tNil)) tNil)) (gName 4) (tAsg (tOp oAdd (tOp (rIxL K) (tOp (rIxL K) (tVar 2) (tOp oDiv (tVar 4) (tC (.int 2)))) (tOp oDiv (tOp (rIxT K) (tVar 0) (tVar 4)) (tC (.int 2)))) (tC (.int 1))) (gSub (tOp (rIxL K) (tVar 2) (tOp oDiv (tVar 4) (tC (.int 2)))) (tOp oDiv (tOp (rIxT K) (tVar 0) (tVar 4)) (tC (.int 2))) rSetL)))
    (tRet (tCB (rTupQ K) (tCons (tLc (iList K (tVar 2)) (gName 5) tYes (tCB (rTupQ K) (tCons (tVar 5) tNil)) [5]) tNil))))))

def N__law_right : List Str := ["well", "order", "table", "setting", "plan", "each", "some", "chain", "other"]

def t__law_right (K : PySem.W.Frag) (sp_setting_for : Sp) (sp__law_table_of : Sp) (sp__law_rounds_of : Sp) (sp__law_wires : Sp) (sp__law_is_plan : Sp) (sp_is_plan : Sp) (sp__law_same : Sp) (sp_height : Sp) (sp_chains : Sp) (sp__law_take : Sp) (sp_exchanged : Sp) (sp__law_ways : Sp) (sp_count_settings : Sp) : TS := (tSeq (tAsg (tTup (tCons (tCall sp__law_table_of [] E0 (tCons (tVar 1) tNil)) (tCons (tCall sp_setting_for [] E0 (tCons (tVar 1) tNil)) tNil))) (gTup K 2 (gCons (gName 2) (gCons (gName 3) gNil))))
    (tSeq (tAsg (tCall sp__law_rounds_of [] E0 (tCons (tVar 3) (tCons (tVar 1) tNil))) (gName 4))
    (tSeq (tIfS (tOr (tTest (tOp (rNeD K) (tCall sp__law_wires [] E0 (tCons (tVar 3) (tCons (tCB (rLenQ K) (tCons (tVar 1) tNil)) tNil))) (tVar 1))) (tOr (tNot (tB (tCall sp__law_is_plan [] E0 (tCons (tVar 2) (tCons (tVar 4) (tCons (tC (.int 2)) tNil)))))) (tOr (tTest (tOp rNotBl (tCall sp_is_plan [] E0 (tCons (tVar 2) (tCons (tVar 4) tNil))) (tC (.bl true)))) (tNot (tB (tCall sp__law_same [] E0 (tCons (tCall sp_height [] E0 (tCons (tVar 2) tNil)) (tCons (tC (.int 2)) tNil)))))))) (tRet (tC (.bl false))) tNext)
    (tSeq (tIfS (tNot (tB (tCB (rAll K) (tCons (tLc (iTup K (tVar 4)) (gName 5) tYes (tOp rEq (tCB (rLenQ K) (tCons (tVar 5) tNil)) (tCB (rLenQ K) (tCons (tVar 2) tNil))) [5]) tNil)))) (tRet (tC (.bl false))) tNext)
    (tSeq (tAsg (tCall sp_chains [] E0 (tCons (tVar 2) (tCons (tVar 4) (tCons (tC (.int 0)) (tCons (tC (.int 1)) tNil))))) (gName 6))
    (tSeq (tIfS (tTest (tOp (rNeD K) (tVar 6) (tTup tNil))) (tSeq (tAsg (tOp (rIxT K) (tVar 6) (tCall sp__law_take [] E0 (tCons (tVar 0) (tCons (tCB (rLenQ K) (tCons (tVar 6) tNil)) tNil)))) (gName 7))
    (tSeq (tAsg (tCall sp_exchanged [] E0 (tCons (tVar 2) (tCons (tVar 4) (tCons (tC (.int 0)) (tCons (tC (.int 1)) (tCons (tVar 7) tNil)))))) (gName 8))
    (tIfS (tOr (tNot (tB (tCall sp__law_is_plan [] E0 (tCons (tVar 2) (tCons (tVar 8) (tCons (tC (.int 2)) tNil)))))) (tNot (tB (tCB (rAll K) (tCons (tLc (iTup K (tVar 8)) (gName 5) tYes (tOp rEq (tCB (rLenQ K) (tCons (tVar 5) tNil)) (tCB (rLenQ K) (tCons (tVar 2) tNil))) [5]) tNil))))) (tRet (tC (.bl false))) tNext))) tNext)
    (tRet (tOrV (tOp oGt (tCB (rLenQ K) (tCons (tVar 1) tNil)) (tC (.int 4))) (tCall sp__law_same [] E0 (tCons (tCall sp_count_settings [] E0 (tCons (tVar 1) tNil)) (tCons (tCall sp__law_ways [] E0 (tCons (tVar 1) tNil)) tNil)))))))))))

def N__law_ways : List Str := ["order", "found", "one", "two", "upper", "ends", "line"]

def t__law_ways (K : PySem.W.Frag) : TS := (tSeq (tAsg (tC (.int 0)) (gName 1))
    (tSeq (tFor (iTup K (tTup (tCons (tC (.int 0)) (tCons (tC (.int 1)) tNil)))) (gName 2) (tFor (iTup K (tTup (tCons (tC (.int 0)) (tCons (tC (.int 1)) tNil)))) (gName 3) (tSeq (tAsg (tTup (tCons (tVar 2) (tCons (tOp oAdd (tC (.int 2)) (tVar 3)) tNil))) (gName 4))
    (tSeq (tAsg (tLc (iTup K (tVar 4)) (gName 6) tYes (tOp oDiv (tOp (rIxT K) (tVar 0) (tVar 6)) (tC (.int 2))) [6]) (gName 5))
    (tAsg (tOp oAdd (tVar 1) (tCB rIntQ (tCons (tOp rNe (tOp (rIxL K) (tVar 5) (tC (.int 0))) (tOp (rIxL K) (tVar 5) (tC (.int 1)))) tNil))) (gName 1))))))
    (tRet (tVar 1))))

def N_law : List Str := ["script", "lap", "well", "order", "setting", "four", "table", "every"]

def t_law (K : PySem.W.Frag) (sp__law_well : Sp) (sp__law_wires : Sp) (sp__law_setting : Sp) (sp__law_mixed : Sp) (sp__law_right : Sp) (sp_led_by : Sp) (sp__law_is_plan : Sp) (sp__law_rounds_of : Sp) (sp__law_table_of : Sp) (sp_all_plans : Sp) (sp__law_same : Sp) (sp_plan_count : Sp) (sp_setting_for : Sp) : TS := (tSeq (tFor (iRng1 (tCons (tCB rMax2 (tCons (tC (.int 3)) (tCons (tCB rMin2 (tCons (tCB (rLenQ K) (tCons (tVar 0) tNil)) (tCons (tC (.int 6)) tNil))) tNil))) tNil)) (gName 1) (tSeq (tAsg (tCall sp__law_well [] E0 (tCons (tVar 0) (tCons (tVar 1) tNil))) (gName 2))
    (tSeq (tFor (iTup K (tTup (tCons (tCall sp__law_mixed [] E0 (tCons (tVar 2) (tCons (tC (.int 4)) tNil))) (tCons (tCall sp__law_mixed [] E0 (tCons (tVar 2) (tCons (tC (.int 4)) tNil))) (tCons (tCall sp__law_mixed [] E0 (tCons (tVar 2) (tCons (tC (.int 8)) tNil))) (tCons (tCall sp__law_mixed [] E0 (tCons (tVar 2) (tCons (tC (.int 8)) tNil))) (tCons (tCall sp__law_wires [] E0 (tCons (tCall sp__law_setting [] E0 (tCons (tVar 2) (tCons (tC (.int 8)) tNil))) (tCons (tC (.int 8)) tNil))) (tCons (tTupRg (tRg1 (tC (.int 8)))) tNil)))))))) (gName 3) (tIfS (tNot (tB (tCall sp__law_right [] E0 (tCons (tVar 2) (tCons (tVar 3) tNil))))) (tRet (tC (.bl false))) tNext))
    (tSeq (tAsg (tCall sp__law_setting [] E0 (tCons (tVar 2) (tCons (tC (.int 8)) tNil))) (gName 4))
    (tSeq (tAsg (tCall sp_led_by [] E0 (tCons (tVar 4) tNil)) (gName 3))
    (tSeq (tIfS (tNot (tB (tCall sp__law_is_plan [] E0 (tCons (tCall sp__law_table_of [] E0 (tCons (tVar 3) tNil)) (tCons (tCall sp__law_rounds_of [] E0 (tCons (tVar 4) (tCons (tVar 3) tNil))) (tCons (tC (.int 2)) tNil)))))) (tRet (tC (.bl false))) tNext)
    (tSeq (tAsg (tCall sp__law_mixed [] E0 (tCons (tVar 2) (tCons (tC (.int 4)) tNil))) (gName 5))
    (tSeq (tAsg (tCall sp__law_table_of [] E0 (tCons (tVar 5) tNil)) (gName 6))
    (tSeq (tAsg (tCall sp_all_plans [] E0 (tCons (tVar 6) (tCons (tC (.int 2)) tNil))) (gName 7))
    (tIfS (tOr (tNot (tB (tCall sp__law_same [] E0 (tCons (tCall sp_plan_count [] E0 (tCons (tVar 6) (tCons (tC (.int 2)) tNil))) (tCons (tCB (rLenQ K) (tCons (tVar 7) tNil)) tNil))))) (tTest (tOp (rInT K true) (tCall sp__law_rounds_of [] E0 (tCons (tCall sp_setting_for [] E0 (tCons (tVar 5) tNil)) (tCons (tVar 5) tNil))) (tVar 7)))) (tRet (tC (.bl false))) tNext))))))))))
    (tRet (tC (.bl true))))

end K77

/-! Dl7: one list that is changed beside all that is known (the law's well); least, greatest; the last of a list; the script. -/
namespace DL
open PySem L2 Evl
open Arg (rp mn)
open Rep (mt)

/-! ### the heap without p -/
def Mk (p : Addr) (H : Hp) : Hp := fun a => if a = p then none else H a
theorem mk_p {p : Addr} {H : Hp} : Mk p H p = none := if_pos rfl
theorem mk_ne {p a : Addr} {H : Hp} (h : a ≠ p) : Mk p H a = H a := if_neg h
theorem ex_mk {p : Addr} {H : Hp} : Ex (Mk p H) H := fun a o h => by
  by_cases z : a = p
  · rw [z, mk_p] at h
    cases h
  · rw [mk_ne z] at h
    exact h
theorem mk_ex {p : Addr} {G H : Hp} (e : Ex G H) (hp : G p = none) : Ex G (Mk p H) := fun a o h => by
  have z : a ≠ p := ne_of_none h hp
  rw [mk_ne z]
  exact e a o h
theorem mk_mono {p : Addr} {G H : Hp} (e : Ex (Mk p G) H) : Ex (Mk p G) (Mk p H) := mk_ex e mk_p
theorem mk_upd {p : Addr} {H : Hp} {o : HO} : Ex (Mk p H) (upd H p o) := fun a u h => by
  have z : a ≠ p := ne_of_none h mk_p
  rw [upd_ne z]
  rw [mk_ne z] at h
  exact h
/-- the list of three numbers at p -/
def Wl (p : Addr) (H : Hp) : Prop := ∃ a b c : Int, H p = some (.lst [.int a, .int b, .int c])
theorem Wl.ex {p : Addr} {H H' : Hp} (e : Ex H H') (h : Wl p H) : Wl p H' := let ⟨a, b, c, h⟩ := h; ⟨a, b, c, e _ _ h⟩
theorem Wl.mt {p : Addr} {H : Hp} (h : Wl p H) : ExT H (Mk p H) := fun a xs e => by
  have z : a ≠ p := fun z => by
    obtain ⟨a', b, c, h⟩ := h
    rw [z, h] at e
    cases e
  rw [mk_ne z]
  exact e
theorem Wl.ne {p q : Addr} {H : Hp} (h : Wl p H) (hq : H q = none) : q ≠ p := fun z => by
  obtain ⟨a, b, c, h⟩ := h
  rw [z, h] at hq
  cases hq
/-- what is told, p and its list aside -/
theorem rp_mk {α : Type} [Rep α] {p : Addr} {H : Hp} {a : α} {v : V} (h : Wl p H) (r : rp a v H) : rp a v (Mk p H) := mt h.mt r
theorem rp_mkL {α : Type} [Rep α] {p q : Addr} {H : Hp} {as : List α} {vs : List V} (h : Wl p H) (hq : q ≠ p) (h1 : H q = some (.lst vs)) (h2 : Its as vs H) : rp (α := Lst α) as (.ref q) (Mk p H) := ⟨q, vs, rfl, by rw [mk_ne hq]; exact h1, Its.mt h.mt h2⟩

section
variable {K : PySem.W.Frag} {σ : L2.St} {G H H' : Hp} {ta tb te tc td ty tv : TE} {tt tu : TT} {R R' : Res} {α β γ : Type} {nx bk ct : L2.St → Hp → Prop} {rt : VK} {p : Addr}
/-- e's value is one of those, p's list may change -/
def EvW [Arg β] (te : TE) (σ : L2.St) (G : Hp) (p : Addr) (ok : β → Prop) : Prop := ∀ H1, Ex G H1 → Wl p H1 → ∀ Q : VK, (∀ y v H2, ok y → Ex (Mk p H1) H2 → Wl p H2 → rp y v H2 → Q v H2) → te σ H1 Q
theorem EvW.of [Arg β] {b : β} {ok : β → Prop} (h : EX te σ G b) (hb : ok b) : EvW te σ G p ok := fun H1 e w Q q => h H1 e _ fun v H2 ⟨e2, r2⟩ => q b v H2 hb (ex_mk.trans e2) (w.ex e2) r2
theorem f_lcW [Rep β] {j n : Nat} {vs : List Nat} {tn : TE} {ok : β → Prop} (hn : EX tn σ G n) (hz : n ≤ 100000) (hp : G p = none) (hw : ∀ x, wipe ((wipe σ vs).set j (some x)) vs = wipe σ vs)
    (he : ∀ i : Nat, i < n → EvW te ((wipe σ vs).set j (some (.int (i : Int)))) G p ok) :
    ∀ H1, Ex G H1 → Wl p H1 → ∀ Q : VK, (∀ (ys : List β) q us H2, ys.length = n → (∀ y ∈ ys, ok y) → Ex (Mk p H1) H2 → Wl p H2 → H1 q = none → H2 q = some (.lst us) → Its ys us H2 → Q (.ref q) H2) →
      tLc (iRng1 (tCons tn tNil)) (gName j) tYes te vs σ H1 Q := fun H1 e w Q k =>
  hn H1 e _ fun v H2 ⟨e2, r2⟩ => ⟨(n : Int), by rw [show v = V.int (n : Int) from r2], by omega, by omega, fun D hD => by
    have eG2 : Ex G H2 := e.trans e2
    have w2 : Wl p H2 := w.ex e2
    have hDp : D ≠ p := w2.ne hD
    have hD' : Mk p H2 D = none := by rw [mk_ne hDp]; exact hD
    refine ⟨fun i m H' => m = n - i ∧ i ≤ n ∧ Ex (Mk p H2) H' ∧ Wl p H' ∧ ∃ (ys : List β) (us : List V), ys.length = i ∧ (∀ y ∈ ys, ok y) ∧ H' D = some (.lst us) ∧ Its ys us H', ⟨n, by simp, Nat.zero_le _, ex_mk.trans (Ex.new hD), w2.ex (Ex.new hD), [], [], rfl, fun _ h => (nomatch h), upd_same, .nil⟩, ?_⟩
    rintro i m H' ⟨rfl, hi, p1, p2, ys, us, p3, p4, p5, p6⟩
    by_cases hlt : i < n
    · refine .inr ⟨(show i < (n : Int).toNat by omega), fun H'' => Ex (Mk p H2) H'' ∧ Wl p H'' ∧ ∃ (ys : List β) (us : List V), ys.length = i + 1 ∧ (∀ y ∈ ys, ok y) ∧ H'' D = some (.lst us) ∧ Its ys us H'', fun H'' ⟨q1, q2, q3⟩ => ⟨n - (i + 1), by omega, rfl, hlt, q1, q2, q3⟩, fun x H3 y => ?_⟩
      obtain ⟨rfl, ex⟩ := y
      rw [Int.zero_add] at ex
      subst ex
      refine ⟨hw _, ?_⟩
      show te ((wipe σ vs).set j (some (.int (i : Int)))) H3 _
      refine he i hlt H3 ((mk_ex eG2 hp).trans p1) p2 _ fun y v H4 hy e4 w4 r4 => ?_
      have h4D : H4 D = some (.lst us) := e4 _ _ (by rw [mk_ne hDp]; exact p5)
      have et : ExT H4 (upd H4 D (.lst (us ++ [v]))) := exT_upd fun xs z => by
        rw [h4D] at z
        cases z
      refine ⟨us, h4D, sz_lt (by rw [← Its.len p6, p3]; omega), Ex.mut ((mk_mono p1).trans e4) hD', ?_, ys ++ [y], us ++ [v], by simp [p3], fun z hz => ?_, upd_same, its_snoc (Its.mt et (Its.mono e4 (Its.mt p2.mt p6))) (mt et r4)⟩
      · obtain ⟨a, b, c, h⟩ := w4
        exact ⟨a, b, c, by rw [upd_ne hDp.symm]; exact h⟩
      · rcases List.mem_append.mp hz with hz | hz
        · exact p4 z hz
        · rw [List.mem_singleton.mp hz]
          exact hy
    · have e' : i = n := by omega
      subst e'
      exact .inl ⟨(show (i : Int).toNat ≤ i by omega), k ys D us H' p3 p4 ((mk_ex (ex_mk.trans e2) mk_p).trans p1) p2 (fresh_back e2 hD) p5 p6⟩⟩
end
end DL

/-! Dl8: more lemmas by construct: written dicts, in, sorted, two fors, dict comprehensions, stars, lists of one's own. -/
namespace DL
open PySem L2 Evl StX
open Arg (rp mn)
open Rep (mt)
open Pd (pd)
instance {α : Type} [DecidableEq α] : DecidableEq (Tup α) := inferInstanceAs (DecidableEq (List α))
instance {α : Type} [DecidableEq α] : DecidableEq (Lst α) := inferInstanceAs (DecidableEq (List α))
/-! ### == by data is = -/
class PdE (α : Type) [Arg α] [Pd α] [DecidableEq α] : Prop where
  eq : ∀ a b : α, PyData.eqv (pd a) (pd b) = decide (a = b)
instance pdeNat : PdE Nat := ⟨fun a b => by
  show PyData.eqv (.int (a : Int)) (.int (b : Int)) = _
  simp only [PyData.eqv]
  by_cases h : a = b
  · simp [h]
  · have : ¬ (a : Int) = b := by omega
    simp [h, this]⟩
theorem eqv_all {α : Type} [Arg α] [Pd α] [DecidableEq α] [PdE α] : ∀ as bs : List α, PyData.eqvAll (as.map pd) (bs.map pd) = decide (as = bs)
  | [], [] => by simp [PyData.eqvAll]
  | [], _ :: _ => by simp [PyData.eqvAll]
  | _ :: _, [] => by simp [PyData.eqvAll]
  | a :: as, b :: bs => by
    rw [List.map_cons, List.map_cons]
    simp only [PyData.eqvAll]
    rw [PdE.eq a b, eqv_all as bs]
    by_cases h1 : a = b <;> by_cases h2 : as = bs <;> simp [h1, h2]
instance pdeTup {α : Type} [Rep α] [Pd α] [DecidableEq α] [PdE α] : PdE (Tup α) := ⟨fun as bs => by
  show PyData.eqv (.tuple (List.map pd as)) (.tuple (List.map pd bs)) = _
  simp only [PyData.eqv]
  exact eqv_all (α := α) as bs⟩
instance pdeLst {α : Type} [Arg α] [Pd α] [DecidableEq α] [PdE α] : PdE (Lst α) := ⟨fun as bs => by
  show PyData.eqv (.list (List.map pd as)) (.list (List.map pd bs)) = _
  simp only [PyData.eqv]
  exact eqv_all (α := α) as bs⟩
instance pdePair {α β : Type} [Rep α] [Pd α] [DecidableEq α] [PdE α] [Rep β] [Pd β] [DecidableEq β] [PdE β] : PdE (α × β) := ⟨fun a b => by
  show PyData.eqv (.tuple [pd a.1, pd a.2]) (.tuple [pd b.1, pd b.2]) = _
  simp only [PyData.eqv, PyData.eqvAll]
  rw [PdE.eq a.1 b.1, PdE.eq a.2 b.2]
  obtain ⟨a1, a2⟩ := a
  obtain ⟨b1, b2⟩ := b
  by_cases h1 : a1 = b1 <;> by_cases h2 : a2 = b2 <;> simp [h1, h2]⟩
section
variable {K : PySem.W.Frag} {σ : L2.St} {H H' : Hp} {ta tb te tc tk tv : TE} {tt tu : TT} {R R' : Res} {α β γ : Type}
theorem x_eqP [Arg α] [Pd α] [DecidableEq α] [PdE α] {a b : α} (ha : EX ta σ H a) (hb : EX tb σ H b) (h : Pd.dep α ≤ 64) : EX (tOp (rEqD K) ta tb) σ H (decide (a = b)) := ex_is (x_eqD ha hb h h) (PdE.eq a b)
theorem x_neP [Arg α] [Pd α] [DecidableEq α] [PdE α] {a b : α} (ha : EX ta σ H a) (hb : EX tb σ H b) (h : Pd.dep α ≤ 64) : EX (tOp (rNeD K) ta tb) σ H (!decide (a = b)) := ex_is (x_neD ha hb h h) (by rw [PdE.eq a b])
/-! ### in -/
theorem any_eq {α : Type} [DecidableEq α] (a : α) (bs : List α) : (bs.any fun z => decide (z = a)) = decide (a ∈ bs) := by
  induction bs with
  | nil => rfl
  | cons b bs ih =>
    rw [List.any_cons, ih]
    by_cases h : b = a
    · simp [h]
    · have : ¬ a = b := fun z => h z.symm
      simp [h, this]
theorem any_pd [Arg α] [Pd α] [DecidableEq α] [PdE α] (a : α) (bs : List α) : ((bs.map pd).any fun z => PyData.eqv z (pd a)) = decide (a ∈ bs) := by
  rw [List.any_map, ← any_eq]
  congr 1
  funext z
  exact PdE.eq z a
theorem x_inT [Rep α] [Pd α] [DecidableEq α] [PdE α] {a : α} {bs : List α} (ha : EX ta σ H a) (hb : ET tb σ H bs) (h : Pd.dep α ≤ 60) : EX (tOp (rInT K false) ta tb) σ H (decide (a ∈ bs)) := fun H1 e Q q =>
  ha H1 e _ fun v H2 ⟨e2, r2⟩ => hb H2 (e.trans e2) _ fun u H3 ⟨e3, r3⟩ => ⟨pd a, bs.map pd, Pd.dp K (mn e3 r2), Pd.dp (α := Tup α) K r3, shaped_of a (by omega), shaped_of (α := Tup α) bs (show Pd.dep α + 1 ≤ 64 by omega), q _ _ ⟨e2.trans e3, bl_eq (any_pd a bs) _⟩⟩
theorem x_ninT [Rep α] [Pd α] [DecidableEq α] [PdE α] {a : α} {bs : List α} (ha : EX ta σ H a) (hb : ET tb σ H bs) (h : Pd.dep α ≤ 60) : EX (tOp (rInT K true) ta tb) σ H (!decide (a ∈ bs)) := fun H1 e Q q =>
  ha H1 e _ fun v H2 ⟨e2, r2⟩ => hb H2 (e.trans e2) _ fun u H3 ⟨e3, r3⟩ => ⟨pd a, bs.map pd, Pd.dp K (mn e3 r2), Pd.dp (α := Tup α) K r3, shaped_of a (by omega), shaped_of (α := Tup α) bs (show Pd.dep α + 1 ≤ 64 by omega), q _ _ ⟨e2.trans e3, bl_eq (congrArg (!·) (any_pd a bs)) _⟩⟩
theorem x_ninL [Arg α] [Pd α] [DecidableEq α] [PdE α] {a : α} {bs : List α} (ha : EX ta σ H a) (hb : EL tb σ H bs) (h : Pd.dep α ≤ 60) : EX (tOp (rNotInD K) ta tb) σ H (!decide (a ∈ bs)) := fun H1 e Q q =>
  ha H1 e _ fun v H2 ⟨e2, r2⟩ => hb H2 (e.trans e2) _ fun u H3 ⟨e3, r3⟩ => ⟨pd a, bs.map pd, Pd.dp K (mn e3 r2), Pd.dp (α := Lst α) K r3, shaped_of a (by omega), shaped_of (α := Lst α) bs (show Pd.dep α + 1 ≤ 64 by omega), q _ _ ⟨e2.trans e3, bl_eq (congrArg (!·) (any_pd a bs)) _⟩⟩
theorem flat_ints : ∀ l : List Int, (l.map V.int).all flatV = true
  | [] => rfl
  | a :: l => by
    show (flatV (V.int a) && (l.map V.int).all flatV) = true
    rw [flat_ints l]
    rfl
theorem inV_nat (a : Nat) : ∀ l : List Nat, inV (V.int (a : Int)) ((l.map fun n : Nat => (n : Int)).map V.int) = decide (a ∈ l)
  | [] => rfl
  | b :: l => by
    show (eqV (V.int (b : Int)) (V.int (a : Int)) || inV (V.int (a : Int)) ((l.map fun n : Nat => (n : Int)).map V.int)) = _
    rw [inV_nat a l]
    have e : eqV (V.int (b : Int)) (V.int (a : Int)) = decide (b = a) := by
      show ((b : Int) == (a : Int)) = _
      by_cases h : b = a
      · simp [h]
      · have : ¬ (b : Int) = a := by omega
        simp [h, this]
    rw [e]
    by_cases h : b = a
    · simp [h]
    · have : ¬ a = b := fun z => h z.symm
      simp [h, this]
/-- a number in a tuple of numbers -/
theorem x_inN {a : Nat} {bs : List Nat} (ha : EX ta σ H a) (hb : ET tb σ H bs) : EX (tOp (rIn K false) ta tb) σ H (decide (a ∈ bs)) := fun H1 e Q q =>
  ha H1 e _ fun v H2 ⟨e2, r2⟩ => hb H2 (e.trans e2) _ fun u H3 ⟨e3, p, vs, h1, h2, h3⟩ => by
    have ev : v = V.int (a : Int) := r2
    subst ev
    have hv := its_nat h3
    subst hv
    exact ⟨p, _, h1, .inr (st_of h2), rfl, flat_ints _, q _ _ ⟨e2.trans e3, bl_eq (inV_nat a bs) _⟩⟩
/-! ### dicts of the written part -/
theorem x_kNotIn {kvs : List (Nat × Nat)} {n : Nat} (h : EX te σ H n) : EX (tKIn kvs true te) σ H (MT.get kvs n).isNone := fun H1 e Q q => h H1 e _ fun v H2 ⟨e2, r2⟩ => ⟨n, r2, q _ _ ⟨e2, rfl⟩⟩
theorem x_kGet {kvs : List (Nat × Nat)} {n r : Nat} (h : EX te σ H n) (hr : MT.get kvs n = some r) : EX (tKGet kvs te) σ H r := fun H1 e Q q => h H1 e _ fun v H2 ⟨e2, r2⟩ => ⟨n, r, r2, hr, q _ _ ⟨e2, rfl⟩⟩
/-! ### sorted -/
abbrev leD [Arg α] [Pd α] (a b : α) : Bool := PySem.W.dataLe false pd a b
theorem its_all [Arg α] : ∀ {zs : List (α × V)}, (∀ z ∈ zs, rp z.1 z.2 H) → Its (zs.map (·.1)) (zs.map (·.2)) H
  | [], _ => .nil
  | z :: zs, h => .cons (h z List.mem_cons_self) (its_all fun y hy => h y (List.mem_cons_of_mem _ hy))
theorem its_zip [Arg α] : ∀ {as : List α} {vs : List V}, Its as vs H → (∀ z ∈ as.zip vs, rp z.1 z.2 H) ∧ (as.zip vs).map (·.1) = as ∧ (as.zip vs).map (·.2) = vs
  | _, _, .nil => ⟨fun z hz => by simp at hz, rfl, rfl⟩
  | a :: as, v :: vs, .cons r t => by
    obtain ⟨h1, h2, h3⟩ := its_zip t
    refine ⟨fun z hz => ?_, by simp [h2], by simp [h3]⟩
    rcases List.mem_cons.mp hz with rfl | hz
    · exact r
    · exact h1 z hz
theorem its_sort [Arg α] [Pd α] {as : List α} {vs : List V} (h : Its as vs H) : Its (as.mergeSort leD) (((vs.zip (as.map pd)).mergeSort (PySem.W.dataLe false (·.2))).map (·.1)) H := by
  obtain ⟨h1, h2, h3⟩ := its_zip h
  have e1 : ((as.zip vs).mergeSort (fun x y => leD x.1 y.1)).map (·.1) = as.mergeSort leD := by
    rw [List.map_mergeSort (f := fun z : α × V => z.1) (s := leD) (fun a _ b _ => rfl), h2]
  have ez : (as.zip vs).map (fun z : α × V => (z.2, pd z.1)) = vs.zip (as.map pd) := by
    clear h1 h2 h3 e1
    induction h with
    | nil => rfl
    | cons r t ih => simp [ih]
  have e2 : ((as.zip vs).mergeSort (fun x y => leD x.1 y.1)).map (fun z : α × V => (z.2, pd z.1)) = (vs.zip (as.map pd)).mergeSort (PySem.W.dataLe false (·.2)) := by
    rw [List.map_mergeSort (r := fun x y : α × V => leD x.1 y.1) (f := fun z : α × V => (z.2, pd z.1)) (s := PySem.W.dataLe false (fun b : V × PyData => b.2)) (fun a _ b _ => rfl), ez]
  rw [← e1, ← e2, List.map_map]
  exact its_all fun z hz => h1 z (List.mem_mergeSort.mp hz)
theorem f_sortD [Rep α] [Pd α] {as : List α} (h : EL ta σ H as) (al : ∀ a ∈ as, ∀ b ∈ as, PySem.W.alike (pd a) (pd b) = true) (hd : ∀ a ∈ as, ∃ x r, pd a = .tuple (x :: r)) (hp : Pd.dep α ≤ 60) : EF (tCB (rSortD K) (tCons ta tNil)) σ H (as.mergeSort leD) := fun H1 e Q q =>
  h H1 e _ fun v H2 ⟨e2, p, vs, h1, h2, h3⟩ => ⟨p, vs, as.map pd, by rw [h1], sq_of h2, dpAll h3, fun d hd d' hd' => by
    obtain ⟨a, ha, rfl⟩ := List.mem_map.mp hd
    obtain ⟨b, hb, rfl⟩ := List.mem_map.mp hd'
    exact al a ha b hb, .inl fun d hd' => by
    obtain ⟨a, ha, rfl⟩ := List.mem_map.mp hd'
    exact hd a ha, fun d hd' => by
    obtain ⟨a, ha, rfl⟩ := List.mem_map.mp hd'
    exact Nat.le_trans (Pd.dle a) hp, fun l hl => q _ _ ⟨e2.trans (Ex.new hl), l, _, rfl, fresh_back e2 hl, upd_same, its_sort (Its.mono (Ex.new hl) h3)⟩⟩
/-! ### stars -/
theorem xs_star [Arg α] {as bs : List α} {tr : TA} (h : EL te σ H as) (hr : EXs tr σ H bs) : EXs (tStar K te tr) σ H (as ++ bs) := fun H1 e Q q =>
  h H1 e _ fun v H2 ⟨e2, p, vs, h1, h2, h3⟩ => ⟨p, vs, h1, .inr (sq_of h2), hr H2 (e.trans e2) _ fun us H3 e3 r3 => q _ _ (e2.trans e3) (its_app (Its.mono e3 h3) r3)⟩
theorem xs_starT [Rep α] {as bs : List α} {tr : TA} (h : ET te σ H as) (hr : EXs tr σ H bs) : EXs (tStar K te tr) σ H (as ++ bs) := fun H1 e Q q =>
  h H1 e _ fun v H2 ⟨e2, p, vs, h1, h2, h3⟩ => ⟨p, vs, h1, .inl (st_of h2), hr H2 (e.trans e2) _ fun us H3 e3 r3 => q _ _ (e2.trans e3) (its_app (Its.mono e3 h3) r3)⟩
/-! ### [elt for .. for ..] -/
/-- a list that is being made at D -/
def Lx [Arg γ] (D : Addr) (H0 : Hp) (zs : List γ) (H' : Hp) : Prop := H0 D = none ∧ Ex H0 H' ∧ ∃ ws, H' D = some (.lst ws) ∧ Its zs ws H'
theorem Lx.ex [Arg γ] {D : Addr} {H0 H1 H2 : Hp} {zs : List γ} (h : Lx D H0 zs H1) (e : Ex H1 H2) : Lx D H0 zs H2 := let ⟨h1, h2, ws, h3, h4⟩ := h; ⟨h1, h2.trans e, ws, e _ _ h3, h4.mono e⟩
theorem Lx.app [Rep γ] {D : Addr} {H0 H1 H2 : Hp} {zs : List γ} {c : γ} {y : V} (h : Lx D H0 zs H1) (hz : zs.length < 100000) (e : Ex H1 H2) (r : rp c y H2) : ∃ acc, H2 D = some (.lst acc) ∧ acc.length < sizeLine ∧ Lx D H0 (zs ++ [c]) (upd H2 D (.lst (acc ++ [y]))) := by
  obtain ⟨h1, h2, ws, h3, h4⟩ := h
  have h3' := e _ _ h3
  have et : ExT H2 (upd H2 D (.lst (ws ++ [y]))) := exT_upd fun xs z => by
    rw [h3'] at z
    cases z
  exact ⟨ws, h3', sz_lt (by rw [← h4.len]; exact hz), h1, Ex.mut (h2.trans e) h1, ws ++ [y], upd_same, its_snoc (Its.mt et (Its.mono e h4)) (mt et r)⟩
/-- what is walked within a comprehension: it does not hang on the list that is being made -/
def EvI2 [Arg α] (wi : TI) (σ : L2.St) (H : Hp) (xs : List α) : Prop := ∀ H1, Ex H H1 → ∀ R : It → Hp → Prop, (∀ J H2, Ex H1 H2 → (∀ D ws, H1 D = some (.lst ws) → H D = none → Src J (Mk D H2) xs) → R J H2) → wi σ H1 R
theorem mkT {D : Addr} {H : Hp} {ws : List V} (h : H D = some (.lst ws)) : ExT H (Mk D H) := fun a xs e => by
  have z : a ≠ D := fun z => by
    rw [z, h] at e
    cases e
  rw [mk_ne z]
  exact e
theorem i2_new [Rep α] {xs : List α} (h : EF te σ H xs) : EvI2 (iList K te) σ H xs := fun H1 e R q =>
  h H1 e _ fun v H2 ⟨e2, p, vs, h1, h0, h2, h3⟩ => ⟨p, h1, ⟨vs, sq_of h2⟩, q _ _ e2 fun D ws hD _ => src_list (by
    rw [mk_ne (fun z => by rw [z, hD] at h0; cases h0)]
    exact h2) (Its.mt (mkT (e2 _ _ hD)) h3)⟩
theorem i2_list [Rep α] {xs : List α} {i : Nat} {p : Addr} {vs : List V} (hv : σ[i]? = some (some (.ref p))) (hp : H p = some (.lst vs)) (its : Its xs vs H) : EvI2 (iList K (tVar i)) σ H xs := fun H1 e R q =>
  ⟨.ref p, hv, p, rfl, ⟨vs, sq_of (e _ _ hp)⟩, q _ _ (Ex.refl _) fun D ws hD h0 => src_list (by
    rw [mk_ne (fun z => by rw [z, h0] at hp; cases hp)]
    exact e _ _ hp) (Its.mt (mkT hD) (its.mono e))⟩
theorem i2_tup [Rep α] {xs : List α} (h : ET te σ H xs) : EvI2 (iTup K te) σ H xs := fun H1 e R q =>
  h H1 e _ fun v H2 ⟨e2, p, vs, h1, h2, h3⟩ => ⟨p, h1, ⟨vs, st_of h2⟩, q _ _ e2 fun D ws hD _ => src_tup (mkT (e2 _ _ hD) _ _ h2) (Its.mt (mkT (e2 _ _ hD)) h3)⟩
theorem f_lc2M [Rep α] [Rep β] [Rep γ] {wi wi1 : TI} {i j : Nat} {vs vs1 : List Nat} {xs : List α} (ys : α → List β) (g : α → β → γ) (hi : EvI wi σ H xs) (hz : (xs.flatMap ys).length ≤ 100000) (hw : ∀ x, wipe ((wipe σ vs).set i (some x)) vs = wipe σ vs)
    (hw1 : ∀ x y, wipe ((wipe ((wipe σ vs).set i (some x)) vs1).set j (some y)) vs1 = wipe ((wipe σ vs).set i (some x)) vs1)
    (hi1 : ∀ a x H1, a ∈ xs → Ex H H1 → rp a x H1 → EvI2 wi1 ((wipe σ vs).set i (some x)) H (ys a))
    (he : ∀ a x b y H1, a ∈ xs → b ∈ ys a → Ex H H1 → rp a x H1 → rp b y H1 → EX te ((wipe ((wipe σ vs).set i (some x)) vs1).set j (some y)) H1 (g a b)) :
    EF (tLc2 wi (gName i) tYes wi1 (gName j) tYes te vs vs1) σ H (xs.flatMap fun a => (ys a).map (g a)) := fun H1 e Q q => hi H1 e _ fun J H2 e2 s D hD => by
  have hDH : H D = none := fresh_back (e.trans e2) hD
  have len : ∀ k, ((xs.take k).flatMap fun a => (ys a).map (g a)).length = ((xs.take k).flatMap ys).length := fun k => by
    simp only [List.length_flatMap, List.length_map]
  have lenz : ∀ k, ((xs.take k).flatMap ys).length ≤ (xs.flatMap ys).length := fun k => by
    have h := congrArg (fun l => (l.flatMap ys).length) (List.take_append_drop k xs)
    simp only [List.flatMap_append, List.length_append] at h
    omega
  refine ⟨fun k m H' => m = xs.length - k ∧ k ≤ xs.length ∧ Lx D H2 ((xs.take k).flatMap fun a => (ys a).map (g a)) H', ⟨xs.length, by simp, Nat.zero_le _, hD, Ex.new hD, [], upd_same, .nil⟩, ?_⟩
  rintro k m H' ⟨rfl, hk, lx⟩
  by_cases hlt : k < xs.length
  · refine .inr ⟨s.go k H' lx.2.1 hlt, fun H'' => Lx D H2 ((xs.take (k + 1)).flatMap fun a => (ys a).map (g a)) H'', fun H'' p' => ⟨xs.length - (k + 1), by omega, rfl, hlt, p'⟩, fun x H3 y => ?_⟩
    obtain ⟨e3, a, ha, ra⟩ := s.yld k H' x H3 lx.2.1 hlt y
    have hm : a ∈ xs := List.mem_of_getElem? ha
    have e03 : Ex H H3 := ((e.trans e2).trans lx.2.1).trans e3
    have tk : xs.take (k + 1) = xs.take k ++ [a] := by rw [List.take_add_one, ha]; rfl
    refine ⟨hw x, ?_⟩
    show wi1 ((wipe σ vs).set i (some x)) H3 _
    obtain ⟨_, _, ws, hDl, _⟩ := id lx
    refine hi1 a x H3 hm e03 ra H3 e03 _ fun J1 H4 e4 s1 => ?_
    have lx4 := (lx.ex e3).ex e4
    have hD3 := e3 _ _ hDl
    have hD4 := e4 _ _ hD3
    have s1 := s1 D ws hD3 hDH
    have e04 : Ex H (Mk D H4) := mk_ex (e03.trans e4) hDH
    have ra4 : rp a x (Mk D H4) := mt (mkT hD4) (mn e4 ra)
    have hl1 := lenz (k + 1)
    rw [tk, List.flatMap_append, List.length_append] at hl1
    have hl2 : ([a].flatMap ys).length = (ys a).length := by simp
    refine ⟨fun l n H'' => n = (ys a).length - l ∧ l ≤ (ys a).length ∧ Ex (Mk D H4) H'' ∧ Lx D H2 (((xs.take k).flatMap fun a => (ys a).map (g a)) ++ ((ys a).take l).map (g a)) H'', ⟨(ys a).length, by simp, Nat.zero_le _, ex_mk, ?_⟩, ?_⟩
    · rw [List.take_zero, List.map_nil, List.append_nil]
      exact lx4
    rintro l n H'' ⟨rfl, hl, e5, ly⟩
    by_cases hlt1 : l < (ys a).length
    · refine .inr ⟨s1.go l H'' e5 hlt1, fun Hz => Ex (Mk D H4) Hz ∧ Lx D H2 (((xs.take k).flatMap fun a => (ys a).map (g a)) ++ ((ys a).take (l + 1)).map (g a)) Hz, fun Hz ⟨p1, p2⟩ => ⟨(ys a).length - (l + 1), by omega, rfl, hlt1, p1, p2⟩, fun y H6 yy => ?_⟩
      obtain ⟨e6, b, hb, rb⟩ := s1.yld l H'' y H6 e5 hlt1 yy
      have hmb : b ∈ ys a := List.mem_of_getElem? hb
      have tk1 : (ys a).take (l + 1) = (ys a).take l ++ [b] := by rw [List.take_add_one, hb]; rfl
      have e46 := e5.trans e6
      refine ⟨hw1 x y, ?_⟩
      show te ((wipe ((wipe σ vs).set i (some x)) vs1).set j (some y)) H6 _
      refine he a x b y H6 hm hmb (e04.trans e46) (mn e46 ra4) rb H6 (Ex.refl _) _ fun z H7 ⟨e7, r7⟩ => ?_
      obtain ⟨acc, q1, q2, q3⟩ := (ly.ex e6).app (c := g a b) (by
        rw [List.length_append, len k, List.length_map, List.length_take]
        omega) e7 r7
      refine ⟨acc, q1, q2, Ex.mut (e46.trans e7) mk_p, ?_⟩
      rw [tk1, List.map_append, ← List.append_assoc]
      exact q3
    · have e' : l = (ys a).length := by omega
      subst e'
      refine .inl ⟨s1.stop H'' e5, ?_⟩
      rw [tk, List.flatMap_append]
      rw [List.take_length] at ly
      simpa using ly
  · have e' : k = xs.length := by omega
    subst e'
    rw [List.take_length] at lx
    obtain ⟨p1, p2, ws, p3, p4⟩ := lx
    exact .inl ⟨s.stop H' p2, q _ _ ⟨e2.trans p2, D, ws, rfl, fresh_back e2 p1, p3, p4⟩⟩
/-! ### {k: v for ..}, keys numbers -/
abbrev EK (te : TE) (σ : L2.St) (H : Hp) (v : V) : Prop := EvR te σ H fun H1 u H2 => Ex H1 H2 ∧ u = v
theorem ek_n {n : Nat} (h : EX te σ H n) : EK te σ H (.int (n : Int)) := h
theorem ek_c {v : V} : EK (tC v) σ H v := fun H1 e Q q => q _ _ ⟨Ex.refl _, rfl⟩
def dcL (fk : α → Nat) (fv : α → V) (xs : List α) : List (Key × V) := xs.foldl (fun M a => putK M (.inl (fk a : Int)) (fv a)) []
theorem dcL_len (fk : α → Nat) (fv : α → V) : ∀ (xs : List α) (M : List (Key × V)), (xs.foldl (fun M a => putK M (.inl (fk a : Int)) (fv a)) M).length ≤ M.length + xs.length
  | [], M => Nat.le_refl _
  | x :: xs, M => by
    have h1 := dcL_len fk fv xs (putK M (.inl (fk x : Int)) (fv x))
    have h2 := length_putK M (.inl (fk x : Int) : Key) (fv x)
    rw [List.foldl_cons, List.length_cons]
    omega
theorem r_dc [Arg α] {wi : TI} {g0 : TG} {vs : List Nat} {xs : List α} (fk : α → Nat) (fv : α → V) (hi : EvI wi σ H xs) (hz : xs.length ≤ 100000)
    (ht : ∀ a x H1, a ∈ xs → Ex H H1 → rp a x H1 → ∀ (Q : L2.St → Hp → Prop), (∀ σ2 H2, Ex H1 H2 → wipe σ2 vs = wipe σ vs → EX tk σ2 H2 (fk a) → EK tv σ2 H2 (fv a) → Q σ2 H2) → g0 x (wipe σ vs) H1 Q) :
    EvR (tDc wi g0 tYes tk tv vs) σ H (RD (dcL fk fv xs)) := fun H1 e Q q => hi H1 e _ fun J H2 e2 s D hD => by
  refine ⟨fun i m H' => m = xs.length - i ∧ i ≤ xs.length ∧ Ex H2 H' ∧ H' D = some (.dK (dcL fk fv (xs.take i))), ⟨xs.length, by simp, Nat.zero_le _, Ex.new hD, upd_same⟩, ?_⟩
  rintro i m H' ⟨rfl, hi, p2, p3⟩
  by_cases hlt : i < xs.length
  · refine .inr ⟨s.go i H' p2 hlt, fun H'' => Ex H2 H'' ∧ H'' D = some (.dK (dcL fk fv (xs.take (i + 1)))), fun H'' ⟨p, p'⟩ => ⟨xs.length - (i + 1), by omega, rfl, hlt, p, p'⟩, fun x H3 y => ?_⟩
    obtain ⟨e3, a, ha, ra⟩ := s.yld i H' x H3 p2 hlt y
    have hm : a ∈ xs := List.mem_of_getElem? ha
    have e03 : Ex H H3 := ((e.trans e2).trans p2).trans e3
    refine ht a x H3 hm e03 ra _ fun σ2 H4 e4 hw hK hV => ⟨hw, ?_⟩
    show tk σ2 H4 _
    refine hK H4 (Ex.refl _) _ fun yk H5 ⟨e5, ek⟩ => hV H5 e5 _ fun yv H6 ⟨e6, ev⟩ => ?_
    subst ev
    have hD6 := ((e3.trans e4).trans e5 |>.trans e6) _ _ p3
    have tk : xs.take (i + 1) = xs.take i ++ [a] := by rw [List.take_add_one, ha]; rfl
    refine ⟨_, .inl (fk a : Int), ek, hD6, sz_lt ?_, Ex.mut ((((p2.trans e3).trans e4).trans e5).trans e6) hD, ?_⟩
    · have := dcL_len fk fv (xs.take i) []
      rw [List.length_nil, List.length_take] at this
      unfold dcL
      omega
    · rw [upd_same, tk]
      unfold dcL
      rw [List.foldl_append]
      rfl
  · have e' : i = xs.length := by omega
    subst e'
    rw [List.take_length] at p3
    exact .inl ⟨s.stop H' p2, q _ _ ⟨e2.trans p2, D, rfl, fresh_back e2 hD, p3⟩⟩
theorem dcL_nat (fk fn : α → Nat) (xs : List α) : dcL fk (fun a => .int (fn a : Int)) xs = dnn (xs.foldl (fun M a => MT.put M (fk a) (fn a)) []) := by
  unfold dcL
  have : ∀ (xs : List α) (M : List (Nat × Nat)), xs.foldl (fun M a => putK M (.inl (fk a : Int)) (.int (fn a : Int))) (dnn M) = dnn (xs.foldl (fun M a => MT.put M (fk a) (fn a)) M) := by
    intro xs
    induction xs with
    | nil => intro M; rfl
    | cons x xs ih =>
      intro M
      rw [List.foldl_cons, List.foldl_cons, ← ih, dnn_put]
  exact this xs []
end
/-! ### lists of one's own -/
section
variable {K : PySem.W.Frag} {σ : L2.St} {H H' : Hp} {ta tb te tc : TE} {α β : Type} {nx bk ct : L2.St → Hp → Prop} {rt : VK}
/-- a list that stands at p -/
def Own [Arg α] (p : Addr) (as : List α) (H : Hp) : Prop := ∃ vs, H p = some (.lst vs) ∧ Its as vs H
theorem Own.ex [Arg α] {p : Addr} {as : List α} (e : Ex H H') (h : Own p as H) : Own p as H' := let ⟨vs, h1, h2⟩ := h; ⟨vs, e _ _ h1, h2.mono e⟩
theorem ext_lst {q : Addr} {us ws : List V} (h : H q = some (.lst us)) : ExT H (upd H q (.lst ws)) := exT_upd fun xs z => by
  rw [h] at z
  cases z
theorem Own.upd [Rep α] {p q : Addr} {as : List α} {us ws : List V} (h : Own p as H) (hq : H q = some (.lst us)) (hn : p ≠ q) : Own p as (upd H q (.lst ws)) := let ⟨vs, h1, h2⟩ := h; ⟨vs, by rw [upd_ne hn]; exact h1, Its.mt (ext_lst hq) h2⟩
theorem Own.rp [Arg α] {p : Addr} {as : List α} (h : Own p as H) : rp (α := Lst α) as (.ref p) H := let ⟨vs, h1, h2⟩ := h; ⟨p, vs, rfl, h1, h2⟩
theorem Own.of [Rep α] {as : List α} {H1 : Hp} {v : V} (h : RF as H v H1) : ∃ p, v = .ref p ∧ H p = none ∧ Ex H H1 ∧ Own p as H1 := let ⟨e, p, vs, h1, h2, h3, h4⟩ := h; ⟨p, h1, h2, e, vs, h3, h4⟩
theorem z_app [Rep α] {i : Nat} {p : Addr} {as : List α} {a : α} (hv : σ[i]? = some (some (.ref p))) (ho : Own p as H) (hz : as.length < 100000) (h : EX te σ H a) (k : ∀ H1 v us, Ex H H1 → rp a v H1 → H1 p = some (.lst us) → Own p (as ++ [a]) (upd H1 p (.lst (us ++ [v]))) → nx σ (upd H1 p (.lst (us ++ [v])))) :
    tDrop (tBM K "list" rAppend (tVar i) (tCons te tNil)) ⟨nx, rt, bk, ct⟩ σ H := by
  obtain ⟨vs, h1, h2⟩ := ho
  refine ⟨.ref p, hv, .inl ⟨rfl, vs, sq_of h1⟩, h H (Ex.refl _) _ fun v H1 ⟨e1, r1⟩ => ?_⟩
  refine ⟨p, vs, v, rfl, rfl, e1 _ _ h1, sz_lt (by rw [← h2.len]; exact hz), k H1 v vs e1 r1 (e1 _ _ h1) ⟨_, upd_same, its_snoc (Its.mt (ext_lst (e1 _ _ h1)) (h2.mono e1)) (mt (ext_lst (e1 _ _ h1)) r1)⟩⟩
theorem z_ext [Rep α] {i : Nat} {p : Addr} {as bs : List α} (hv : σ[i]? = some (some (.ref p))) (ho : Own p as H) (hz : as.length + bs.length ≤ 100000) (h : EL te σ H bs) (k : ∀ H1 us ws, Ex H H1 → H1 p = some (.lst us) → Own p (as ++ bs) (upd H1 p (.lst (us ++ ws))) → nx σ (upd H1 p (.lst (us ++ ws)))) :
    tDrop (tBM K "list" rExtend (tVar i) (tCons te tNil)) ⟨nx, rt, bk, ct⟩ σ H := by
  obtain ⟨vs, h1, h2⟩ := ho
  refine ⟨.ref p, hv, .inl ⟨rfl, vs, sq_of h1⟩, h H (Ex.refl _) _ fun v H1 ⟨e1, q, ws, hw, h3, h4⟩ => ?_⟩
  subst hw
  exact ⟨p, q, vs, ws, rfl, rfl, e1 _ _ h1, h3, sz_of (by rw [← h2.len, ← h4.len]; exact hz), k H1 vs ws e1 (e1 _ _ h1) ⟨_, upd_same, its_app (Its.mt (ext_lst (e1 _ _ h1)) (h2.mono e1)) (Its.mt (ext_lst (e1 _ _ h1)) h4)⟩⟩
theorem its_last [Arg α] : ∀ {as : List α} {vs : List V} {a : α}, Its (as ++ [a]) vs H → ∃ us v, vs = us ++ [v] ∧ Its as us H ∧ rp a v H
  | [], _, _, .cons r .nil => ⟨[], _, rfl, .nil, r⟩
  | b :: as, _, a, .cons r t => by
    obtain ⟨us, v, h1, h2, h3⟩ := its_last (as := as) t
    exact ⟨_ :: us, v, by rw [h1]; rfl, .cons r h2, h3⟩
theorem z_pop [Rep α] {i j : Nat} {p : Addr} {as : List α} {a : α} (hv : σ[i]? = some (some (.ref p))) (ho : Own p (as ++ [a]) H) (k : ∀ v us ws, rp a v H → H p = some (.lst us) → Own p as (upd H p (.lst ws)) → nx (σ.set j (some v)) (upd H p (.lst ws))) :
    tAsg (tBM0 K "list" rPop (tVar i)) (gName j) ⟨nx, rt, bk, ct⟩ σ H := by
  obtain ⟨vs, h1, h2⟩ := ho
  obtain ⟨us, v, rfl, h3, h4⟩ := its_last h2
  refine ⟨.ref p, hv, .inl ⟨rfl, _, sq_of h1⟩, p, us ++ [v], v, rfl, rfl, h1, by simp, ?_⟩
  rw [List.dropLast_concat]
  exact k v _ us h4 h1 ⟨us, upd_same, Its.mt (ext_lst h1) h3⟩
end
end DL

namespace K77
open PySem L2 DL Evl StX
open Arg (rp mn)
open Rep (mt)
open MT (ed cel keys vals get put)
variable {K : PySem.W.Frag}
abbrev eN (Q : VK) : Ends := { nx := fun _ H' => Q .non H', rt := Q }

/-! ### small looks -/
def sp_is_whole : Sp := sp1 (α := Int) (fun _ => True) fun _ => RX true
theorem len_is_whole : ∀ vs H Q E, sp_is_whole vs H Q E → vs.length = 1 := sp1_len
theorem sem_is_whole : ∀ vs H Q E, sp_is_whole vs H Q E → t_is_whole K (eN Q) (start ["value"] vs) H := fun vs H Q E h => by
  obtain ⟨a, va, rfl, ra, hp, q⟩ := h
  exact q_ret (ex_is (x_and (x_isi (b := true) (x_var rfl ra) (ty_int (by decide +kernel))) fun _ => x_not (x_isi (b := false) (x_var rfl ra) (ty_int (by decide +kernel)))) rfl) q
def sp_is_between : Sp := sp3 (α := Int) (β := Int) (γ := Int) (fun _ _ _ => True) fun v lo hi => RX (decide (lo ≤ v) && decide (v ≤ hi))
theorem len_is_between : ∀ vs H Q E, sp_is_between vs H Q E → vs.length = 3 := sp3_len
theorem sem_is_between : ∀ vs H Q E, sp_is_between vs H Q E → t_is_between K sp_is_whole (eN Q) (start ["value", "low", "high"] vs) H := fun vs H Q E h => by
  obtain ⟨a, b, c, va, vb, vc, rfl, ra, rb, rc, hp, q⟩ := h
  exact q_ret (ex_is (x_and (x_call1 (f := fun _ => true) (x_var rfl ra) True.intro) fun _ => x_chain (x_var rfl rb) (x_var rfl ra) (x_var rfl rc)) (Bool.true_and _)) q
def sp_is_tuple_of : Sp := sp2 (α := Tup Nat) (β := Nat) (fun _ _ => True) fun v n => RX (decide (List.length v = n))
theorem len_is_tuple_of : ∀ vs H Q E, sp_is_tuple_of vs H Q E → vs.length = 2 := sp2_len
theorem sem_is_tuple_of : ∀ vs H Q E, sp_is_tuple_of vs H Q E → t_is_tuple_of K (eN Q) (start ["value", "many"] vs) H := fun vs H Q E h => by
  obtain ⟨a, b, va, vb, rfl, ra, rb, hp, q⟩ := h
  exact q_ret (ex_is (x_and (x_isi (b := true) (α := Tup Nat) (x_var rfl ra) (ty_tup (by decide +kernel))) fun _ => x_eqN (x_lenT (x_var rfl ra)) (x_var rfl rb)) (Bool.true_and _)) q
theorem all_map_true {α : Type} (xs : List α) : (xs.map fun _ => true).all id = true := by simp
theorem btw (x : Nat) (k : Nat) (h : x ≤ k) : (decide ((0 : Int) ≤ (x : Int)) && decide ((x : Int) ≤ (k : Int))) = true := by
  rw [Bool.and_eq_true]
  exact ⟨decide_eq_true (by omega), decide_eq_true (by omega)⟩
def LeAll (k : Nat) (v : List Nat) : Prop := ∀ x ∈ v, x ≤ k
/-- a row of n numbers up to k -/
def sp_count_row (k : Nat) : Sp := sp2 (α := Tup Nat) (β := Nat) (fun v n => List.length v = n ∧ n ≤ 6 ∧ LeAll k v) fun _ _ => RX true
theorem each_between {σ : L2.St} {H : Hp} {xs : List Nat} {te : TE} {k : Nat} (h : ET te σ H xs) (hl : xs.length ≤ 6) (hk : ∀ x ∈ xs, x ≤ k) (hw : ∀ x, wipe ((wipe σ [2]).set 2 (some x)) [2] = wipe σ [2]) (h2 : ∀ x, ((wipe σ [2]).set 2 (some x))[2]? = some (some x)) :
    EX (tCB (rAll K) (tCons (tLc (iTup K te) (gName 2) tYes (tCall sp_is_between [] E0 (tCons (tVar 2) (tCons (tC (.int 0)) (tCons (tC (.int k)) tNil)))) [2]) tNil)) σ H true :=
  ex_is (x_all (f_lcM (fun _ => true) (i_tup h) (by omega) hw fun a x H1 hm e r => ex_is (x_call3 (pre := fun _ _ _ => True) (f := fun (v lo hi : Int) => decide (lo ≤ v) && decide (v ≤ hi)) (x_var (a := ((a : Nat) : Int)) (h2 x) r) x_i x_i True.intro) (btw a k (hk a hm))).x) (all_map_true xs)
def sp_is_count_row : Sp := sp_count_row 9
theorem len_is_count_row : ∀ vs H Q E, sp_is_count_row vs H Q E → vs.length = 2 := sp2_len
theorem sem_is_count_row : ∀ vs H Q E, sp_is_count_row vs H Q E → t_is_count_row K sp_is_tuple_of sp_is_between (eN Q) (start ["value", "many", "each"] vs) H := fun vs H Q E h => by
  obtain ⟨a, b, va, vb, rfl, ra, rb, ⟨hp1, hp2, hp3⟩, q⟩ := h
  exact q_ret (ex_is (x_and (x_call2 (pre := fun _ _ => True) (f := fun (v : Tup Nat) (n : Nat) => decide (List.length v = n)) (x_var rfl ra) (x_var rfl rb) True.intro) fun _ => each_between (x_var rfl ra) (by rw [hp1]; exact hp2) hp3 (fun _ => rfl) (fun _ => rfl)) (by rw [hp1]; simp)) q
/-! ### shapes -/
structure Tab (k : Nat) (T : List (List Nat)) (m n : Nat) : Prop where
  m1 : 1 ≤ m
  m6 : m ≤ 6
  n1 : 1 ≤ n
  n6 : n ≤ 6
  len : T.length = m
  row : ∀ r ∈ T, r.length = n
  le : ∀ r ∈ T, ∀ x ∈ r, x ≤ k
theorem Tab.hd {k : Nat} {T : List (List Nat)} {m n : Nat} (h : Tab k T m n) : ∃ r, T[0]? = some r ∧ r ∈ T ∧ r.length = n := by
  cases T with
  | nil =>
    have h1 := h.m1
    have h2 := h.len
    simp at h2
    omega
  | cons r t => exact ⟨r, rfl, List.mem_cons_self, h.row r List.mem_cons_self⟩
/-- first a row of the table, value another one -/
def sp_row_like (k : Nat) : Sp := sp2 (α := Tup Nat) (β := Tup Nat) (fun f v => List.length f = List.length v ∧ 1 ≤ List.length v ∧ List.length v ≤ 6 ∧ LeAll k v) fun _ _ => RX true
theorem t_or {tt tu : TT} {σ : L2.St} {H : Hp} {a b : Bool} (h1 : EvT tt σ H a) (h2 : EvT tu σ H b) : EvT (tOr tt tu) σ H (a || b) := et_or h1 fun _ => h2
theorem bad_tuple {α : Type} [Rep α] {σ : L2.St} {H : Hp} {xs : List α} {te : TE} (h : ET te σ H xs) (h1 : 1 ≤ xs.length) (h6 : xs.length ≤ 6) :
    EvT (tOr (tNot (tB (tCB (rIsi K) (tCons te (tCons (tC (.ty "tuple")) tNil))))) (tNot (tTest (tChain oLe oLe (tC (.int 1)) (tCB (rLenQ K) (tCons te tNil)) (tC (.int 6)))))) σ H false :=
  et_is (t_or (et_not (t_B (x_isi (b := true) (α := Tup α) h (ty_tup (by decide +kernel))))) (et_not (t_test (x_chain x_i (i := 1) (j := ((xs.length : Nat) : Int)) (k := 6) (x_ni (x_lenT h)) x_i)))) (by
    have e1 : decide ((1 : Int) ≤ ((xs.length : Nat) : Int)) = true := decide_eq_true (by omega)
    have e2 : decide (((xs.length : Nat) : Int) ≤ 6) = true := decide_eq_true (by omega)
    rw [e1, e2]
    rfl)
def sp_is_row_like : Sp := sp_row_like 9
theorem len_is_row_like : ∀ vs H Q E, sp_is_row_like vs H Q E → vs.length = 2 := sp2_len
theorem sem_is_row_like : ∀ vs H Q E, sp_is_row_like vs H Q E → t_is_row_like K sp_is_count_row (eN Q) (start ["first", "value"] vs) H := fun vs H Q E h => by
  obtain ⟨f, v, vf, vv, rfl, rf, rv, ⟨hp1, hp2, hp3, hp4⟩, q⟩ := h
  refine z_if (bad_tuple (x_var rfl rf) (by rw [hp1]; exact hp2) (by rw [hp1]; exact hp3)) (fun z => nomatch z) fun _ H1 e => ?_
  refine z_next ?_
  refine q_ret ?_ fun v H' r => q v H' (RX.bk.bk e r)
  exact x_call2 (f := fun _ _ => true) (x_var rfl (mn e rv)) (x_lenT (x_var rfl (mn e rf))) ⟨hp1.symm, by rw [hp1]; exact hp3, hp4⟩
def sp_total_by : Sp := sp1 (α := Tup (Tup Nat)) (fun T => List.length T ≤ 6) fun T => RX (List.map List.sum T).sum
theorem len_total_by : ∀ vs H Q E, sp_total_by vs H Q E → vs.length = 1 := sp1_len
theorem sem_total_by : ∀ vs H Q E, sp_total_by vs H Q E → t_total_by K (eN Q) (start ["table", "row"] vs) H := fun vs H Q E h => by
  obtain ⟨a, va, rfl, ra, hp, q⟩ := h
  exact q_ret (x_sumN (f_lcM (α := Tup Nat) (β := Nat) (fun r => List.sum r) (i_tup (x_var rfl ra)) (by omega) (fun _ => rfl) fun a x H1 hm e r => x_sumT (x_var rfl r)).x) q
def sp_firsts_of : Sp := sp1 (α := Tup (Tup Nat)) (fun T => List.length T ≤ 6) fun T => RF (List.range (List.length T))
theorem len_firsts_of : ∀ vs H Q E, sp_firsts_of vs H Q E → vs.length = 1 := sp1_len
theorem sem_firsts_of : ∀ vs H Q E, sp_firsts_of vs H Q E → t_firsts_of K (eN Q) (start ["table"] vs) H := fun vs H Q E h => by
  obtain ⟨a, va, rfl, ra, hp, q⟩ := h
  exact q_ret (f_lstRg (x_lenT (x_var rfl ra)) (by omega)) q
def ncol (T : List (List Nat)) : Nat := (T.getD 0 []).length
theorem Tab.ncol {k : Nat} {T : List (List Nat)} {m n : Nat} (h : Tab k T m n) : ncol T = n := by
  obtain ⟨r, h0, _, hr⟩ := h.hd
  unfold K77.ncol
  rw [List.getD_eq_getElem?_getD, h0]
  exact hr
def sp_seconds_of : Sp := sp1 (α := Tup (Tup Nat)) (fun T => ∃ m n k, Tab k T m n) fun T => RF (List.range (ncol T))
theorem len_seconds_of : ∀ vs H Q E, sp_seconds_of vs H Q E → vs.length = 1 := sp1_len
theorem sem_seconds_of : ∀ vs H Q E, sp_seconds_of vs H Q E → t_seconds_of K (eN Q) (start ["table"] vs) H := fun vs H Q E h => by
  obtain ⟨a, va, rfl, ra, ⟨m, n, k, hp⟩, q⟩ := h
  obtain ⟨r, h0, _, hr⟩ := hp.hd
  have h6 := hp.n6
  refine q_ret (f_lstRg (n := ncol a) (ex_is (x_lenT (x_ixT (α := Tup Nat) (a := (r : Tup Nat)) (x_var rfl ra) (x_n (n := 0) rfl) h0)) (by rw [hr]; exact hp.ncol.symm)) (by rw [hp.ncol]; omega)) q
/-! ### looks at tables, worths, lots: all is well -/
theorem enum_no {xs : List (List Nat)} : ((enumL xs).filter fun _ => false).map (fun p : Nat × List Nat => p.1) = [] := by
  rw [List.filter_eq_nil_iff.mpr fun _ _ => by simp]
  rfl
structure Well (k : Nat) (T : List (List Nat)) : Prop where
  ex : ∃ m n, Tab k T m n
theorem Well.len {k : Nat} {T : List (List Nat)} (h : Well k T) : 1 ≤ T.length ∧ T.length ≤ 6 := by
  obtain ⟨m, n, h⟩ := h.ex
  have h1 := h.m1
  have h2 := h.m6
  have h3 := h.len
  omega
theorem Well.hd {k : Nat} {T : List (List Nat)} (h : Well k T) : ∃ f, T[0]? = some f ∧ ∀ r ∈ T, List.length f = List.length r ∧ 1 ≤ List.length r ∧ List.length r ≤ 6 ∧ LeAll k r := by
  obtain ⟨m, n, h⟩ := h.ex
  obtain ⟨f, h0, _, hf⟩ := h.hd
  exact ⟨f, h0, fun r hr => ⟨by rw [hf, h.row r hr], by rw [h.row r hr]; exact h.n1, by rw [h.row r hr]; exact h.n6, h.le r hr⟩⟩
/-- the list of the indexes of wrong rows is empty -/
theorem no_wrong {σ : L2.St} {H : Hp} {T : List (List Nat)} {te : TE} {k i j : Nat} (h : EX (α := Tup (Tup Nat)) te σ H T) (hw : Well k T) (hi : ∀ x y, wipe (((wipe σ [i, j]).set i (some x)).set j (some y)) [i, j] = wipe σ [i, j])
    (h0 : ∀ x y H1, Ex H H1 → EX (α := Tup (Tup Nat)) te (((wipe σ [i, j]).set i (some x)).set j (some y)) H1 T) (hx : ∀ x y, (((wipe σ [i, j]).set i (some x)).set j (some y))[i]? = some (some x)) (hy : ∀ x y, (((wipe σ [i, j]).set i (some x)).set j (some y))[j]? = some (some y)) :
    EF (α := Nat) (tLc (iEnumT K (tCons te tNil)) (gTup K 2 (gCons (gName i) (gCons (gName j) gNil))) (tNot (tB (tCall (sp_row_like k) [] E0 (tCons (tOp (rIxT K) te (tC (.int 0))) (tCons (tVar j) tNil))))) (tVar i) [i, j]) σ H [] := by
  obtain ⟨f, hf, hr⟩ := hw.hd
  refine ef_is (f_lcP (α := Nat) (β := Tup Nat) (γ := Nat) (xs := (enumL T : List (Nat × Tup Nat))) (fun _ => false) (fun p => p.1) (i_enumT (α := Tup Nat) h) (Nat.le_trans (Nat.le_of_eq (enumL_len _)) (Nat.le_trans hw.len.2 (by decide))) hi (fun a x y H1 hm e r1 r2 => ?_) fun a x y H1 hm e r1 r2 z => nomatch z) enum_no
  have hm' := mem_enumL hm
  exact et_is (et_not (t_B (x_call2 (f := fun _ _ => true) (x_ixT (α := Tup Nat) (h0 x y H1 e) (x_n (n := 0) rfl) hf) (x_var (hy x y) r2) (hr a.2 (List.mem_of_getElem? hm'))))) rfl
/-- a table of up to 60 meetings -/
structure Tbl (T : List (List Nat)) : Prop extends Well 9 T where
  sum : (T.map List.sum).sum ≤ 60
def sp_wrong_in_table : Sp := sp1 (α := Tup (Tup Nat)) (fun T => Tbl T) fun _ => RF ([] : List Nat)
theorem len_wrong_in_table : ∀ vs H Q E, sp_wrong_in_table vs H Q E → vs.length = 1 := sp1_len
theorem sem_wrong_in_table : ∀ vs H Q E, sp_wrong_in_table vs H Q E → t_wrong_in_table K sp_is_row_like sp_total_by (eN Q) (start ["value", "found", "index", "row"] vs) H := fun vs H Q E h => by
  obtain ⟨T, va, rfl, ra, hp, q⟩ := h
  have hl := hp.toWell.len
  refine z_if (bad_tuple (α := Tup Nat) (x_var rfl ra) hl.1 hl.2) (fun z => nomatch z) fun _ H1 e => z_next ?_
  have ra1 := mn e ra
  refine q_set (f_cutA (α := Nat) (as := []) (no_wrong (x_var rfl ra1) hp.toWell (fun _ _ => rfl) (fun x y H2 e2 => x_var rfl (mn e2 ra1)) (fun _ _ => rfl) (fun _ _ => rfl)).x o_none (o_some x_i)) fun u H2 ⟨e2, p, us, h1, h2, h3, h4⟩ => ?_
  subst h1
  rw [cutA_nil] at h4
  have rp2 : rp (α := Lst Nat) ([] : List Nat) (.ref p) H2 := ⟨p, us, rfl, h3, h4⟩
  refine z_if (t_test (x_neNil (α := Nat) (as := []) (x_var rfl rp2) (by decide))) (fun z => nomatch z) fun _ H3 e3 => z_next ?_
  have ra3 := mn e3 (mn e2 ra1)
  refine q_ret (r_if RF.bk (t_test (x_le (j := 60) (x_ni (x_call1 (f := fun T : Tup (Tup Nat) => (List.map List.sum T).sum) (x_var rfl ra3) hl.2)) x_i)) (fun _ => f_lst xs_nil (Nat.zero_le _)) fun z => ?_) fun v H' r => q v H' (RF.bk.bk ((e.trans e2).trans e3) r)
  have hs := hp.sum
  have : decide (((List.map List.sum T).sum : Int) ≤ 60) = true := decide_eq_true (by omega)
  rw [this] at z
  cases z
/-- a look that finds nothing -/
def RN : Res := fun H v H' => Ex H H' ∧ v = .non
theorem RN.bk : Bk RN := ⟨fun e h => ⟨e.trans h.1, h.2⟩⟩
def sp_check_table : Sp := sp1 (α := Tup (Tup Nat)) (fun T => Tbl T) fun _ => RN
theorem len_check_table : ∀ vs H Q E, sp_check_table vs H Q E → vs.length = 1 := sp1_len
theorem sem_check_table : ∀ vs H Q E, sp_check_table vs H Q E → t_check_table K sp_wrong_in_table (eN Q) (start ["value", "index"] vs) H := fun vs H Q E h => by
  obtain ⟨T, va, rfl, ra, hp, q⟩ := h
  exact z_for0 (α := Nat) (i_list (f_call1 (f := fun _ => ([] : List Nat)) (x_var rfl ra) hp).x) fun H' e => q _ H' ⟨e, rfl⟩
end K77

namespace K77
open PySem L2 DL Evl StX
open Arg (rp mn)
open Rep (mt)
open MT (ed cel keys vals get put)
variable {K : PySem.W.Frag}
def oV : Option Nat → V
  | none => .non
  | some n => .int (n : Int)
theorem oV_rp (o : Option Nat) (H : Hp) : rp o (oV o) H := by cases o <;> rfl
theorem oV_of {o : Option Nat} {v : V} {H : Hp} (h : rp o v H) : v = oV o := by cases o <;> exact h
theorem lst_one {α : Type} [Arg α] {σ : L2.St} {H : Hp} {ta : TE} {a : α} (h : EX ta σ H a) : EF (tLst (tCons ta tNil)) σ H [a] := f_lst (xs_cons h xs_nil) (show 1 ≤ 100000 by decide)

/-! ### the law's draws -/
def sp__law_take : Sp := fun vs H Q _ => ∃ (p : Addr) (many : Nat), vs = [.ref p, .int (many : Int)] ∧ Wl p H ∧ 0 < many ∧ many < 1000000 ∧ ∀ (r : Nat) H', r < many → Ex (Mk p H) H' → Wl p H' → Q (.int (r : Int)) H'
theorem len__law_take : ∀ vs H Q E, sp__law_take vs H Q E → vs.length = 2 := fun vs H Q E ⟨_, _, e, _⟩ => by rw [e]; rfl
theorem rp3 {p : Addr} {H : Hp} {a b c : Int} (h : H p = some (.lst [.int a, .int b, .int c])) : rp (α := Lst Int) [a, b, c] (.ref p) H := ⟨p, _, rfl, h, .cons rfl (.cons rfl (.cons rfl .nil))⟩
theorem x_mod {σ : L2.St} {H : Hp} {ta tb : TE} {i j : Int} (ha : EX ta σ H i) (hb : EX tb σ H j) (h : 0 < j) : EX (tOp oMod ta tb) σ H (i % j) := x_I ha hb h fun _ => rfl
theorem x_div {σ : L2.St} {H : Hp} {ta tb : TE} {i j : Int} (ha : EX ta σ H i) (hb : EX tb σ H j) (h : CDiv i j) : EX (tOp oDiv ta tb) σ H (i / j) := x_I ha hb h fun _ => rfl
theorem x_mulR {σ : L2.St} {H : Hp} {ta tb : TE} {i j : Int} (ha : EX ta σ H i) (hb : EX tb σ H j) (h1 : -1000000000000 ≤ j) (h2 : j ≤ 1000000000000) : EX (tOp oMul ta tb) σ H (i * j) := x_mul ha hb (.inr ⟨by omega, by omega⟩)
theorem x_mulL {σ : L2.St} {H : Hp} {ta tb : TE} {i j : Int} (ha : EX ta σ H i) (hb : EX tb σ H j) (h1 : -1000000000000 ≤ i) (h2 : i ≤ 1000000000000) : EX (tOp oMul ta tb) σ H (i * j) := x_mul ha hb (.inl ⟨by omega, by omega⟩)
theorem modN {i : Int} {m : Nat} (h : 0 < m) : ∃ r : Nat, r < m ∧ i % (m : Int) = (r : Int) := by
  have h1 : 0 ≤ i % (m : Int) := Int.emod_nonneg _ (by omega)
  have h2 : i % (m : Int) < (m : Int) := Int.emod_lt_of_pos _ (by omega)
  exact ⟨(i % (m : Int)).toNat, by omega, by omega⟩
theorem wl_upd {p q : Addr} {H : Hp} {o : HO} (h : Wl p H) (hq : H q = none) : Wl p (upd H q o) := h.ex (Ex.new hq)
theorem q_any {σ : L2.St} {H : Hp} {te : TE} {g : TG} {R : Res} {nx bk ct : L2.St → Hp → Prop} {rt : VK} (h : EvR te σ H R) (k : ∀ v H', R H v H' → g v σ H' nx) : tAsg te g ⟨nx, rt, bk, ct⟩ σ H := h H (Ex.refl H) _ k
theorem z_setL {σ : L2.St} {H : Hp} {te : TE} {nx bk ct : L2.St → Hp → Prop} {rt : VK} {p : Addr} {xs : List V} {i j : Nat} {k x : Int} (h : EX te σ H x) (hv : σ[i]? = some (some (.ref p))) (hl : H p = some (.lst xs)) (hk : ixN xs.length k = some j) (q : ∀ H1, Ex H H1 → nx σ (upd H1 p (.lst (xs.set j (.int x))))) :
    tAsg te (gSub (tVar i) (tC (.int k)) rSetL) ⟨nx, rt, bk, ct⟩ σ H := h H (Ex.refl H) _ fun v H1 ⟨e1, ev⟩ => by
  have ev : v = .int x := ev
  subst ev
  exact ⟨.ref p, hv, p, xs, k, j, rfl, rfl, e1 _ _ hl, hk, q H1 e1⟩
theorem sem__law_take : ∀ vs H Q E, sp__law_take vs H Q E → t__law_take K (eN Q) (start ["well", "many", "told", "span"] vs) H := fun vs H Q E h => by
  obtain ⟨p, many, rfl, ⟨a, b, c, hp⟩, h1, h2, q⟩ := h
  refine z_if (t_test (x_gt (x_ixL (α := Int) (i := 0) (a := a) (x_var rfl (rp3 hp)) (x_n rfl) rfl) x_i)) (fun hb H1 e1 => ?_) fun hb H1 e1 => z_next ?_
  · -- told apart
    refine (x_ixL (α := Int) (i := 0) (a := a) (K := K) (x_var rfl (rp3 hp)) (x_n rfl) rfl) H1 e1 _ fun v H2 ⟨e2, ev⟩ => ?_
    have ev : v = .int a := ev
    subst ev
    have hp2 := (e1.trans e2) _ _ hp
    refine ⟨.int (many : Int), rfl, a, (many : Int), rfl, ⟨by omega, by omega⟩, fun t ht => ?_⟩
    have htp : t ≠ p := fun z => by rw [z, hp2] at ht; cases ht
    refine ⟨t, _, rfl, st_of upd_same, rfl, _, _, rfl, .ref p, rfl, p, _, 0, 0, rfl, rfl, (by rw [upd_ne htp.symm]; exact hp2), rfl, _, _, rfl, rfl, ?_⟩
    obtain ⟨r, hr, er⟩ := modN (i := a) h1
    rw [er]
    refine q_ret (x_var (a := r) rfl rfl) fun v H3 ⟨e3, ev⟩ => ?_
    have ev : v = .int (r : Int) := ev
    subst ev
    exact q r H3 hr ((((mk_mono (ex_mk.trans (e1.trans e2))).trans (mk_mono (ex_mk.trans (Ex.new ht)))).trans mk_upd).trans e3) (Wl.ex e3 ⟨_, _, _, upd_same⟩)
  · refine q_any (x_tup (α := Int) (as := [0, 1]) (xs_cons x_i (xs_cons x_i xs_nil)) (show 2 ≤ 100000 by decide)) fun v H2 ⟨e2, t, us, hv, ht, its⟩ => ?_
    have eu := its_int its
    subst hv eu
    refine ⟨t, _, rfl, st_of ht, rfl, _, _, rfl, _, _, rfl, rfl, ?_⟩
    have hp2 := (e1.trans e2) _ _ hp
    refine z_while (fun m σ' H' => ∃ told span : Int, σ' = [some (.ref p), some (.int (many : Int)), some (.int told), some (.int span)] ∧ Ex (Mk p H) H' ∧ Wl p H' ∧ 1 ≤ span ∧ m = (65536 * (many : Int) - span).toNat) (65536 * (many : Int) - 1).toNat ⟨0, 1, rfl, ex_mk.trans (e1.trans e2), ⟨_, _, _, hp2⟩, by decide, rfl⟩ ?_
    rintro m σ' H' ⟨told, span, rfl, p1, ⟨a', b', c', p2⟩, p3, rfl⟩
    refine ⟨_, t_test (x_lt (x_var (a := span) rfl rfl) (x_mulL (i := 65536) (j := (many : Int)) x_i (x_var (a := (many : Int)) rfl rfl) (by decide) (by decide))), fun hb' H3 e3 N hN => ?_, fun hb' H3 e3 => ?_⟩
    · have hlt : span < 65536 * (many : Int) := of_decide_eq_true hb'
      have q3 := e3 _ _ p2
      refine z_setL (x_add (x_ixL (α := Int) (i := 2) (a := c') (x_var rfl (rp3 q3)) (x_n rfl) rfl) x_i) rfl q3 (j := 2) rfl fun H4 e4 => ?_
      refine z_setL (x_mod (x_intI (x_add (x_add (x_mulR (x_ixL (α := Int) (i := 1) (a := b') (x_var rfl (rp3 upd_same)) (x_n rfl) rfl) x_i (by decide) (by decide)) (x_mulR (x_ixL (α := Int) (i := 2) (a := c' + 1) (x_var rfl (rp3 upd_same)) (x_n rfl) rfl) x_i (by decide) (by decide))) x_i)) x_i (by decide)) rfl upd_same (j := 1) rfl fun H5 e5 => ?_
      refine (xs_cons (x_add (x_mulR (x_var (a := told) rfl rfl) x_i (by decide) (by decide)) (x_mod (x_intI (x_div (x_ixL (α := Int) (i := 1) (a := _) (x_var rfl (rp3 upd_same)) (x_n rfl) rfl) x_i ⟨by decide, by decide⟩)) x_i (by decide))) (xs_cons (x_mulR (x_var (a := span) rfl rfl) x_i (by decide) (by decide)) xs_nil)) _ (Ex.refl _) _ fun us H6 e6 its => ?_
      have eu := its_int its
      subst eu
      refine ⟨_, _, rfl, ?_⟩
      have f1 : Ex (Mk p H) H3 := p1.trans e3
      refine hN _ _ _ ?_ ⟨_, _, rfl, ((((mk_mono ((((mk_mono (f1.trans e4)).trans mk_upd).trans e5))).trans mk_upd).trans e6)), Wl.ex e6 ⟨_, _, _, upd_same⟩, by omega, rfl⟩
      omega
    · refine q_ret (x_mod (x_intI (x_var (a := told) rfl rfl)) (x_var (a := (many : Int)) rfl rfl) (by omega)) fun v H4 ⟨e4, ev⟩ => ?_
      obtain ⟨r, hr, er⟩ := modN (i := told) h1
      rw [er] at ev
      have ev : v = .int (r : Int) := ev
      subst ev
      exact q r H4 hr ((p1.trans e3).trans e4) (Wl.ex (e3.trans e4) ⟨_, _, _, p2⟩)

/-! ### the script -/
theorem s_len {σ : L2.St} {H : Hp} {i : Nat} {a : Addr} {ns : List Int} (h : σ[i]? = some (some (.ref a))) (hs : SqL K H a (ns.map V.int)) : EX (tCB (rLenQ K) (tCons (tVar i) tNil)) σ H ns.length := fun H1 e Q q =>
  ⟨.ref a, h, a, _, rfl, .inl (ex_l e hs), q _ _ ⟨Ex.refl _, by rw [List.length_map]; rfl⟩⟩
theorem s_ix {σ : L2.St} {H : Hp} {i : Nat} {tb : TE} {a : Addr} {ns : List Int} {k : Nat} {x : Int} (h : σ[i]? = some (some (.ref a))) (hs : SqL K H a (ns.map V.int)) (hk : EX tb σ H k) (hx : ns[k]? = some x) : EX (tOp (rIxL K) (tVar i) tb) σ H x := fun H1 e Q q =>
  ⟨.ref a, h, hk H1 e _ fun u H2 ⟨e2, r2⟩ => ⟨a, _, (k : Int), .int x, rfl, r2, ex_l (e.trans e2) hs, atI_nat (by rw [List.getElem?_map, hx]; rfl), q _ _ ⟨e2, rfl⟩⟩⟩
theorem s_cut6 {σ : L2.St} {H : Hp} {i : Nat} {a : Addr} {ns : List Int} (h : σ[i]? = some (some (.ref a))) (hs : SqL K H a (ns.map V.int)) : ∃ as : List Int, as.length ≤ 6 ∧ EF (α := Int) (tSl (rSlL K) (tVar i) tNoPart (tPart (tC (.int 6)))) σ H as := by
  have e6 : HT.sIx (ns.map V.int).length (ns.map V.int).length (some 6) = min 6 (ns.map V.int).length := HT.sIx_nat _ _ 6
  refine ⟨(ns.drop (HT.sIx (ns.map V.int).length 0 none)).take (HT.sIx (ns.map V.int).length (ns.map V.int).length (some 6) - HT.sIx (ns.map V.int).length 0 none), ?_, fun H1 e Q q => ⟨.ref a, h, 6, rfl, a, _, rfl, ex_l e hs, fun p hp => q _ _ ⟨Ex.new hp, p, _, rfl, hp, upd_same, ?_⟩⟩⟩
  · rw [List.length_take, e6]
    omega
  · have e : cutV (ns.map V.int) none (some 6) = ((ns.drop (HT.sIx (ns.map V.int).length 0 none)).take (HT.sIx (ns.map V.int).length (ns.map V.int).length (some 6) - HT.sIx (ns.map V.int).length 0 none)).map V.int := by
      rw [List.map_take, List.map_drop]
      rfl
    rw [e]
    exact of_ints _
def sp__law_well (K : PySem.W.Frag) : Sp := fun vs H Q _ => ∃ (a : Addr) (ns : List Int) (lap : Nat), vs = [.ref a, .int (lap : Int)] ∧ SqL K H a (ns.map V.int) ∧ ∀ p H', Ex H H' → H p = none → Wl p H' → Q (.ref p) H'
theorem len__law_well : ∀ vs H Q E, sp__law_well K vs H Q E → vs.length = 2 := fun vs H Q E ⟨_, _, _, e, _⟩ => by rw [e]; rfl
theorem x_absI {σ : L2.St} {H : Hp} {ta : TE} {i : Int} (h : EX ta σ H i) : EX (tCB rAbsQ (tCons ta tNil)) σ H (if i < 0 then -i else i) := fun H1 e Q q =>
  h H1 e _ fun v H2 ⟨e2, r2⟩ => ⟨i, by rw [show v = V.int i from r2], q _ _ ⟨e2, rfl⟩⟩
theorem sem__law_well : ∀ vs H Q E, sp__law_well K vs H Q E → t__law_well K (eN Q) (start ["script", "lap", "own", "stir", "each"] vs) H := fun vs H Q E h => by
  obtain ⟨a, ns, lap, rfl, hs, q⟩ := h
  -- own
  have own : ∃ x : Int, EX (tIf (tTest (tOp oLt (tVar 1) (tCB (rLenQ K) (tCons (tVar 0) tNil)))) (tCB rIntQ (tCons (tOp (rIxL K) (tVar 0) (tVar 1)) tNil)) (tC (.int 0))) [some (.ref a), some (.int (lap : Int)), none, none, none] H x := by
    by_cases hl : lap < ns.length
    · refine ⟨ns[lap], ex_is (x_if (t_test (x_ltN (x_var (a := lap) rfl rfl) (s_len rfl hs))) (fun _ => x_intI (s_ix rfl hs (x_var (a := lap) rfl rfl) (List.getElem?_eq_getElem hl))) (fun _ => x_i (i := 0))) ?_⟩
      rw [decide_eq_true hl]
      rfl
    · refine ⟨0, ex_is (x_if (x := (0 : Int)) (t_test (x_ltN (x_var (a := lap) rfl rfl) (s_len rfl hs))) (fun hb => absurd (of_decide_eq_true hb) hl) (fun _ => x_i (i := 0))) ?_⟩
      split <;> rfl
  obtain ⟨x, own⟩ := own
  refine q_set own fun v H1 ⟨e1, ev⟩ => ?_
  have ev : v = .int x := ev
  subst ev
  refine q_set (x_add (x_i (i := 7919)) (x_mulL (i := 104729) (j := (lap : Int)) x_i (x_var (a := (lap : Int)) rfl rfl) (by decide) (by decide))) fun v H2 ⟨e2, ev⟩ => ?_
  have hs2 := ex_l (e1.trans e2) hs
  obtain ⟨as, h6, hc⟩ := s_cut6 (K := K) (σ := [some (.ref a), some (.int (lap : Int)), some (.int x), some v, none]) (H := H2) (i := 0) rfl hs2
  refine z_for (α := Int) (i_list (f_cat hc.x (lst_one (x_var (a := x) rfl rfl)).x (by simp only [List.length_cons, List.length_nil]; omega)).x) (fun i σ' H' => ∃ s y, σ' = [some (.ref a), some (.int (lap : Int)), some (.int x), some (.int s), y]) (fun H3 e3 => ⟨_, none, by rw [show v = .int _ from ev]; rfl⟩) (fun i b z σ' H0 H' hb e3 hP e4 rz N hN => ?_) fun σ' H' e3 hP => ?_
  · obtain ⟨s, y, rfl⟩ := hP
    have ez : z = .int b := rz
    subst ez
    refine q_set (i := 3) (x_mod (x_intI (x_add (x_add (x_mulR (x_var (a := s) rfl rfl) x_i (by decide) (by decide)) (x_mod (x_intI (x_var (a := b) rfl rfl)) x_i (by decide))) x_i)) x_i (by decide)) fun u H4 ⟨e5, eu⟩ => ?_
    have eu : u = .int _ := eu
    subst eu
    exact hN _ _ e5 ⟨_, _, rfl⟩
  · obtain ⟨s, y, rfl⟩ := hP
    refine q_ret (f_lst (α := Int) (xs_cons (x_if (y := (0 : Int)) (et_or (a := decide (x < 0)) (b := decide ((10 : Int) ^ 18 ≤ x)) (t_test (x_lt (x_var (a := x) rfl rfl) x_i)) fun _ => t_test (x_ge (j := (10 : Int) ^ 18) (x_var (a := x) rfl rfl) (x_I (c := (10 : Int) ^ 18) (i := 10) (j := 18) x_i x_i ⟨by decide, by decide, by decide⟩ fun _ => rfl))) (fun _ => x_absI (x_var (a := x) rfl rfl)) fun _ => x_i) (xs_cons (x_var (a := s) rfl rfl) (xs_cons x_i xs_nil))) (show 3 ≤ 100000 by decide)) fun w H3 ⟨e4, p, us, hv, hp, h1, its⟩ => ?_
    have eu := its_int its
    subst hv eu
    have ee := (e1.trans e2).trans e3
    exact q p H3 (ee.trans e4) (fresh_back ee hp) ⟨_, _, _, h1⟩
/-- one draw -/
theorem w_take {σ : L2.St} {G : Hp} {i : Nat} {p : Addr} {te : TE} {m : Nat} (h : σ[i]? = some (some (.ref p))) (he : EX te σ G m) (h1 : 0 < m) (h2 : m < 1000000) : EvW (β := Nat) (tCall sp__law_take [] E0 (tCons (tVar i) (tCons te tNil))) σ G p fun r => r < m := fun H1 e w Q q =>
  ⟨.ref p, h, he H1 e _ fun v H2 ⟨e2, r2⟩ => ⟨p, m, by rw [show v = V.int (m : Int) from r2]; rfl, w.ex e2, h1, h2, fun r H3 hr e3 w3 => q r _ H3 hr ((mk_mono (ex_mk.trans e2)).trans e3) w3 rfl⟩⟩
theorem cb1 {σ : L2.St} {H : Hp} {Q : VK} {r : List V → Hp → VK → Prop} {ta : TE} (h : ta σ H fun x H1 => r [x] H1 Q) : tCB r (tCons ta tNil) σ H Q := h
theorem ret1 {σ : L2.St} {H : Hp} {D : Ends} {te : TE} (h : te σ H D.rt) : tRet te D σ H := h

/-! ### _law_same -/
abbrev nmO (o : Option Nat) : String := if o.isSome then "int" else "NoneType"
theorem ty_o {o : Option Nat} {T : String} {b : Bool} (h : kitB (nmO o) T = some b) : ∀ v H, rp o v H → ∃ t, TyX K H v t ∧ PySem.W.kitOne K t (.type T) = some b := fun v H r => by
  cases o with
  | none =>
    have e : v = V.non := r
    subst e
    exact ⟨_, .base .non, kit_ty h⟩
  | some i =>
    have e : v = V.int (i : Int) := r
    subst e
    exact ⟨_, .base (.int i), kit_ty h⟩
theorem kit_o {o : Option Nat} {T : String} {b c : Bool} (h1 : kitB "int" T = some b) (h2 : kitB "NoneType" T = some c) : kitB (nmO o) T = some (if o.isSome then b else c) := by
  cases o with
  | none => exact h2
  | some i => exact h1
theorem x_isiO {σ : L2.St} {H : Hp} {ta : TE} {o : Option Nat} {T : String} {b c : Bool} (h : EX ta σ H o) (h1 : kitB "int" T = some b) (h2 : kitB "NoneType" T = some c) : EX (tCB (rIsi K) (tCons ta (tCons (tC (.ty T)) tNil))) σ H (if o.isSome then b else c) := x_isi h (ty_o (kit_o h1 h2))
theorem x_isiN {σ : L2.St} {H : Hp} {ta : TE} {o : Option Nat} {T : String} (h : EX ta σ H o) (h1 : kitB "int" T = some false) (h2 : kitB "NoneType" T = some false) : EX (tCB (rIsi K) (tCons ta (tCons (tC (.ty T)) tNil))) σ H false := ex_is (x_isiO h h1 h2) (by cases o <;> rfl)
theorem x_isiT {σ : L2.St} {H : Hp} {ta : TE} {o : Option Nat} (h : EX ta σ H o) : EX (tCB (rIsiT K) (tCons ta (tCons (tTup (tCons (tC (.ty "tuple")) (tCons (tC (.ty "list")) tNil))) tNil))) σ H false := fun H1 e Q q =>
  h H1 e _ fun v H2 ⟨e2, r2⟩ => ⟨sz_of (show 2 ≤ 100000 by decide), fun p hp => by
    obtain ⟨t, h1, h2⟩ := ty_o (K := K) (o := o) (T := "tuple") (b := false) ((kit_o (b := false) (c := false) (by decide +kernel) (by decide +kernel)).trans (by cases o <;> rfl)) v (upd H2 p (.tup [.ty "tuple", .ty "list"])) (mn (Ex.new hp) r2)
    obtain ⟨t', h1', h2'⟩ := ty_o (K := K) (o := o) (T := "list") (b := false) ((kit_o (b := false) (c := false) (by decide +kernel) (by decide +kernel)).trans (by cases o <;> rfl)) v (upd H2 p (.tup [.ty "tuple", .ty "list"])) (mn (Ex.new hp) r2)
    have et : t = t' := by
      cases o with
      | none =>
        have ev : v = .non := r2
        subst ev
        cases h1 with
        | base a => cases h1' with
          | base b => cases a; cases b; rfl
      | some i =>
        have ev : v = .int (i : Int) := r2
        subst ev
        cases h1 with
        | base a => cases h1' with
          | base b => cases a; cases b; rfl
    subst et
    exact ⟨v, p, _, t, [.type "tuple", .type "list"], false, rfl, upd_same, .cons (.ty _) (.cons (.ty _) .nil), h1, kitAny_cons h2 (fun _ => kitAny_cons h2' (fun _ => rfl) (fun z => nomatch z)) (fun z => nomatch z), q _ _ ⟨e2.trans (Ex.new hp), rfl⟩⟩⟩
def sp__law_same : Sp := sp2 (α := Option Nat) (β := Option Nat) (fun _ _ => True) fun a b => RX (decide (a = b))
theorem len__law_same : ∀ vs H Q E, sp__law_same vs H Q E → vs.length = 2 := sp2_len
theorem same_if {a b : Option Nat} {s : Bool} (h1 : (b.isSome || a.isSome) = s) : s = true → (b.isSome && (a.isSome && decide (b = a))) = decide (a = b) := fun hs => by
  cases a with
  | none => cases b with
    | none => exact absurd (h1.trans hs) (by simp)
    | some y => simp
  | some x => cases b with
    | none => simp
    | some y => simp [eq_comm]
theorem isS (o : Option Nat) : (if o.isSome = true then true else false) = o.isSome := by cases o <;> rfl
theorem sem__law_same : ∀ vs H Q E, sp__law_same vs H Q E → t__law_same K (eN Q) (start ["told", "due", "k"] vs) H := fun vs H Q E h => by
  obtain ⟨a, b, va, vb, rfl, ra, rb, _, q⟩ := h
  have ea := oV_of ra
  have eb := oV_of rb
  subst ea eb
  have xa : ∀ {H'}, EX (tVar 0) [some (oV a), some (oV b), none] H' a := fun {H'} => x_var rfl (oV_rp a H')
  have xb : ∀ {H'}, EX (tVar 1) [some (oV a), some (oV b), none] H' b := fun {H'} => x_var rfl (oV_rp b H')
  refine z_if (et_or (a := false) (b := false) (et_is (t_test (x_neB (x_isiN xb (by decide +kernel) (by decide +kernel)) (x_isiN xa (by decide +kernel) (by decide +kernel)))) rfl) fun _ => et_is (t_test (x_neB (x_isiN xb (by decide +kernel) (by decide +kernel)) (x_isiN xa (by decide +kernel) (by decide +kernel)))) rfl) (fun z => nomatch z) fun _ H1 e1 => z_next ?_
  refine z_if (t_B (x_isiT xb)) (fun z => nomatch z) fun _ H2 e2 => z_next ?_
  refine z_if (et_or (a := false) (b := false) (t_B (x_isiN xb (by decide +kernel) (by decide +kernel))) fun _ => t_B (x_isiN xa (by decide +kernel) (by decide +kernel))) (fun z => nomatch z) fun _ H3 e3 => z_next ?_
  have ee := (e1.trans e2).trans e3
  refine z_if (et_or (a := b.isSome) (b := a.isSome) (et_is (t_B (x_isiO (b := true) (c := false) xb (by decide +kernel) (by decide +kernel))) (isS b)) fun _ => et_is (t_B (x_isiO (b := true) (c := false) xa (by decide +kernel) (by decide +kernel))) (isS a)) (fun hs H4 e4 => ?_) fun hs H4 e4 => z_next ?_
  · refine q_ret (ex_is (x_and (ex_is (x_isiO (b := true) (c := false) xb (by decide +kernel) (by decide +kernel)) (isS b)) fun _ => x_and (ex_is (x_isiO (b := true) (c := false) xa (by decide +kernel) (by decide +kernel)) (isS a)) fun _ => x_eqS xb xa sc_on) (same_if rfl hs)) fun v H5 r => q v H5 (RX.bk.bk (ee.trans e4) r)
  · refine z_if (et_or (a := false) (b := false) (t_B (x_isiN xb (by decide +kernel) (by decide +kernel))) fun _ => t_B (x_isiN xa (by decide +kernel) (by decide +kernel))) (fun z => nomatch z) fun _ H5 e5 => z_next ?_
    have hb : b = none := by
      cases b with
      | none => rfl
      | some y => cases hs
    have ha : a = none := by
      subst hb
      cases a with
      | none => rfl
      | some y => cases hs
    subst ha hb
    refine z_if (et_or (a := true) (b := true) (t_B (x_isN (o := (none : Option Nat)) nn_nat xb)) fun z => nomatch z) (fun _ H6 e6 => ?_) fun z => nomatch z
    exact q_ret (ex_is (x_and (x_isN (o := (none : Option Nat)) nn_nat xb) fun _ => x_isN (o := (none : Option Nat)) nn_nat xa) rfl) fun v H7 r => q v H7 (RX.bk.bk (((ee.trans e4).trans e5).trans e6) r)
/-! ### _law_whole, _law_is_round -/
def sp__law_whole : Sp := sp1 (α := Int) (fun _ => True) fun _ => RX true
theorem len__law_whole : ∀ vs H Q E, sp__law_whole vs H Q E → vs.length = 1 := sp1_len
theorem sem__law_whole : ∀ vs H Q E, sp__law_whole vs H Q E → t__law_whole K (eN Q) (start ["value"] vs) H := fun vs H Q E h => by
  obtain ⟨a, va, rfl, ra, hp, q⟩ := h
  exact q_ret (ex_is (x_and (x_isi (b := true) (x_var rfl ra) (ty_int (by decide +kernel))) fun _ => x_not (x_isi (b := false) (x_var rfl ra) (ty_int (by decide +kernel)))) rfl) q
structure GoodR (r : List (Nat × Nat)) (m n : Nat) : Prop where
  up : (keys r).Pairwise (· < ·)
  nd : (vals r).Nodup
  lt : ∀ p ∈ r, p.1 < m ∧ p.2 < n
  pos : 1 ≤ r.length
  le : r.length ≤ 6
theorem x_lenP {α β : Type} [Rep α] [Rep β] {σ : L2.St} {H : Hp} {ta : TE} {t : α × β} (h : EX ta σ H t) : EX (tCB (rLenQ K) (tCons ta tNil)) σ H (2 : Nat) := fun H1 e Q q =>
  h H1 e _ fun v H2 ⟨e2, p, x, y, hv, h1, _⟩ => ⟨p, [x, y], by rw [hv], .inr (st_of h1), q _ _ ⟨e2, rfl⟩⟩
theorem count_cast (l : List Nat) (k : Nat) : (l.map fun n : Nat => (n : Int)).count (k : Int) = l.count k := by
  induction l with
  | nil => rfl
  | cons a l ih =>
    rw [List.map_cons, List.count_cons, List.count_cons, ih]
    have : ((a : Int) == (k : Int)) = (a == k) := by
      rw [Bool.eq_iff_iff, beq_iff_eq, beq_iff_eq]
      omega
    rw [this]
theorem x_cnt {σ : L2.St} {H : Hp} {ta tb : TE} {as : List Nat} {k : Nat} (h : EL ta σ H as) (hk : EX tb σ H k) : EX (tBM K "list" (rCntI K) ta (tCons tb tNil)) σ H (as.count k) := fun H1 e Q q =>
  h H1 e _ fun v H2 ⟨e2, p, vs, hv, h1, h2⟩ => by
    rw [its_nat h2] at h1
    subst hv
    exact ⟨.inl ⟨rfl, _, sq_of h1⟩, hk H2 (e.trans e2) _ fun u H3 ⟨e3, r3⟩ => ⟨p, as.map fun n : Nat => (n : Int), (k : Int), rfl, by rw [show u = V.int (k : Int) from r3], sq_of (e3 _ _ h1), q _ _ ⟨e2.trans e3, by rw [count_cast]; rfl⟩⟩⟩
theorem all_one {l : List Nat} (h : l.Nodup) : (l.map fun k => decide (l.count k = 1)).all id = true := by
  rw [List.all_eq_true]
  intro b hb
  obtain ⟨k, hk, e⟩ := List.mem_map.mp hb
  rw [← e]
  have h1 : l.count k ≤ 1 := List.nodup_iff_count.mp h k
  have h2 := List.count_pos_iff.mpr hk
  exact decide_eq_true (by omega)
theorem x_geP {σ : L2.St} {H : Hp} {ta tb : TE} {x y : Nat × Nat} (h1 : EX ta σ H x) (h2 : EX tb σ H y) (hlt : x.1 < y.1) : EX (tOp (rGeT K) ta tb) σ H false := fun H1 e Q q =>
  h1 H1 e _ fun v H2 ⟨e2, p, a, b, hv, g1, ga, gb⟩ => h2 H2 (e.trans e2) _ fun u H3 ⟨e3, p', a', b', hu, g1', ga', gb'⟩ => by
    have ea : a = .int (x.1 : Int) := ga
    have eb : b = .int (x.2 : Int) := gb
    have ea' : a' = .int (y.1 : Int) := ga'
    have eb' : b' = .int (y.2 : Int) := gb'
    subst ea eb ea' eb'
    refine ⟨p, p', [(x.1 : Int), (x.2 : Int)], [(y.1 : Int), (y.2 : Int)], hv, hu, st_of (e3 _ _ g1), st_of g1', ?_⟩
    have hl : HT.lexLt [(x.1 : Int), (x.2 : Int)] [(y.1 : Int), (y.2 : Int)] = true := by
      have : (x.1 : Int) < (y.1 : Int) := by omega
      rw [HT.lexLt_cons, if_neg (by omega)]
      exact decide_eq_true this
    rw [hl]
    exact q _ _ ⟨e2.trans e3, rfl⟩
/-- (xs, ys), lists -/
theorem x_tupL {α β : Type} [Arg α] [Arg β] {σ : L2.St} {H : Hp} {ta tb : TE} {a : α} {b : β} (ha : EX ta σ H a) (hb : EX tb σ H b) : EvR (tTup (tCons ta (tCons tb tNil))) σ H fun H v H' => Ex H H' ∧ ∃ p x y, v = .ref p ∧ H' p = some (.tup [x, y]) ∧ rp a x H' ∧ rp b y H' := fun H1 e Q q =>
  ha H1 e _ fun v H2 ⟨e2, r2⟩ => hb H2 (e.trans e2) _ fun u H3 ⟨e3, r3⟩ => ⟨sz_of (show 2 ≤ 100000 by decide), fun p hp => q _ _ ⟨(e2.trans e3).trans (Ex.new hp), p, v, u, rfl, upd_same, mn (e3.trans (Ex.new hp)) r2, mn (Ex.new hp) r3⟩⟩
def sp__law_is_round : Sp := sp3 (α := Tup (Nat × Nat)) (β := Nat) (γ := Nat) (fun r m n => GoodR r m n) fun _ _ _ => RX true
theorem len__law_is_round : ∀ vs H Q E, sp__law_is_round vs H Q E → vs.length = 3 := sp3_len
theorem all_true {α : Type} {l : List α} {f : α → Bool} (h : ∀ a ∈ l, f a = true) : (l.map f).all id = true := by
  rw [List.all_eq_true]
  intro b hb
  obtain ⟨a, ha, e⟩ := List.mem_map.mp hb
  rw [← e]
  exact h a ha
theorem any_false {α : Type} {l : List α} {f : α → Bool} (h : ∀ a ∈ l, f a = false) : (l.map f).any id = false := by
  rw [List.any_eq_false]
  intro b hb
  obtain ⟨a, ha, e⟩ := List.mem_map.mp hb
  rw [← e, id, h a ha]
  decide
theorem f_lcM' {α β : Type} [Arg α] [Rep β] {σ : L2.St} {H : Hp} {te : TE} {wi : TI} {j : Nat} {vs : List Nat} {xs : List α} (g : α → β) (hi : EvI wi σ H xs) (hz : xs.length ≤ 100000) (hw : ∀ x, wipe ((wipe σ vs).set j (some x)) vs = wipe σ vs)
    (he : ∀ (i : Nat) (a : α) (x : V) (H1 : Hp), xs[i]? = some a → Ex H H1 → rp a x H1 → EX te ((wipe σ vs).set j (some x)) H1 (g a)) : EF (tLc wi (gName j) tYes te vs) σ H (xs.map g) :=
  f_lcM g hi hz hw fun a x H1 hm e r => by
    obtain ⟨i, hi⟩ := List.mem_iff_getElem?.mp hm
    exact he i a x H1 hi e r
theorem sem__law_is_round : ∀ vs H Q E, sp__law_is_round vs H Q E → t__law_is_round K sp__law_whole (eN Q) (start ["value", "many", "more", "each", "i", "j", "k", "firsts", "seconds"] vs) H := fun vs H Q E h => by
  obtain ⟨(r : List (Nat × Nat)), m, n, vr, vm, vn, rfl, rr, rm, rn, g, q⟩ := h
  have xr : ∀ {σ' : L2.St} {H'}, σ'[0]? = some (some vr) → Ex H H' → ET (α := Nat × Nat) (tVar 0) σ' H' r := fun hs e => x_var hs (mn e rr)
  have le := g.le
  refine z_if (et_or (a := false) (b := false) (et_is (et_not (t_B (x_isi (b := true) (α := Tup (Nat × Nat)) (x_var rfl rr) (ty_tup (by decide +kernel))))) rfl) fun _ => et_is (et_not (t_B (x_all (f_lcM (α := Nat × Nat) (β := Bool) (fun _ => true) (i_tup (xr rfl (Ex.refl _))) (Nat.le_trans le (by decide)) (fun _ => rfl) fun a x H1 hm e ra => ?_).x))) ?_) (fun z => nomatch z) fun _ H1 e1 => z_next ?_
  · exact ex_is (x_and (x_isi (b := true) (α := Nat × Nat) (x_var rfl ra) (ty_pair (by decide +kernel))) fun _ => x_and (x_eqN (x_lenP (x_var rfl ra)) (x_n (n := 2) rfl)) fun _ => x_and (x_call1 (α := Int) (f := fun _ => true) (a := (a.1 : Int)) (x_ni (x_fst (x_var rfl ra))) True.intro) fun _ => x_call1 (α := Int) (f := fun _ => true) (a := (a.2 : Int)) (x_ni (x_snd (x_var rfl ra))) True.intro) rfl
  · rw [all_true fun _ _ => rfl]
    rfl
  refine z_if (et_or (a := false) (b := false) (et_is (et_not (t_B (x_all (f_lcPM (α := Nat) (β := Nat) (γ := Bool) (fun a => (decide ((0 : Int) ≤ (a.1 : Int)) && decide ((a.1 : Int) < (m : Int))) && (decide ((0 : Int) ≤ (a.2 : Int)) && decide ((a.2 : Int) < (n : Int)))) (i_tup (xr rfl e1)) (Nat.le_trans le (by decide)) (fun _ _ => rfl) fun a x y H2 hm e r1 r2 => ?_).x))) ?_) fun _ => et_is (t_B (x_any (f_lcM' (α := Nat) (β := Bool) (fun _ => false) (i_rng (n := r.length - 1) (x_in (x_sub (i := ((r.length : Nat) : Int)) (x_ni (x_lenT (xr rfl e1))) (x_i (i := 1))) (by have := g.pos; omega)) (by omega)) (by rw [List.length_range]; omega) (fun _ => rfl) fun i a x H2 hi e ra => ?_).x)) ?_) (fun z => nomatch z) fun _ H2 e2 => z_next ?_
  · exact x_and (x_chain (x_i (i := 0)) (x_var (a := (a.1 : Int)) rfl r1) (x_var (a := (m : Int)) rfl (mn (e1.trans e) rm))) fun _ => x_chain (x_i (i := 0)) (x_var (a := (a.2 : Int)) rfl r2) (x_var (a := (n : Int)) rfl (mn (e1.trans e) rn))
  · rw [all_true fun a ha => ?_]
    · rfl
    · obtain ⟨h1, h2⟩ := g.lt a ha
      simp only [Bool.and_eq_true]
      exact ⟨⟨decide_eq_true (by omega), decide_eq_true (by omega)⟩, decide_eq_true (by omega), decide_eq_true (by omega)⟩
  · have hil : i < r.length - 1 := by have := (List.getElem?_eq_some_iff.mp hi).1; rwa [List.length_range] at this
    have ha : a = i := by
      rw [List.getElem?_range hil] at hi
      exact (Option.some.inj hi).symm
    subst ha
    have l1 : a < r.length := by omega
    have l2 : a + 1 < r.length := by omega
    refine x_geP (x := r[a]) (y := r[a + 1]) (x_ixT (xr rfl (e1.trans e)) (x_var rfl ra) (List.getElem?_eq_getElem l1)) (x_ixT (i := a + 1) (xr rfl (e1.trans e)) (x_addN (x_var rfl ra) (x_n (n := 1) rfl)) (List.getElem?_eq_getElem l2)) ?_
    have := List.pairwise_iff_getElem.mp g.up a (a + 1) (by unfold keys; rw [List.length_map]; exact l1) (by unfold keys; rw [List.length_map]; exact l2) (by omega)
    unfold keys at this
    rw [List.getElem_map, List.getElem_map] at this
    exact this
  · rw [any_false fun _ _ => rfl]
  have e12 := e1.trans e2
  have tail : ∀ {l1 l2 : List Nat} {H3 : Hp} {v1 v2 : V}, l1.Nodup → l2.Nodup → l1.length ≤ 6 → l2.length ≤ 6 → rp (α := Lst Nat) l1 v1 H3 → rp (α := Lst Nat) l2 v2 H3 → ∀ y4 y5 y6 y7 : Option V,
      EX (tAndV (tCB (rAll K) (tCons (tLc (iList K (tVar 7)) (gName 4) tYes (tOp rEq (tBM K "list" (rCntI K) (tVar 7) (tCons (tVar 4) tNil)) (tC (.int 1))) [4]) tNil)) (tCB (rAll K) (tCons (tLc (iList K (tVar 8)) (gName 5) tYes (tOp rEq (tBM K "list" (rCntI K) (tVar 8) (tCons (tVar 5) tNil)) (tC (.int 1))) [5]) tNil))) [some vr, some vm, some vn, y4, y5, y6, y7, some v1, some v2] H3 true := by
    intro l1 l2 H3 v1 v2 n1 n2 k1 k2 r1 r2 y4 y5 y6 y7
    refine ex_is (x_and (x_all (f_lcM (α := Nat) (β := Bool) (fun k => decide (l1.count k = 1)) (i_list (α := Nat) (x_var rfl r1)) (by omega) (fun _ => rfl) fun a x H4 hm e ra => ?_).x) fun _ => x_all (f_lcM (α := Nat) (β := Bool) (fun k => decide (l2.count k = 1)) (i_list (α := Nat) (x_var rfl r2)) (by omega) (fun _ => rfl) fun a x H4 hm e ra => ?_).x) ?_
    · exact x_eqN (x_cnt (x_var rfl (mn e r1)) (x_var rfl ra)) (x_n (n := 1) rfl)
    · exact x_eqN (x_cnt (x_var rfl (mn e r2)) (x_var rfl ra)) (x_n (n := 1) rfl)
    · rw [all_one n1, all_one n2]
      rfl
  have nk : (keys r).Nodup := g.up.imp fun h => Nat.ne_of_lt h
  refine q_any (x_tupL (f_lcPM (α := Nat) (β := Nat) (γ := Nat) (fun a => a.1) (i_tup (xr rfl e12)) (Nat.le_trans le (by decide)) (fun _ _ => rfl) fun a x y H3 hm e r1 r2 => x_var rfl r1).x (f_lcPM (α := Nat) (β := Nat) (γ := Nat) (fun a => a.2) (i_tup (xr rfl e12)) (Nat.le_trans le (by decide)) (fun _ _ => rfl) fun a x y H3 hm e r1 r2 => x_var rfl r2).x) fun v H3 ⟨e3, p, x, y, hv, h1, h2, h3⟩ => ?_
  refine ⟨p, _, hv, st_of h1, rfl, _, _, rfl, _, _, rfl, rfl, ?_⟩
  exact q_ret (tail nk g.nd (by unfold keys; rw [List.length_map]; exact le) (by unfold vals; rw [List.length_map]; exact le) h2 h3 _ _ _ _) fun w H4 r4 => q w H4 (RX.bk.bk (e12.trans e3) r4)
end K77

/-! Dl9: arithmetic of natural numbers, slices of tuples, repetition, ranges, tuples of three. -/
namespace DL
open PySem L2 Evl StX
open Arg (rp mn)
open Rep (mt)
section
variable {K : PySem.W.Frag} {σ : L2.St} {H H' : Hp} {ta tb te tc : TE} {α β γ : Type}
theorem x_divN {i j : Nat} (ha : EX ta σ H i) (hb : EX tb σ H j) (h0 : 0 < j) (h1 : j ≤ 1000000) : EX (tOp oDiv ta tb) σ H (i / j) := x_I (i := (i : Int)) (j := (j : Int)) (C := CDiv) ha hb ⟨by omega, by omega⟩ fun _ => (show V.int ((i : Int) / (j : Int)) = V.int ((i / j : Nat) : Int) by rw [Int.natCast_ediv])
theorem x_modN {i j : Nat} (ha : EX ta σ H i) (hb : EX tb σ H j) (h0 : 0 < j) : EX (tOp oMod ta tb) σ H (i % j) := x_I (i := (i : Int)) (j := (j : Int)) (C := fun _ j => 0 < j) ha hb (by omega) fun _ => (show V.int ((i : Int) % (j : Int)) = V.int ((i % j : Nat) : Int) by rw [Int.natCast_emod])
theorem x_subN {i j : Nat} (ha : EX ta σ H i) (hb : EX tb σ H j) (h : j ≤ i) : EX (tOp oSub ta tb) σ H (i - j) := x_I0 (i := (i : Int)) (j := (j : Int)) ha hb fun _ => (show V.int ((i : Int) - (j : Int)) = V.int ((i - j : Nat) : Int) by rw [Int.ofNat_sub h])
theorem x_mulN {i j : Nat} (ha : EX ta σ H i) (hb : EX tb σ H j) (h : i ≤ 1000000) : EX (tOp oMul ta tb) σ H (i * j) := x_I (i := (i : Int)) (j := (j : Int)) (C := CMul) ha hb (.inl ⟨by omega, by omega⟩) fun _ => (show V.int ((i : Int) * (j : Int)) = V.int ((i * j : Nat) : Int) by rw [Int.natCast_mul])
theorem x_intN {i : Nat} (h : EX ta σ H i) : EX (tCB rIntQ (tCons ta tNil)) σ H i := x_intI (i := (i : Int)) h
/-! slices of tuples -/
theorem x_cutT [Rep α] {as : List α} {lo hi : TO} {l u : Option Int} (h : ET ta σ H as) (h1 : EvO lo σ H l) (h2 : EvO hi σ H u) : ET (tSl (rSlA K) ta lo hi) σ H (cutA as l u) := fun H1 e Q q =>
  h H1 e _ fun v H2 ⟨e2, p, vs, k1, k2, k3⟩ => h1 H2 (e.trans e2) _ fun H3 e3 => h2 H3 ((e.trans e2).trans e3) _ fun H4 e4 => ⟨p, vs, k1, st_of ((e3.trans e4) _ _ k2), fun ⟨w1, w2⟩ => by
    refine q _ _ ⟨(e2.trans e3).trans e4, p, vs, rfl, (e3.trans e4) _ _ k2, ?_⟩
    have hl := Its.len k3
    have : cutA as l u = as := by
      unfold cutA
      rw [hl, w1, w2, List.drop_zero]
      exact List.take_of_length_le (by omega)
    rw [this]
    exact Its.mono (e3.trans e4) k3, fun _ t ht => by
    refine q _ _ ⟨((e2.trans e3).trans e4).trans (Ex.new ht), t, _, rfl, upd_same, ?_⟩
    unfold cutA cutV
    rw [Its.len k3]
    exact its_take _ (its_drop _ (Its.mono ((e3.trans e4).trans (Ex.new ht)) k3))⟩
theorem cutA_to {α : Type} (as : List α) (n : Nat) : cutA as none (some (n : Int)) = as.take n := by
  have e : HT.sIx as.length as.length (some (n : Int)) = min n as.length := HT.sIx_nat _ _ n
  have e0 : HT.sIx as.length 0 none = 0 := rfl
  unfold cutA
  rw [e, e0, List.drop_zero, Nat.sub_zero]
  by_cases h : n ≤ as.length
  · rw [Nat.min_eq_left h]
  · rw [Nat.min_eq_right (by omega), List.take_length, List.take_of_length_le (by omega)]
theorem cutA_from {α : Type} (as : List α) (n : Nat) : cutA as (some (n : Int)) none = as.drop n := by
  have e : HT.sIx as.length 0 (some (n : Int)) = min n as.length := HT.sIx_nat _ _ n
  have e0 : HT.sIx as.length as.length none = as.length := rfl
  unfold cutA
  rw [e, e0]
  by_cases h : n ≤ as.length
  · rw [Nat.min_eq_left h]
    exact List.take_of_length_le (by rw [List.length_drop]; omega)
  · rw [Nat.min_eq_right (by omega), List.drop_length, List.drop_of_length_le (by omega)]
    simp
theorem cutA_mid {α : Type} (as : List α) (m n : Nat) (h1 : m ≤ n) (h2 : n ≤ as.length) : cutA as (some (m : Int)) (some (n : Int)) = (as.drop m).take (n - m) := by
  have e : HT.sIx as.length 0 (some (m : Int)) = min m as.length := HT.sIx_nat _ _ m
  have e0 : HT.sIx as.length as.length (some (n : Int)) = min n as.length := HT.sIx_nat _ _ n
  unfold cutA
  rw [e, e0, Nat.min_eq_left (show m ≤ as.length by omega), Nat.min_eq_left h2]
theorem o_someN {i : Nat} (h : EX te σ H i) : EvO (tPart te) σ H (some (i : Int)) := o_some (i := (i : Int)) h
theorem x_to [Rep α] {as : List α} {n : Nat} (h : ET ta σ H as) (hn : EX te σ H n) : ET (tSl (rSlA K) ta tNoPart (tPart te)) σ H (as.take n) := ex_is (x_cutT h o_none (o_someN hn)) (cutA_to as n)
theorem x_from [Rep α] {as : List α} {n : Nat} (h : ET ta σ H as) (hn : EX te σ H n) : ET (tSl (rSlA K) ta (tPart te) tNoPart) σ H (as.drop n) := ex_is (x_cutT h (o_someN hn) o_none) (cutA_from as n)
/-! ranges -/
theorem i_rng2 {m n : Nat} (h : EX ta σ H m) (h' : EX te σ H n) (hm : m ≤ n) (hn : n ≤ 100000) : EvI (iRng2 (tCons ta (tCons te tNil))) σ H ((List.range (n - m)).map (m + ·)) := fun H1 e R q =>
  h H1 e _ fun v H2 ⟨e2, r2⟩ => h' H2 (e.trans e2) _ fun u H3 ⟨e3, r3⟩ => ⟨(m : Int), (n : Int), by rw [show v = V.int (m : Int) from r2, show u = V.int (n : Int) from r3], ⟨by omega, by omega, by omega, by omega⟩, q _ _ (e2.trans e3)
    ⟨fun i H4 e4 hi => by
      rw [List.length_map, List.length_range] at hi
      show i < ((n : Int) - (m : Int)).toNat
      omega, fun H4 e4 => by
      rw [List.length_map, List.length_range]
      show ((n : Int) - (m : Int)).toNat ≤ n - m
      omega, fun i H4 x H5 e4 hi y => by
      obtain ⟨rfl, rfl⟩ := y
      rw [List.length_map, List.length_range] at hi
      exact ⟨Ex.refl _, m + i, by rw [List.getElem?_map, List.getElem?_range hi]; rfl, congrArg V.int (show (m : Int) + (i : Int) = ((m + i : Nat) : Int) by omega)⟩⟩⟩
/-! xs * n -/
theorem its_flat [Arg α] {as : List α} {vs : List V} (h : Its as vs H) : ∀ n : Nat, Its (List.replicate n as).flatten (List.replicate n vs).flatten H
  | 0 => .nil
  | n + 1 => by
    rw [List.replicate_succ, List.replicate_succ, List.flatten_cons, List.flatten_cons]
    exact its_app h (its_flat h n)
/-- [a] * n -/
theorem f_rep1 [Rep α] {a : α} {n : Nat} (ha : EX ta σ H a) (hn : EX tb σ H n) (h : n ≤ 1000) : EF (tOp rRep (tLst (tCons ta tNil)) tb) σ H (List.replicate n a) := fun H1 e Q q =>
  ha H1 e _ fun v H2 ⟨e2, r2⟩ => ⟨sz_of (show 1 ≤ 100000 by decide), fun l hl => hn _ ((e.trans e2).trans (Ex.new hl)) _ fun u H3 ⟨e3, r3⟩ => ⟨l, (n : Int), [v], rfl, r3, e3 _ _ upd_same, by omega, by omega, sz_of (show 1 * ((n : Int)).toNat ≤ 100000 by omega), fun p hp => by
    have ee : Ex H2 H3 := (Ex.new hl).trans e3
    refine q _ _ ⟨(e2.trans ee).trans (Ex.new hp), p, _, rfl, fresh_back (e2.trans ee) hp, upd_same, ?_⟩
    have e1 : (List.replicate n [a]).flatten = List.replicate n a := by
      induction n with
      | zero => rfl
      | succ n ih => simp [List.replicate_succ]
    rw [← e1, Int.toNat_natCast]
    exact its_flat (.cons (mn (ee.trans (Ex.new hp)) r2) .nil) n⟩⟩
/-- (a,) * n -/
theorem x_repT1 [Rep α] {a : α} {n : Nat} (ha : EX ta σ H a) (hn : EX tb σ H n) (h2 : 2 ≤ n) (h : n ≤ 1000) : ET (tOp (rRepT K) (tTup (tCons ta tNil)) tb) σ H (List.replicate n a) := fun H1 e Q q =>
  ha H1 e _ fun v H2 ⟨e2, r2⟩ => ⟨sz_of (show 1 ≤ 100000 by decide), fun l hl => hn _ ((e.trans e2).trans (Ex.new hl)) _ fun u H3 ⟨e3, r3⟩ => ⟨l, (n : Int), [v], rfl, r3, st_of (e3 _ _ upd_same), by simp, by omega, by omega, by simp, fun p hp => by
    have ee : Ex H2 H3 := (Ex.new hl).trans e3
    refine q _ _ ⟨(e2.trans ee).trans (Ex.new hp), p, _, rfl, upd_same, ?_⟩
    have e1 : (List.replicate n [a]).flatten = List.replicate n a := by
      clear h2 h
      induction n with
      | zero => rfl
      | succ n ih => simp [List.replicate_succ]
    rw [← e1, Int.toNat_natCast]
    exact its_flat (.cons (mn (ee.trans (Ex.new hp)) r2) .nil) n⟩⟩
/-! max, isinstance .. -/
variable {nx bk ct : L2.St → Hp → Prop} {rt : VK}
theorem z_par3 {R R' R'' : Res} {i j l : Nat} (h1 : EvR ta σ H R) (h2 : EvR tb σ H R') (h3 : EvR tc σ H R'') (k : ∀ v u w H1 H2 H3, R H v H1 → R' H1 u H2 → R'' H2 w H3 → nx (((σ.set i (some v)).set j (some u)).set l (some w)) H3) (ext : ∀ {H1 v H2}, R H1 v H2 → Ex H1 H2 := by exact fun h => h.1) (ext' : ∀ {H1 v H2}, R' H1 v H2 → Ex H1 H2 := by exact fun h => h.1) :
    tPar3 i j l (tCons ta (tCons tb (tCons tc tNil))) ⟨nx, rt, bk, ct⟩ σ H := h1 H (Ex.refl _) _ fun v H1 r1 => h2 H1 (ext r1) _ fun u H2 r2 => h3 H2 ((ext r1).trans (ext' r2)) _ fun w H3 r3 => ⟨v, u, w, rfl, k v u w H1 H2 H3 r1 r2 r3⟩
theorem z_par2 {R R' : Res} {i j : Nat} (h1 : EvR ta σ H R) (h2 : EvR tb σ H R') (k : ∀ v u H1 H2, R H v H1 → R' H1 u H2 → nx ((σ.set i (some v)).set j (some u)) H2) (ext : ∀ {H1 v H2}, R H1 v H2 → Ex H1 H2 := by exact fun h => h.1) :
    tPar i j (tCons ta (tCons tb tNil)) ⟨nx, rt, bk, ct⟩ σ H := h1 H (Ex.refl _) _ fun v H1 r1 => h2 H1 (ext r1) _ fun u H2 r2 => ⟨v, u, rfl, k v u H1 H2 r1 r2⟩
end
end DL

/-! Bn: nets of switches that lead lines in an order; settings by sides. Plain Lean. -/
namespace BN

/-- an order of n lines -/
structure Ord (n : Nat) (o : List Nat) : Prop where
  len : o.length = n
  nd : o.Nodup
  lt : ∀ x ∈ o, x < n
def at' (o : List Nat) (i : Nat) : Nat := o.getD i 0
theorem at_get {o : List Nat} {i x : Nat} (h : o[i]? = some x) : at' o i = x := by
  unfold at'
  rw [List.getD_eq_getElem?_getD, h]
  rfl
theorem get_at {o : List Nat} {i : Nat} (h : i < o.length) : o[i]? = some (at' o i) := by
  rw [List.getElem?_eq_getElem h]
  exact congrArg some (at_get (List.getElem?_eq_getElem h)).symm
theorem Ord.lt' {n : Nat} {o : List Nat} (h : Ord n o) {i : Nat} (hi : i < n) : at' o i < n := h.lt _ (List.mem_of_getElem? (get_at (by rw [h.len]; exact hi)))
theorem Ord.inj {n : Nat} {o : List Nat} (h : Ord n o) {i j : Nat} (hi : i < n) (hj : j < n) (e : at' o i = at' o j) : i = j := by
  have h1 := get_at (o := o) (i := i) (by rw [h.len]; exact hi)
  have h2 := get_at (o := o) (i := j) (by rw [h.len]; exact hj)
  rw [e, ← h2] at h1
  exact (List.getElem?_inj (by rw [h.len]; exact hi) h.nd).mp h1
/-- pigeon holes: each line is led to -/
theorem Ord.sur {n : Nat} {o : List Nat} (h : Ord n o) {x : Nat} (hx : x < n) : ∃ i, i < n ∧ at' o i = x := by
  have key : ∀ (m : Nat) (l : List Nat), l.Nodup → (∀ y ∈ l, y < m) → l.length = m → ∀ x < m, x ∈ l := by
    intro m
    induction m with
    | zero =>
      intro l _ _ _ x hx
      omega
    | succ m ih =>
      intro l hn hl hlen x hx
      by_cases hm : m ∈ l
      · by_cases e : x = m
        · rw [e]
          exact hm
        · have h1 : (l.erase m).Nodup := hn.sublist List.erase_sublist
          have h2 : ∀ y ∈ l.erase m, y < m := fun y hy => by
            have h3 := hl y (List.mem_of_mem_erase hy)
            have h4 : y ≠ m := fun z => by
              rw [z] at hy
              exact (List.Nodup.mem_erase_iff hn).mp hy |>.1 rfl
            omega
          have h5 : (l.erase m).length = m := by rw [List.length_erase_of_mem hm, hlen]; rfl
          exact List.mem_of_mem_erase (ih (l.erase m) h1 h2 h5 x (by omega))
      · -- all below m: too many
        have h2 : ∀ y ∈ l, y < m := fun y hy => by
          have := hl y hy
          have : y ≠ m := fun z => hm (z ▸ hy)
          omega
        cases l with
        | nil => simp at hlen
        | cons a l =>
          have hn' := List.nodup_cons.mp hn
          have h5 : l.length = m := by simpa using hlen
          have h6 := ih l hn'.2 (fun y hy => h2 y (List.mem_cons_of_mem _ hy)) h5 a (h2 a List.mem_cons_self)
          exact absurd h6 hn'.1
  have hm := key n o h.nd h.lt h.len x hx
  obtain ⟨i, hi⟩ := List.mem_iff_getElem?.mp hm
  have hi' := (List.getElem?_eq_some_iff.mp hi).1
  exact ⟨i, by rw [← h.len]; exact hi', at_get hi⟩
def mate (x : Nat) : Nat := if x % 2 = 0 then x + 1 else x - 1
theorem mate_mate (x : Nat) : mate (mate x) = x := by
  unfold mate
  split <;> split <;> omega
theorem mate_ne (x : Nat) : mate x ≠ x := by
  unfold mate
  split <;> omega
theorem mate_lt {x h : Nat} (hx : x < 2 * h) : mate x < 2 * h := by
  unfold mate
  split <;> omega
theorem mate_half (x : Nat) : mate x / 2 = x / 2 := by
  unfold mate
  split <;> omega
/-- a side for each line: mates go different ways, at both ends -/
structure Sided (h : Nat) (o : List Nat) (s : Nat → Nat) : Prop where
  two : ∀ i < 2 * h, s i ≤ 1
  ins : ∀ i < 2 * h, s (mate i) = 1 - s i
  outs : ∀ i j, i < 2 * h → j < 2 * h → at' o j = mate (at' o i) → s j = 1 - s i
/-- the line of the pair k that goes by a side -/
def lineOf (s : Nat → Nat) (side k : Nat) : Nat := if s (2 * k) = side then 2 * k else 2 * k + 1
theorem lineOf_side {h : Nat} {o : List Nat} {s : Nat → Nat} (S : Sided h o s) {side k : Nat} (hk : k < h) (hs : side ≤ 1) : s (lineOf s side k) = side ∧ lineOf s side k < 2 * h ∧ lineOf s side k / 2 = k := by
  have h1 := S.two (2 * k) (by omega)
  have h2 := S.ins (2 * k) (by omega)
  have hm : mate (2 * k) = 2 * k + 1 := by
    unfold mate
    rw [if_pos (by omega)]
  rw [hm] at h2
  unfold lineOf
  split
  · rename_i e
    exact ⟨e, by omega, by omega⟩
  · rename_i e
    refine ⟨?_, by omega, by omega⟩
    rw [h2]
    omega
/-- the inner order by a side -/
def part (h : Nat) (o : List Nat) (s : Nat → Nat) (side : Nat) : List Nat := (List.range h).map fun k => at' o (lineOf s side k) / 2
theorem part_ord {h : Nat} {o : List Nat} {s : Nat → Nat} (O : Ord (2 * h) o) (S : Sided h o s) {side : Nat} (hs : side ≤ 1) : Ord h (part h o s side) := by
  refine ⟨by simp [part], ?_, fun x hx => ?_⟩
  · unfold part
    refine List.pairwise_map.mpr (List.Pairwise.imp_of_mem (fun {a b} ha hb hab e => ?_) List.nodup_range)
    have ha := List.mem_range.mp ha
    have hb := List.mem_range.mp hb
    obtain ⟨a1, a2, a3⟩ := lineOf_side S (side := side) ha hs
    obtain ⟨b1, b2, b3⟩ := lineOf_side S (side := side) hb hs
    by_cases e2 : at' o (lineOf s side a) = at' o (lineOf s side b)
    · have := O.inj a2 b2 e2
      rw [this, b3] at a3
      exact hab a3.symm
    · have e3 : at' o (lineOf s side b) = mate (at' o (lineOf s side a)) := by
        unfold mate
        split <;> omega
      have := S.outs _ _ a2 b2 e3
      omega
  · unfold part at hx
    obtain ⟨k, hk, rfl⟩ := List.mem_map.mp hx
    have hk := List.mem_range.mp hk
    obtain ⟨a1, a2, a3⟩ := lineOf_side S (side := side) hk hs
    have := O.lt' a2
    omega
/-- first and last switches -/
def firstC (h : Nat) (s : Nat → Nat) : List Nat := (List.range h).map fun k => s (2 * k)
def IsLast (h : Nat) (o : List Nat) (s : Nat → Nat) (l : List Nat) : Prop := l.length = h ∧ ∀ m < h, ∀ i < 2 * h, at' o i = 2 * m → at' l m = s i
/-- how lines are led through first switches, inner nets, last switches (the law's own words) -/
def lead (h : Nat) (f l : List Nat) (inn : Nat → List Nat) (i : Nat) : Nat :=
  let side := (i + at' f (i / 2)) % 2
  let there := at' (inn side) (i / 2)
  2 * there + (side + at' l there) % 2
theorem at_map {α : Type} {f : Nat → Nat} {h k : Nat} (hk : k < h) : at' ((List.range h).map f) k = f k := at_get (by rw [List.getElem?_map, List.getElem?_range hk]; rfl)
theorem lead_eq {h : Nat} {o : List Nat} {s : Nat → Nat} {l : List Nat} (O : Ord (2 * h) o) (S : Sided h o s) (hl : IsLast h o s l) {inn : Nat → List Nat} (hi : ∀ side ≤ 1, inn side = part h o s side) {i : Nat} (hi2 : i < 2 * h) : lead h (firstC h s) l inn i = at' o i := by
  have hk : i / 2 < h := by omega
  have f1 : at' (firstC h s) (i / 2) = s (2 * (i / 2)) := at_map (α := Nat) hk
  have s1 := S.two (2 * (i / 2)) (by omega)
  have si := S.two i hi2
  -- the side is the line's
  have hs : (i + at' (firstC h s) (i / 2)) % 2 = s i := by
    rw [f1]
    by_cases e : i % 2 = 0
    · have : 2 * (i / 2) = i := by omega
      rw [this]
      omega
    · have e2 : mate (2 * (i / 2)) = i := by
        unfold mate
        rw [if_pos (by omega)]
        omega
      have := S.ins (2 * (i / 2)) (by omega)
      rw [e2] at this
      omega
  have hline : lineOf s (s i) (i / 2) = i := by
    obtain ⟨a1, a2, a3⟩ := lineOf_side S (side := s i) hk si
    have : lineOf s (s i) (i / 2) = i ∨ lineOf s (s i) (i / 2) = mate i := by
      unfold mate
      split <;> omega
    rcases this with e | e
    · exact e
    · rw [e] at a1
      have := S.ins i hi2
      omega
  have ht : at' (inn (s i)) (i / 2) = at' o i / 2 := by
    rw [hi _ si]
    have := at_map (α := Nat) (f := fun k => at' o (lineOf s (s i) k) / 2) hk
    rw [show part h o s (s i) = (List.range h).map fun k => at' o (lineOf s (s i) k) / 2 from rfl, this, hline]
  show 2 * at' (inn ((i + at' (firstC h s) (i / 2)) % 2)) (i / 2) + ((i + at' (firstC h s) (i / 2)) % 2 + at' l (at' (inn ((i + at' (firstC h s) (i / 2)) % 2)) (i / 2))) % 2 = at' o i
  rw [hs, ht]
  have ho := O.lt' hi2
  by_cases e : at' o i % 2 = 0
  · have := hl.2 (at' o i / 2) (by omega) i hi2 (by omega)
    rw [this]
    omega
  · obtain ⟨j, j1, j2⟩ := O.sur (x := 2 * (at' o i / 2)) (by omega)
    have h1 := hl.2 (at' o i / 2) (by omega) j j1 j2
    have h2 := S.outs i j hi2 j1 (by
      rw [j2]
      unfold mate
      rw [if_neg e]
      omega)
    rw [h1, h2]
    omega
/-- whatever the switches, inner orders make an outer one -/
theorem lead_ord {h : Nat} {f l : List Nat} {inn : Nat → List Nat} (hf : ∀ k < h, at' f k ≤ 1) (hin : ∀ side ≤ 1, Ord h (inn side)) : Ord (2 * h) ((List.range (2 * h)).map (lead h f l inn)) := by
  have side : ∀ i, (i + at' f (i / 2)) % 2 ≤ 1 := fun i => by omega
  refine ⟨by simp, ?_, fun x hx => ?_⟩
  · refine List.pairwise_map.mpr (List.Pairwise.imp_of_mem (fun {a b} ha hb hab e => ?_) List.nodup_range)
    have ha := List.mem_range.mp ha
    have hb := List.mem_range.mp hb
    have ea : lead h f l inn a = 2 * at' (inn ((a + at' f (a / 2)) % 2)) (a / 2) + ((a + at' f (a / 2)) % 2 + at' l (at' (inn ((a + at' f (a / 2)) % 2)) (a / 2))) % 2 := rfl
    have eb : lead h f l inn b = 2 * at' (inn ((b + at' f (b / 2)) % 2)) (b / 2) + ((b + at' f (b / 2)) % 2 + at' l (at' (inn ((b + at' f (b / 2)) % 2)) (b / 2))) % 2 := rfl
    rw [ea, eb] at e
    have e1 : at' (inn ((a + at' f (a / 2)) % 2)) (a / 2) = at' (inn ((b + at' f (b / 2)) % 2)) (b / 2) := by omega
    rw [← e1] at e
    have e2 : (a + at' f (a / 2)) % 2 = (b + at' f (b / 2)) % 2 := by omega
    rw [e2] at e1
    have e3 := (hin _ (side b)).inj (by omega) (by omega) e1
    rw [e3] at e2
    omega
  · obtain ⟨i, hi, rfl⟩ := List.mem_map.mp hx
    have hi := List.mem_range.mp hi
    have := (hin _ (side i)).lt' (i := i / 2) (by omega)
    show 2 * at' (inn ((i + at' f (i / 2)) % 2)) (i / 2) + _ % 2 < 2 * h
    omega
end BN

/-! Nt: how lines are led through settings; settings for orders. Plain Lean. -/
namespace NT
open BN
def sw (c : List Nat) (p : Nat) : Nat := if at' c (p / 2) = 0 then p else p + 1 - 2 * (p % 2)
def pt (p s : Nat) : Nat := p - p % s + (p % s % 2) * (s / 2) + p % s / 2
def bb (p s : Nat) : Nat := p - p % s + 2 * (p % s % (s / 2)) + p % s / (s / 2)
def ahead (cs : List (List Nat)) (st : Nat × Nat) : Nat × Nat := cs.foldl (fun st c => (pt (sw c st.1) st.2, st.2 / 2)) st
def behind (cs : List (List Nat)) (st : Nat × Nat) : Nat × Nat := cs.foldl (fun st c => (sw c (bb st.1 (2 * st.2)), 2 * st.2)) st
def ledT (S : List (List Nat)) (lines line : Nat) : Nat := (behind (S.drop (S.length / 2 + 1)) (sw (S.getD (S.length / 2) []) (ahead (S.take (S.length / 2)) (line, lines)).1, (ahead (S.take (S.length / 2)) (line, lines)).2)).1
/-- a column of h switches; a setting of two times h lines -/
structure Col (h : Nat) (c : List Nat) : Prop where
  len : c.length = h
  bit : ∀ x ∈ c, x ≤ 1
structure Setg (h : Nat) (S : List (List Nat)) : Prop where
  sz : (h = 2 ∧ S.length = 3) ∨ (h = 4 ∧ S.length = 5)
  col : ∀ c ∈ S, Col h c
theorem sw_lt {c : List Nat} {h p : Nat} (hp : p < 2 * h) : sw c p < 2 * h := by
  unfold sw
  split <;> omega
theorem Col.at {h k : Nat} {c : List Nat} (C : Col h c) : at' c k ≤ 1 := by
  unfold at'
  rw [List.getD_eq_getElem?_getD]
  cases e : c[k]? with
  | none => exact Nat.zero_le _
  | some x => exact C.bit x (List.mem_of_getElem? e)
/-- straight or crossed -/
theorem sw_eq {c : List Nat} {h p : Nat} (C : Col h c) : sw c p = 2 * (p / 2) + (p + at' c (p / 2)) % 2 := by
  have := C.at (k := p / 2)
  unfold sw
  split
  · omega
  · have : at' c (p / 2) = 1 := by omega
    omega
/-! the law's wires -/
def inn2 (m : List Nat) (side : Nat) : List Nat := [at' m side % 2, (1 + at' m side) % 2]
def four (S : List (List Nat)) : List Nat := (List.range 4).map (lead 2 (S.getD 0 []) (S.getD 2 []) (inn2 (S.getD 1 [])))
def up (S : List (List Nat)) : List (List Nat) := ((S.drop 1).take 3).map (·.take 2)
def lo (S : List (List Nat)) : List (List Nat) := ((S.drop 1).take 3).map (·.drop 2)
def inn4 (S : List (List Nat)) (side : Nat) : List Nat := if side = 0 then four (up S) else four (lo S)
def eight (S : List (List Nat)) : List Nat := (List.range 8).map (lead 4 (S.getD 0 []) (S.getD 4 []) (inn4 S))
theorem at_range {n k : Nat} {f : Nat → Nat} (hk : k < n) : at' ((List.range n).map f) k = f k := at_map (α := Nat) hk
theorem inn2_ord (m : List Nat) (side : Nat) : Ord 2 (inn2 m side) := by
  refine ⟨rfl, ?_, fun x hx => ?_⟩
  · unfold inn2
    simp
    omega
  · unfold inn2 at hx
    simp at hx
    omega
theorem four_ord {S : List (List Nat)} (h : ∀ k, at' (S.getD 0 []) k ≤ 1) : Ord 4 (four S) := lead_ord (h := 2) (fun k _ => h k) fun side _ => inn2_ord _ _
theorem col_take {h : Nat} {c : List Nat} (C : Col (2 + h) c) : Col 2 (c.take 2) ∧ Col h (c.drop 2) := ⟨⟨by rw [List.length_take, C.len]; omega, fun x hx => C.bit x (List.mem_of_mem_take hx)⟩, ⟨by rw [List.length_drop, C.len]; omega, fun x hx => C.bit x (List.mem_of_mem_drop hx)⟩⟩
/-- five columns by name -/
theorem five {S : List (List Nat)} (hS : Setg 4 S) : ∃ a b c d e, S = [a, b, c, d, e] ∧ Col 4 a ∧ Col 4 b ∧ Col 4 c ∧ Col 4 d ∧ Col 4 e := by
  have hl : S.length = 5 := by rcases hS.sz with ⟨h, _⟩ | ⟨_, h⟩ <;> omega
  match S, hl, hS with
  | [a, b, c, d, e], _, hS => exact ⟨a, b, c, d, e, rfl, hS.col a (by simp), hS.col b (by simp), hS.col c (by simp), hS.col d (by simp), hS.col e (by simp)⟩
theorem three {S : List (List Nat)} (hS : Setg 2 S) : ∃ a b c, S = [a, b, c] ∧ Col 2 a ∧ Col 2 b ∧ Col 2 c := by
  have hl : S.length = 3 := by rcases hS.sz with ⟨_, h⟩ | ⟨h, _⟩ <;> omega
  match S, hl, hS with
  | [a, b, c], _, hS => exact ⟨a, b, c, rfl, hS.col a (by simp), hS.col b (by simp), hS.col c (by simp)⟩
theorem eight_ord {S : List (List Nat)} (hS : Setg 4 S) : Ord 8 (eight S) := by
  obtain ⟨a, b, c, d, e, rfl, ha, hb, hc, hd, he⟩ := five hS
  refine lead_ord (h := 4) (fun k _ => ha.at) fun side _ => ?_
  unfold inn4
  split
  · exact four_ord fun k => (col_take (h := 2) hb).1.at
  · exact four_ord fun k => (col_take (h := 2) hb).2.at
theorem at_take {c : List Nat} {k n : Nat} (h : k < n) : at' (c.take n) k = at' c k := by
  unfold at'
  rw [List.getD_eq_getElem?_getD, List.getD_eq_getElem?_getD, List.getElem?_take, if_pos h]
theorem at_drop {c : List Nat} {k n : Nat} : at' (c.drop n) k = at' c (n + k) := by
  unfold at'
  rw [List.getD_eq_getElem?_getD, List.getD_eq_getElem?_getD, List.getElem?_drop]
/-- the program leads as the law does -/
theorem led4 {S : List (List Nat)} (hS : Setg 2 S) {line : Nat} (hl : line < 4) : ledT S 4 line = at' (four S) line := by
  obtain ⟨a, b, c, rfl, ha, hb, hc⟩ := three hS
  have e1 : at' (four [a, b, c]) line = lead 2 a c (inn2 b) line := at_range hl
  rw [e1]
  have e2 : ledT [a, b, c] 4 line = sw c (bb (sw b (pt (sw a line) 4)) 4) := by simp [ledT, ahead, behind]
  rw [e2, sw_eq ha (p := line)]
  have hside : (line + at' a (line / 2)) % 2 < 2 := Nat.mod_lt _ (by decide)
  have e3 : pt (2 * (line / 2) + (line + at' a (line / 2)) % 2) 4 = 2 * ((line + at' a (line / 2)) % 2) + line / 2 := by
    generalize (line + at' a (line / 2)) % 2 = r at hside ⊢
    unfold pt
    omega
  rw [e3, sw_eq hb]
  have e4 : (2 * ((line + at' a (line / 2)) % 2) + line / 2) / 2 = (line + at' a (line / 2)) % 2 := by omega
  rw [e4]
  unfold lead
  show _ = 2 * at' (inn2 b ((line + at' a (line / 2)) % 2)) (line / 2) + ((line + at' a (line / 2)) % 2 + at' c (at' (inn2 b ((line + at' a (line / 2)) % 2)) (line / 2))) % 2
  generalize (line + at' a (line / 2)) % 2 = side at hside ⊢
  have hb1 := hb.at (k := side)
  have e5 : at' (inn2 b side) (line / 2) = (line / 2 + at' b side) % 2 := by
    have : line / 2 = 0 ∨ line / 2 = 1 := by omega
    rcases this with h | h <;> rw [h] <;> unfold inn2 <;> simp [at']
  rw [e5]
  have e6 : bb (2 * side + (2 * side + line / 2 + at' b side) % 2) 4 = 2 * ((line / 2 + at' b side) % 2) + side := by
    unfold bb
    omega
  rw [e6, sw_eq hc]
  have e7 : (2 * ((line / 2 + at' b side) % 2) + side) / 2 = (line / 2 + at' b side) % 2 := by omega
  rw [e7]
  omega
theorem bb4 : ∀ side < 2, ∀ s1 < 2, ∀ t1 < 2, bb (2 * (2 * side + s1) + t1) 4 = 4 * side + 2 * t1 + s1 := by decide
theorem bb8 : ∀ side < 2, ∀ t1 < 2, ∀ r < 2, bb (2 * (2 * side + t1) + r) 8 = 2 * (2 * t1 + r) + side := by decide
theorem led8 {S : List (List Nat)} (hS : Setg 4 S) {line : Nat} (hl : line < 8) : ledT S 8 line = at' (eight S) line := by
  obtain ⟨a, b, c, d, e, rfl, ha, hb, hc, hd, he⟩ := five hS
  have e1 : at' (eight [a, b, c, d, e]) line = lead 4 a e (inn4 [a, b, c, d, e]) line := at_range hl
  rw [e1]
  have e2 : ledT [a, b, c, d, e] 8 line = sw e (bb (sw d (bb (sw c (pt (sw b (pt (sw a line) 8)) 4)) 4)) 8) := by simp [ledT, ahead, behind]
  rw [e2, sw_eq ha (p := line)]
  unfold lead
  show _ = 2 * at' (inn4 [a, b, c, d, e] ((line + at' a (line / 2)) % 2)) (line / 2) + ((line + at' a (line / 2)) % 2 + at' e (at' (inn4 [a, b, c, d, e] ((line + at' a (line / 2)) % 2)) (line / 2))) % 2
  have hside : (line + at' a (line / 2)) % 2 < 2 := Nat.mod_lt _ (by decide)
  generalize (line + at' a (line / 2)) % 2 = side at hside ⊢
  have hq : line / 2 < 4 := by omega
  have e3 : pt (2 * (line / 2) + side) 8 = 4 * side + line / 2 := by
    unfold pt
    omega
  rw [e3]
  generalize line / 2 = q at hq ⊢
  rw [sw_eq hb]
  have i1 : (4 * side + q) / 2 = 2 * side + q / 2 := by omega
  rw [i1]
  -- the inner net
  have inner : at' (inn4 [a, b, c, d, e] side) q = (let s1 := (q + at' b (2 * side + q / 2)) % 2; let t1 := (q / 2 + at' c (2 * side + s1)) % 2; 2 * t1 + (s1 + at' d (2 * side + t1)) % 2) := by
    have h0 : side = 0 ∨ side = 1 := by omega
    rcases h0 with rfl | rfl
    · have : inn4 [a, b, c, d, e] 0 = four [b.take 2, c.take 2, d.take 2] := rfl
      rw [this]
      have : at' (four [b.take 2, c.take 2, d.take 2]) q = lead 2 (b.take 2) (d.take 2) (inn2 (c.take 2)) q := at_range hq
      rw [this]
      unfold lead
      simp only [Nat.mul_zero, Nat.zero_add]
      rw [at_take (show q / 2 < 2 by omega)]
      generalize hs1 : (q + at' b (q / 2)) % 2 = s1
      have hs1' : s1 < 2 := by omega
      have e5 : at' (inn2 (c.take 2) s1) (q / 2) = (q / 2 + at' c s1) % 2 := by
        have hq2 : q / 2 = 0 ∨ q / 2 = 1 := by omega
        rcases hq2 with h | h <;> rw [h] <;> unfold inn2 <;> rw [at_take hs1'] <;> simp [at']
      rw [e5, at_take (show (q / 2 + at' c s1) % 2 < 2 by omega)]
    · have : inn4 [a, b, c, d, e] 1 = four [b.drop 2, c.drop 2, d.drop 2] := rfl
      rw [this]
      have : at' (four [b.drop 2, c.drop 2, d.drop 2]) q = lead 2 (b.drop 2) (d.drop 2) (inn2 (c.drop 2)) q := at_range hq
      rw [this]
      unfold lead
      simp only [Nat.mul_one]
      rw [at_drop]
      generalize hs1 : (q + at' b (2 + q / 2)) % 2 = s1
      have hs1' : s1 < 2 := by omega
      have e5 : at' (inn2 (c.drop 2) s1) (q / 2) = (q / 2 + at' c (2 + s1)) % 2 := by
        have hq2 : q / 2 = 0 ∨ q / 2 = 1 := by omega
        rcases hq2 with h | h <;> rw [h] <;> unfold inn2 <;> rw [at_drop] <;> simp [at']
      rw [e5, at_drop]
  rw [inner]
  have hb1 := hb.at (k := 2 * side + q / 2)
  have em : (4 * side + q + at' b (2 * side + q / 2)) % 2 = (q + at' b (2 * side + q / 2)) % 2 := by omega
  rw [em]
  generalize hs1 : (q + at' b (2 * side + q / 2)) % 2 = s1
  have hs1' : s1 < 2 := by omega
  have e4 : pt (2 * (2 * side + q / 2) + s1) 4 = 4 * side + 2 * s1 + q / 2 := by
    unfold pt
    omega
  rw [e4, sw_eq hc]
  have i2 : (4 * side + 2 * s1 + q / 2) / 2 = 2 * side + s1 := by omega
  rw [i2]
  have em2 : (4 * side + 2 * s1 + q / 2 + at' c (2 * side + s1)) % 2 = (q / 2 + at' c (2 * side + s1)) % 2 := by omega
  rw [em2]
  dsimp only
  generalize ht1 : (q / 2 + at' c (2 * side + s1)) % 2 = t1
  have ht1' : t1 < 2 := by omega
  have e5 := bb4 side hside s1 hs1' t1 ht1'
  rw [e5, sw_eq hd]
  have i3 : (4 * side + 2 * t1 + s1) / 2 = 2 * side + t1 := by omega
  rw [i3]
  have em3 : (4 * side + 2 * t1 + s1 + at' d (2 * side + t1)) % 2 = (s1 + at' d (2 * side + t1)) % 2 := by omega
  rw [em3]
  generalize hr : (s1 + at' d (2 * side + t1)) % 2 = r
  have hr' : r < 2 := by omega
  have e6 := bb8 side hside t1 ht1' r hr'
  rw [e6, sw_eq he]
  have i4 : (2 * (2 * t1 + r) + side) / 2 = 2 * t1 + r := by omega
  rw [i4]
  omega
/-! all settings of four lines -/
def rowsP {α : Type} (things : List α) : Nat → List (List α)
  | 0 => [[]]
  | n + 1 => (rowsP things n).flatMap fun row => things.map fun t => row ++ [t]
def allS : List (List (List Nat)) := rowsP (rowsP [0, 1] 2) 3
def countS (o : List Nat) : Nat := (allS.filter fun S => decide ((List.range 4).map (ledT S 4) = o)).length
def waysL (o : List Nat) : Nat := ([0, 1].flatMap fun a => [0, 1].map fun b => if at' o a / 2 ≠ at' o (2 + b) / 2 then 1 else 0).sum
def perms4 : List (List Nat) := ((rowsP [0, 1, 2, 3] 4).filter fun l => decide l.Nodup)
theorem count_ways : ∀ o ∈ perms4, countS o = waysL o := by decide +kernel
theorem mem_rowsP {α : Type} {things : List α} : ∀ {n : Nat} {l : List α}, l.length = n → (∀ x ∈ l, x ∈ things) → l ∈ rowsP things n
  | 0, l, h, _ => by
    rw [List.length_eq_zero_iff.mp h]
    simp [rowsP]
  | n + 1, l, h, hx => by
    have hne : l ≠ [] := fun z => by rw [z] at h; cases h
    have e := List.dropLast_concat_getLast hne
    unfold rowsP
    rw [List.mem_flatMap]
    refine ⟨l.dropLast, mem_rowsP (by rw [List.length_dropLast, h]; rfl) fun x hx' => hx x (List.dropLast_subset _ hx'), ?_⟩
    rw [List.mem_map]
    exact ⟨_, hx _ (List.getLast_mem hne), e⟩
theorem ord4_mem {o : List Nat} (O : Ord 4 o) : o ∈ perms4 := by
  unfold perms4
  rw [List.mem_filter]
  exact ⟨mem_rowsP O.len fun x hx => by have := O.lt x hx; simp; omega, decide_eq_true O.nd⟩
theorem count_is {o : List Nat} (O : Ord 4 o) : countS o = waysL o := count_ways o (ord4_mem O)
theorem allS_set : ∀ S ∈ allS, S.length = 3 ∧ ∀ c ∈ S, c.length = 2 ∧ ∀ x ∈ c, x ≤ 1 := by decide +kernel
end NT

namespace K77
open PySem L2 DL Evl StX
open Arg (rp mn)
open Rep (mt)
open BN (Ord at')
open NT (sw pt bb ledT Setg Col)
variable {K : PySem.W.Frag}

/-! ### looks at orders and settings: all is well -/
def cols : List (Nat × Nat) := [(2, 1), (4, 3), (8, 5)]
def lins : List (Nat × Nat) := [(1, 2), (3, 4), (5, 8)]
def OrdP (o : List Nat) : Prop := Ord 4 o ∨ Ord 8 o
theorem OrdP.len {o : List Nat} (h : OrdP o) : (o.length = 4 ∨ o.length = 8) ∧ o.Nodup ∧ ∀ x ∈ o, x < o.length := by
  rcases h with h | h
  · exact ⟨.inl h.len, h.nd, fun x hx => by rw [h.len]; exact h.lt x hx⟩
  · exact ⟨.inr h.len, h.nd, fun x hx => by rw [h.len]; exact h.lt x hx⟩
def sp_wrong_in_lines : Sp := sp1 (α := Tup Nat) OrdP fun _ => RF ([] : List Nat)
theorem len_wrong_in_lines : ∀ vs H Q E, sp_wrong_in_lines vs H Q E → vs.length = 1 := sp1_len
theorem sem_wrong_in_lines : ∀ vs H Q E, sp_wrong_in_lines vs H Q E → t_wrong_in_lines K sp_is_between (eN Q) (start ["value", "index", "line"] vs) H := fun vs H Q E h => by
  obtain ⟨(o : List Nat), vo, rfl, ro, hp, q⟩ := h
  obtain ⟨hl, nd, lt⟩ := hp.len
  have l8 : o.length ≤ 8 := by omega
  refine z_if (b := false) (et_is (t_or (et_not (t_B (x_isi (b := true) (α := Tup Nat) (x_var rfl ro) (ty_tup (by decide +kernel))))) (t_B (x_kNotIn (n := o.length) (x_lenT (x_var rfl ro))))) ?_) (fun z => nomatch z) fun _ H1 e => z_next ?_
  · rcases hl with h | h <;> rw [h] <;> rfl
  have ro1 := mn e ro
  refine z_for (α := Nat × Nat) (xs := enumL o) (i_enumT (x_var rfl ro1)) (fun i σ' H' => Ex H1 H' ∧ ∃ y1 y2, σ' = [some vo, y1, y2]) (fun H2 e2 => ⟨e2, none, none, rfl⟩) (fun i a x σ' H0 H' ha e2 hP e3 ra N hN => ?_) fun σ' H' e2 hP => ?_
  · obtain ⟨e0, y1, y2, rfl⟩ := hP
    obtain ⟨p, u, v, rfl, h1, h2, h3⟩ := ra
    refine ⟨p, [u, v], rfl, st_of h1, rfl, u, [v], rfl, v, [], rfl, rfl, ?_⟩
    have hm := mem_enumL (List.mem_of_getElem? ha)
    have hlt := lt a.2 (List.mem_of_getElem? hm)
    have ro2 := mn (e2.trans e3) ro1
    have b1 : (decide ((0 : Int) ≤ ((a.2 : Nat) : Int)) && decide (((a.2 : Nat) : Int) ≤ ((o.length : Nat) : Int) - 1)) = true := by
      rw [Bool.and_eq_true]
      exact ⟨decide_eq_true (by omega), decide_eq_true (by omega)⟩
    have t1 : EvT (tNot (tB (tCall sp_is_between [] E0 (tCons (tVar 2) (tCons (tC (.int 0)) (tCons (tOp oSub (tCB (rLenQ K) (tCons (tVar 0) tNil)) (tC (.int 1))) tNil)))))) [some vo, some u, some v] H' false :=
      et_is (et_not (t_B (ex_is (x_call3 (pre := fun _ _ _ => True) (f := fun (v lo hi : Int) => decide (lo ≤ v) && decide (v ≤ hi)) (x_var (a := ((a.2 : Nat) : Int)) rfl h3) x_i (x_sub (i := ((o.length : Nat) : Int)) (x_ni (x_lenT (x_var rfl ro2))) x_i) True.intro) b1))) rfl
    refine z_if (b := false) (et_is (t_or t1 (t_test (x_inN (x_var rfl h3) (x_to (α := Nat) (as := o) (x_var rfl ro2) (x_var rfl h2))))) ?_) (fun z => nomatch z) fun _ H4 e4 => z_next (hN _ _ e4 ⟨((e0.trans e3).trans e4), some u, some v, rfl⟩)
    rw [decide_eq_false (fun z : a.2 ∈ o.take a.1 => ?_)]
    · rfl
    · obtain ⟨j, hj⟩ := List.mem_iff_getElem?.mp z
      have hjl := (List.getElem?_eq_some_iff.mp hj).1
      rw [List.length_take] at hjl
      rw [List.getElem?_take, if_pos (by omega)] at hj
      have := (List.getElem?_inj (by omega) nd).mp (hj.trans hm.symm)
      omega
  · obtain ⟨e0, y2, y3, rfl⟩ := hP
    refine q_ret (f_lst xs_nil (Nat.zero_le _)) fun v H'' r => q v H'' (RF.bk.bk (e.trans e2) r)
def sp_check_lines : Sp := sp1 (α := Tup Nat) OrdP fun _ => RN
theorem len_check_lines : ∀ vs H Q E, sp_check_lines vs H Q E → vs.length = 1 := sp1_len
theorem sem_check_lines : ∀ vs H Q E, sp_check_lines vs H Q E → t_check_lines K sp_wrong_in_lines (eN Q) (start ["value", "index"] vs) H := fun vs H Q E h => by
  obtain ⟨o, vo, rfl, ro, hp, q⟩ := h
  exact z_for0 (α := Nat) (i_list (f_call1 (f := fun _ => ([] : List Nat)) (x_var rfl ro) hp).x) fun H' e => q _ H' ⟨e, rfl⟩
def sp_is_column : Sp := sp2 (α := Tup Nat) (β := Nat) (fun c h => Col h c ∧ h ≤ 6) fun _ _ => RX true
theorem len_is_column : ∀ vs H Q E, sp_is_column vs H Q E → vs.length = 2 := sp2_len
theorem sem_is_column : ∀ vs H Q E, sp_is_column vs H Q E → t_is_column K sp_is_tuple_of sp_is_between (eN Q) (start ["value", "many", "each"] vs) H := fun vs H Q E h => by
  obtain ⟨(c : List Nat), n, vc, vn, rfl, rc, rn, ⟨hc, h6⟩, q⟩ := h
  exact q_ret (ex_is (x_and (x_call2 (pre := fun _ _ => True) (f := fun (v : Tup Nat) (n : Nat) => decide (List.length v = n)) (x_var rfl rc) (x_var rfl rn) True.intro) fun _ => each_between (k := 1) (x_var rfl rc) (by rw [hc.len]; exact h6) hc.bit (fun _ => rfl) (fun _ => rfl)) (by rw [Bool.and_true]; exact decide_eq_true hc.len)) q
def SetgP (S : List (List Nat)) : Prop := Setg 2 S ∨ Setg 4 S
theorem SetgP.len {S : List (List Nat)} (h : SetgP S) : ∃ g, (g = 2 ∧ S.length = 3 ∨ g = 4 ∧ S.length = 5) ∧ (∀ c ∈ S, Col g c) ∧ MT.get lins S.length = some (2 * g) ∧ g ≤ 4 := by
  rcases h with h | h
  · have hl : S.length = 3 := by rcases h.sz with ⟨_, z⟩ | ⟨z, _⟩ <;> omega
    exact ⟨2, .inl ⟨rfl, hl⟩, h.col, by rw [hl]; rfl, by decide⟩
  · have hl : S.length = 5 := by rcases h.sz with ⟨z, _⟩ | ⟨_, z⟩ <;> omega
    exact ⟨4, .inr ⟨rfl, hl⟩, h.col, by rw [hl]; rfl, by decide⟩
def sp_is_setting_by : Sp := sp1 (α := Tup (Tup Nat)) SetgP fun _ => RX true
theorem len_is_setting_by : ∀ vs H Q E, sp_is_setting_by vs H Q E → vs.length = 1 := sp1_len
theorem sem_is_setting_by : ∀ vs H Q E, sp_is_setting_by vs H Q E → t_is_setting_by K sp_is_column (eN Q) (start ["value", "each"] vs) H := fun vs H Q E h => by
  obtain ⟨(S : List (List Nat)), vS, rfl, rS, hp, q⟩ := h
  obtain ⟨g, hs, hc, hg, g4⟩ := hp.len
  have l5 : S.length ≤ 5 := by omega
  refine z_if (b := false) (et_is (t_or (et_not (t_B (x_isi (b := true) (α := Tup (Tup Nat)) (a := S) (x_var rfl rS) (ty_tup (α := Tup Nat) (i := S) (by decide +kernel))))) (t_B (x_kNotIn (n := S.length) (x_lenT (α := Tup Nat) (x_var rfl rS))))) ?_) (fun z => nomatch z) fun _ H1 e => z_next ?_
  · have hg' : MT.get [(1, 2), (3, 4), (5, 8)] S.length = some (2 * g) := hg
    rw [hg']
    rfl
  have rS1 := mn e rS
  refine q_ret (ex_is (x_all (f_lcM (α := Tup Nat) (β := Bool) (xs := S) (fun _ => true) (i_tup (α := Tup Nat) (x_var rfl rS1)) (show S.length ≤ 100000 by omega) (fun _ => rfl) fun c x H2 hm e2 rc => ?_).x) (all_map_true _)) fun v H' r => q v H' (RX.bk.bk e r)
  have e3 : 2 * g / 2 = g := by omega
  exact x_call2 (α := Tup Nat) (β := Nat) (f := fun _ _ => true) (b := g) (x_var rfl rc) (ex_is (x_divN (x_kGet (n := S.length) (x_lenT (α := Tup Nat) (x_var rfl (mn e2 rS1))) hg) (x_n (n := 2) rfl) (by decide) (by decide)) e3) ⟨hc c hm, by omega⟩
/-! ### where lines are led -/
def sp_switched : Sp := sp2 (α := Tup Nat) (β := Nat) (fun c p => p < 2 * List.length c) fun c p => RX (sw c p)
theorem len_switched : ∀ vs H Q E, sp_switched vs H Q E → vs.length = 2 := sp2_len
theorem sem_switched : ∀ vs H Q E, sp_switched vs H Q E → t_switched K (eN Q) (start ["column", "place"] vs) H := fun vs H Q E h => by
  obtain ⟨(c : List Nat), p, vc, vp, rfl, rc, rpp, hp, q⟩ := h
  have hp' : p < 2 * c.length := hp
  have hi : p / 2 < c.length := by omega
  refine z_if (t_test (x_eqN (x_ixT (α := Nat) (t := c) (i := p / 2) (a := at' c (p / 2)) (x_var rfl rc) (x_divN (x_var rfl rpp) (x_n (n := 2) rfl) (by decide) (by decide)) (BN.get_at hi)) (x_n (n := 0) rfl))) (fun hb H1 e => ?_) fun hb H1 e => z_next ?_
  · refine q_ret (ex_is (x_var (a := p) rfl (mn e rpp)) ?_) fun v H' r => q v H' (RX.bk.bk e r)
    unfold sw
    rw [if_pos (of_decide_eq_true hb)]
  · refine q_ret (ex_is (x_subN (x_addN (x_var (a := p) rfl (mn e rpp)) (x_n (n := 1) rfl)) (x_mulN (x_n (n := 2) rfl) (x_modN (x_intN (x_var (a := p) rfl (mn e rpp))) (x_n (n := 2) rfl) (by decide)) (by decide)) (by omega)) ?_) fun v H' r => q v H' (RX.bk.bk e r)
    unfold sw
    rw [if_neg (of_decide_eq_false hb)]
def sp_parted : Sp := sp2 (α := Nat) (β := Nat) (fun p s => 2 ≤ s ∧ s ≤ 8) fun p s => RX (pt p s)
theorem len_parted : ∀ vs H Q E, sp_parted vs H Q E → vs.length = 2 := sp2_len
theorem sem_parted : ∀ vs H Q E, sp_parted vs H Q E → t_parted K (eN Q) (start ["place", "size", "within"] vs) H := fun vs H Q E h => by
  obtain ⟨p, s, vp, vs', rfl, r1, r2, ⟨h1, h2⟩, q⟩ := h
  refine q_set (x_modN (x_intN (x_var (a := p) rfl r1)) (x_var (a := s) rfl r2) (by omega)) fun v H1 ⟨e, rv⟩ => ?_
  have hm : p % s < s := Nat.mod_lt _ (by omega)
  have hmp : p % s ≤ p := Nat.mod_le _ _
  exact q_ret (x_addN (x_addN (x_subN (x_var (a := p) rfl (mn e r1)) (x_var (a := p % s) rfl rv) hmp) (x_mulN (x_modN (x_intN (x_var (a := p % s) rfl rv)) (x_n (n := 2) rfl) (by decide)) (x_divN (x_var (a := s) rfl (mn e r2)) (x_n (n := 2) rfl) (by decide) (by decide)) (by omega))) (x_divN (x_var (a := p % s) rfl rv) (x_n (n := 2) rfl) (by decide) (by decide))) fun v H' r => q v H' (RX.bk.bk e r)
def sp_brought_back : Sp := sp2 (α := Nat) (β := Nat) (fun p s => 2 ≤ s ∧ s ≤ 8) fun p s => RX (bb p s)
theorem len_brought_back : ∀ vs H Q E, sp_brought_back vs H Q E → vs.length = 2 := sp2_len
theorem sem_brought_back : ∀ vs H Q E, sp_brought_back vs H Q E → t_brought_back K (eN Q) (start ["place", "size", "within"] vs) H := fun vs H Q E h => by
  obtain ⟨p, s, vp, vs', rfl, r1, r2, ⟨h1, h2⟩, q⟩ := h
  refine q_set (x_modN (x_intN (x_var (a := p) rfl r1)) (x_var (a := s) rfl r2) (by omega)) fun v H1 ⟨e, rv⟩ => ?_
  have hm : p % s < s := Nat.mod_lt _ (by omega)
  have hmp : p % s ≤ p := Nat.mod_le _ _
  have half : ∀ {σ : L2.St} {H' : Hp}, σ[1]? = some (some vs') → Ex H H' → EX (tOp oDiv (tVar 1) (tC (.int 2))) σ H' (s / 2) := fun hs e => x_divN (x_var (a := s) hs (mn e r2)) (x_n (n := 2) rfl) (by decide) (by decide)
  exact q_ret (x_addN (x_addN (x_subN (x_var (a := p) rfl (mn e r1)) (x_var (a := p % s) rfl rv) hmp) (x_mulN (x_n (n := 2) rfl) (x_modN (x_intN (x_var (a := p % s) rfl rv)) (half rfl e) (by omega)) (by decide))) (x_divN (x_var (a := p % s) rfl rv) (half rfl e) (by omega) (by omega))) fun v H' r => q v H' (RX.bk.bk e r)
/-- how far one is, ahead of the middle and behind it -/
def At (g : Nat) (p s : Nat) : Prop := p < 2 * g ∧ ((g = 2 ∧ (s = 2 ∨ s = 4)) ∨ (g = 4 ∧ (s = 2 ∨ s = 4 ∨ s = 8)))
theorem pt_at {g p s : Nat} (hp : p < 2 * g) (h : (g = 2 ∧ s = 4) ∨ (g = 4 ∧ (s = 4 ∨ s = 8))) : pt p s < 2 * g := by
  unfold pt
  rcases h with ⟨rfl, rfl⟩ | ⟨rfl, rfl | rfl⟩ <;> omega
theorem bb_at {g p s : Nat} (hp : p < 2 * g) (h : (g = 2 ∧ s = 4) ∨ (g = 4 ∧ (s = 4 ∨ s = 8))) : bb p s < 2 * g := by
  have key : ∀ p < 8, bb p 4 < 8 ∧ bb p 8 < 8 ∧ (p < 4 → bb p 4 < 4) := by decide
  rcases h with ⟨rfl, rfl⟩ | ⟨rfl, rfl | rfl⟩
  · exact (key p (by omega)).2.2 hp
  · exact (key p hp).1
  · exact (key p hp).2.1
theorem pow_half {g i : Nat} : 2 * g / 2 ^ i / 2 = 2 * g / 2 ^ (i + 1) := by rw [Nat.div_div_eq_div_mul, Nat.pow_succ]
def sp_led_through : Sp := sp2 (α := Tup (Tup Nat)) (β := Nat) (fun (S : List (List Nat)) l => ∃ g, (g = 2 ∧ List.length S = 3 ∨ g = 4 ∧ List.length S = 5) ∧ (∀ c ∈ S, Col g c) ∧ l < 2 * g) fun S l => RX (ledT S (2 * (List.length S - 1)) l)
theorem len_led_through : ∀ vs H Q E, sp_led_through vs H Q E → vs.length = 2 := sp2_len
theorem sem_led_through : ∀ vs H Q E, sp_led_through vs H Q E → t_led_through K sp_parted sp_switched sp_brought_back (eN Q) (start ["setting", "line", "size", "middle", "place", "column"] vs) H := fun vs H Q E h => by
  obtain ⟨(S : List (List Nat)), l, vS, vl, rfl, rS, rl, ⟨g, hs, hc, hl⟩, q⟩ := h
  have hs : g = 2 ∧ S.length = 3 ∨ g = 4 ∧ S.length = 5 := hs
  have hg2 : 2 * (S.length - 1) = 2 * g := by omega
  have q : ∀ v H', RX (ledT S (2 * (S.length - 1)) l) H v H' → Q v H' := q
  rw [hg2] at q
  have hg : MT.get lins S.length = some (2 * g) := by
    rcases hs with ⟨rfl, h⟩ | ⟨rfl, h⟩ <;> rw [h] <;> rfl
  refine z_par3 (x_kGet (n := S.length) (x_lenT (α := Tup Nat) (x_var rfl rS)) hg) (x_divN (x_lenT (α := Tup Nat) (x_var rfl rS)) (x_n (n := 2) rfl) (by decide) (by decide)) (x_var rfl rl) fun v u w H1 H2 H3 ⟨e1, r1⟩ ⟨e2, r2⟩ ⟨e3, r3⟩ => ?_
  have ev : v = .int ((2 * g : Nat) : Int) := r1
  have eu : u = .int ((S.length / 2 : Nat) : Int) := r2
  have ew : w = .int (l : Int) := r3
  subst ev eu ew
  have ee := (e1.trans e2).trans e3
  have hcl : ∀ c ∈ S, c.length = g := fun c hm => (hc c hm).len
  have hfst : ∀ k ≤ S.length / 2, ((S.take k).foldl (fun st c => (pt (sw c st.1) st.2, st.2 / 2)) (l, 2 * g)).1 < 2 * g ∧ ((S.take k).foldl (fun st c => (pt (sw c st.1) st.2, st.2 / 2)) (l, 2 * g)).2 = 2 * g / 2 ^ k := by
    intro k
    induction k with
    | zero => exact fun _ => ⟨hl, by simp⟩
    | succ k ih =>
      intro hk
      obtain ⟨i1, i2⟩ := ih (by omega)
      have hkS : k < S.length := by omega
      have tk : S.take (k + 1) = S.take k ++ [S[k]] := by rw [List.take_add_one, List.getElem?_eq_getElem hkS]; rfl
      rw [tk, List.foldl_append]
      simp only [List.foldl_cons, List.foldl_nil]
      rw [i2]
      refine ⟨pt_at (NT.sw_lt i1) ?_, pow_half⟩
      rcases hs with ⟨rfl, h⟩ | ⟨rfl, h⟩
      · have : k = 0 := by omega
        subst this
        exact .inl ⟨rfl, rfl⟩
      · have : k = 0 ∨ k = 1 := by omega
        rcases this with rfl | rfl
        · exact .inr ⟨rfl, .inr rfl⟩
        · exact .inr ⟨rfl, .inl rfl⟩
  have m2 : S.length / 2 < S.length := by omega
  -- ahead of the middle
  refine z_for (α := Tup Nat) (xs := S.take (S.length / 2)) (i_tup (α := Tup Nat) (x_to (α := Tup Nat) (as := S) (x_var rfl (mn ee rS)) (x_var (a := S.length / 2) rfl rfl))) (fun i σ' H' => ∃ (p s : Nat) (y5 : Option V), σ' = [some vS, some (.int (l : Int)), some (.int (s : Int)), some (.int ((S.length / 2 : Nat) : Int)), some (.int (p : Int)), y5] ∧ (p, s) = (S.take i).foldl (fun st c => (pt (sw c st.1) st.2, st.2 / 2)) (l, 2 * g)) (fun H4 e4 => ⟨l, 2 * g, none, by rw [show vl = .int (l : Int) from rl]; rfl, rfl⟩) (fun i (c : List Nat) x σ' H0 H' hi e4 hP e5 rc N hN => ?_) fun σ' H' e4 hP => ?_
  · obtain ⟨p, s, y5, rfl, hps⟩ := hP
    have hil : i < S.length / 2 := by
      have : i < (List.take (S.length / 2) S).length := (List.getElem?_eq_some_iff.mp hi).1
      rw [List.length_take] at this
      omega
    have hi : (List.take (S.length / 2) S)[i]? = some (c : List Nat) := hi
    have hiS : S[i]? = some c := by rw [List.getElem?_take, if_pos hil] at hi; exact hi
    obtain ⟨i1, i2⟩ := hfst i (by omega)
    rw [← hps] at i1 i2
    have i1 : p < 2 * g := i1
    have i2 : s = 2 * g / 2 ^ i := i2
    have hcm := hcl c (List.mem_of_getElem? hiS)
    have hsb : 2 ≤ s ∧ s ≤ 8 := by
      rw [i2]
      rcases hs with ⟨rfl, h⟩ | ⟨rfl, h⟩
      · have : i = 0 := by omega
        subst this
        decide
      · have : i = 0 ∨ i = 1 := by omega
        rcases this with rfl | rfl <;> decide
    refine q_set (x_call2 (α := Nat) (β := Nat) (f := fun p s => pt p s) (x_call2 (α := Tup Nat) (β := Nat) (f := fun c p => sw c p) (x_var rfl rc) (x_var (a := p) rfl rfl) (show p < 2 * c.length by rw [hcm]; exact i1)) (x_var (a := s) rfl rfl) hsb) fun v H4 ⟨e6, rv⟩ => ?_
    refine q_set (x_divN (x_var (a := s) rfl rfl) (x_n (n := 2) rfl) (by decide) (by decide)) fun u H5 ⟨e7, ru⟩ => ?_
    have ev : v = .int ((pt (sw c p) s : Nat) : Int) := rv
    have eu : u = .int ((s / 2 : Nat) : Int) := ru
    subst ev eu
    refine hN _ _ (e6.trans e7) ⟨pt (sw c p) s, s / 2, _, rfl, ?_⟩
    have tk : S.take (i + 1) = S.take i ++ [c] := by rw [List.take_add_one, hiS]; rfl
    rw [tk, List.foldl_append, ← hps]
    rfl
  · obtain ⟨p, s, y5, rfl, hps⟩ := hP
    have hlen : (S.take (S.length / 2)).length = S.length / 2 := by rw [List.length_take]; omega
    have hps : (p, s) = ((S.take (S.take (S.length / 2)).length).foldl (fun st c => (pt (sw c st.1) st.2, st.2 / 2)) (l, 2 * g)) := hps
    rw [hlen] at hps
    obtain ⟨i1, i2⟩ := hfst (S.length / 2) (Nat.le_refl _)
    rw [← hps] at i1 i2
    have i1 : p < 2 * g := i1
    have i2 : s = 2 * g / 2 ^ (S.length / 2) := i2
    have s2 : s = 2 := by
      rcases hs with ⟨rfl, h⟩ | ⟨rfl, h⟩ <;> rw [i2, h]
    have ee4 := ee.trans e4
    have hmid : S[S.length / 2]? = some (S.getD (S.length / 2) []) := by
      rw [List.getD_eq_getElem?_getD, List.getElem?_eq_getElem m2]
      rfl
    refine q_set (x_call2 (α := Tup Nat) (β := Nat) (f := fun c p => sw c p) (x_ixT (α := Tup Nat) (t := S) (a := S.getD (S.length / 2) []) (x_var rfl (mn ee4 rS)) (x_var (a := S.length / 2) rfl rfl) hmid) (x_var (a := p) rfl rfl) (show p < 2 * (S.getD (S.length / 2) []).length by rw [hcl _ (List.mem_of_getElem? hmid)]; exact i1)) fun v H4 ⟨e5, rv⟩ => ?_
    have ev : v = .int ((sw (S.getD (S.length / 2) []) p : Nat) : Int) := rv
    subst ev
    have i3 : sw (S.getD (S.length / 2) []) p < 2 * g := NT.sw_lt i1
    generalize hp2 : sw (S.getD (S.length / 2) []) p = p2 at i3
    have hsnd : ∀ k ≤ S.length / 2, ((((S.drop (S.length / 2 + 1)).take k).foldl (fun st c => (sw c (bb st.1 (2 * st.2)), 2 * st.2)) (p2, 2)).1 < 2 * g) ∧ (((S.drop (S.length / 2 + 1)).take k).foldl (fun st c => (sw c (bb st.1 (2 * st.2)), 2 * st.2)) (p2, 2)).2 = 2 * 2 ^ k := by
      intro k
      induction k with
      | zero => exact fun _ => ⟨i3, rfl⟩
      | succ k ih =>
        intro hk
        obtain ⟨j1, j2⟩ := ih (by omega)
        have hkS : k < (S.drop (S.length / 2 + 1)).length := by rw [List.length_drop]; omega
        have tk : (S.drop (S.length / 2 + 1)).take (k + 1) = (S.drop (S.length / 2 + 1)).take k ++ [(S.drop (S.length / 2 + 1))[k]] := by rw [List.take_add_one, List.getElem?_eq_getElem hkS]; rfl
        rw [tk, List.foldl_append]
        simp only [List.foldl_cons, List.foldl_nil]
        rw [j2]
        refine ⟨NT.sw_lt (bb_at j1 ?_), by rw [Nat.pow_succ]; omega⟩
        rcases hs with ⟨rfl, h⟩ | ⟨rfl, h⟩
        · have : k = 0 := by omega
          subst this
          exact .inl ⟨rfl, rfl⟩
        · have : k = 0 ∨ k = 1 := by omega
          rcases this with rfl | rfl
          · exact .inr ⟨rfl, .inl rfl⟩
          · exact .inr ⟨rfl, .inr rfl⟩
    refine z_for (α := Tup Nat) (xs := S.drop (S.length / 2 + 1)) (i_tup (α := Tup Nat) (x_from (α := Tup Nat) (as := S) (x_var rfl (mn (ee4.trans e5) rS)) (x_addN (x_var (a := S.length / 2) rfl rfl) (x_n (n := 1) rfl)))) (fun i σ' H' => ∃ (p' s' : Nat) (y5 : Option V), σ' = [some vS, some (.int (l : Int)), some (.int (s' : Int)), some (.int ((S.length / 2 : Nat) : Int)), some (.int (p' : Int)), y5] ∧ (p', s') = ((S.drop (S.length / 2 + 1)).take i).foldl (fun st c => (sw c (bb st.1 (2 * st.2)), 2 * st.2)) (p2, 2)) (fun H5 e6 => ⟨p2, 2, y5, by rw [s2]; rfl, rfl⟩) (fun i (c : List Nat) x σ' H0 H' hi e6 hP e7 rc N hN => ?_) fun σ' H' e6 hP => ?_
    · obtain ⟨p', s', y5, rfl, hps'⟩ := hP
      have hi : (S.drop (S.length / 2 + 1))[i]? = some c := hi
      have hil : i < S.length / 2 := by
        have := (List.getElem?_eq_some_iff.mp hi).1
        rw [List.length_drop] at this
        omega
      obtain ⟨j1, j2⟩ := hsnd i (by omega)
      rw [← hps'] at j1 j2
      have j1 : p' < 2 * g := j1
      have j2 : s' = 2 * 2 ^ i := j2
      have hcm := hcl c (List.mem_of_mem_drop (List.mem_of_getElem? hi))
      have hsb : (g = 2 ∧ 2 * s' = 4) ∨ (g = 4 ∧ (2 * s' = 4 ∨ 2 * s' = 8)) := by
        rw [j2]
        rcases hs with ⟨rfl, h⟩ | ⟨rfl, h⟩
        · have : i = 0 := by omega
          subst this
          exact .inl ⟨rfl, rfl⟩
        · have : i = 0 ∨ i = 1 := by omega
          rcases this with rfl | rfl
          · exact .inr ⟨rfl, .inl rfl⟩
          · exact .inr ⟨rfl, .inr rfl⟩
      refine q_set (x_mulN (x_n (n := 2) rfl) (x_var (a := s') rfl rfl) (by decide)) fun v H5 ⟨e8, rv⟩ => ?_
      have ev : v = .int ((2 * s' : Nat) : Int) := rv
      subst ev
      refine q_set (x_call2 (α := Tup Nat) (β := Nat) (f := fun c p => sw c p) (x_var rfl (mn e8 rc)) (x_call2 (α := Nat) (β := Nat) (f := fun p s => bb p s) (x_var (a := p') rfl rfl) (x_var (a := 2 * s') rfl rfl) (by omega)) (show bb p' (2 * s') < 2 * c.length by rw [hcm]; exact bb_at j1 hsb)) fun u H6 ⟨e9, ru⟩ => ?_
      have eu : u = .int ((sw c (bb p' (2 * s')) : Nat) : Int) := ru
      subst eu
      refine hN _ _ (e8.trans e9) ⟨_, _, _, rfl, ?_⟩
      have tk : (S.drop (S.length / 2 + 1)).take (i + 1) = (S.drop (S.length / 2 + 1)).take i ++ [c] := by rw [List.take_add_one, hi]; rfl
      rw [tk, List.foldl_append, ← hps']
      rfl
    · obtain ⟨p', s', y5, rfl, hps'⟩ := hP
      have hps' : (p', s') = (((S.drop (S.length / 2 + 1)).take (S.drop (S.length / 2 + 1)).length).foldl (fun st c => (sw c (bb st.1 (2 * st.2)), 2 * st.2)) (p2, 2)) := hps'
      rw [List.take_length] at hps'
      refine q_ret (x_var (a := ledT S (2 * g) l) rfl ?_) fun v H'' r => q v H'' (RX.bk.bk ((ee4.trans e5).trans e6) r)
      show V.int (p' : Int) = V.int ((ledT S (2 * g) l : Nat) : Int)
      have : ledT S (2 * g) l = p' := by
        have h1 : (S.take (S.length / 2)).foldl (fun st c => (pt (sw c st.1) st.2, st.2 / 2)) (l, 2 * g) = (p, 2) := by rw [← hps, s2]
        show ((S.drop (S.length / 2 + 1)).foldl (fun st c => (sw c (bb st.1 (2 * st.2)), 2 * st.2)) (sw (S.getD (S.length / 2) []) ((S.take (S.length / 2)).foldl (fun st c => (pt (sw c st.1) st.2, st.2 / 2)) (l, 2 * g)).1, ((S.take (S.length / 2)).foldl (fun st c => (pt (sw c st.1) st.2, st.2 / 2)) (l, 2 * g)).2)).1 = p'
        rw [h1]
        show ((S.drop (S.length / 2 + 1)).foldl (fun st c => (sw c (bb st.1 (2 * st.2)), 2 * st.2)) (sw (S.getD (S.length / 2) []) p, 2)).1 = p'
        rw [hp2, ← hps']
      rw [this]
def sp_led_by_setting : Sp := sp1 (α := Tup (Tup Nat)) SetgP fun S => RX (α := Tup Nat) ((List.range (2 * (List.length S - 1))).map (ledT S (2 * (List.length S - 1))))
theorem len_led_by_setting : ∀ vs H Q E, sp_led_by_setting vs H Q E → vs.length = 1 := sp1_len
theorem sem_led_by_setting : ∀ vs H Q E, sp_led_by_setting vs H Q E → t_led_by_setting K sp_led_through (eN Q) (start ["setting", "line"] vs) H := fun vs H Q E h => by
  obtain ⟨(S : List (List Nat)), vS, rfl, rS, hp, q⟩ := h
  obtain ⟨g, hs, hc, hg, g4⟩ := hp.len
  have hg2 : 2 * (S.length - 1) = 2 * g := by omega
  have q : ∀ v H', RX (α := Tup Nat) ((List.range (2 * (S.length - 1))).map (ledT S (2 * (S.length - 1)))) H v H' → Q v H' := q
  refine q_ret (x_tupleOf (α := Nat) (as := (List.range (2 * (S.length - 1))).map (ledT S (2 * (S.length - 1)))) (f_lcM (α := Nat) (β := Nat) (ledT S (2 * (S.length - 1))) (i_rng (n := 2 * (S.length - 1)) (ex_is (x_kGet (n := S.length) (x_lenT (α := Tup Nat) (x_var rfl rS)) hg) hg2.symm) (by omega)) (by rw [List.length_range]; omega) (fun _ => rfl) fun a x H1 hm e r => ?_).x) q
  exact x_call2 (α := Tup (Tup Nat)) (β := Nat) (f := fun S l => ledT S (2 * (List.length S - 1)) l) (a := S) (x_var rfl (mn e rS)) (x_var rfl r) ⟨g, hs, hc, by have := List.mem_range.mp hm; omega⟩
def sp_led_by : Sp := sp_led_by_setting
theorem len_led_by : ∀ vs H Q E, sp_led_by vs H Q E → vs.length = 1 := sp1_len
theorem sem_led_by : ∀ vs H Q E, sp_led_by vs H Q E → t_led_by K sp_is_setting_by sp_led_by_setting (eN Q) (start ["setting"] vs) H := fun vs H Q E h => by
  obtain ⟨(S : List (List Nat)), vS, rfl, rS, hp, q⟩ := h
  refine z_if (b := false) (et_is (et_not (t_B (x_call1 (α := Tup (Tup Nat)) (f := fun _ => true) (a := S) (x_var rfl rS) hp))) rfl) (fun z => nomatch z) fun _ H1 e => z_next ?_
  exact q_ret (x_call1 (α := Tup (Tup Nat)) (β := Tup Nat) (f := fun S => (List.range (2 * (List.length S - 1))).map (ledT S (2 * (List.length S - 1)))) (a := S) (x_var rfl (mn e rS)) hp) fun v H' r => q v H' (RX.bk.bk e r)
end K77

namespace K77
open PySem L2 DL Evl StX
open Arg (rp mn)
open Rep (mt)
open BN (Ord at')
open NT (sw pt bb ledT Setg Col rowsP allS countS)
variable {K : PySem.W.Frag}

/-! ### all settings -/
theorem sum_const {α : Type} (n : Nat) : ∀ l : List α, (l.map fun _ => n).sum = l.length * n
  | [] => by simp
  | a :: l => by
    rw [List.map_cons, List.sum_cons, sum_const n l, List.length_cons, Nat.succ_mul]
    omega
theorem rowsP_len {α : Type} (ts : List α) : ∀ n, (rowsP ts n).length = ts.length ^ n ∧ ∀ l ∈ rowsP ts n, l.length = n
  | 0 => ⟨rfl, fun l hl => by simp [rowsP] at hl; rw [hl]; rfl⟩
  | n + 1 => by
    obtain ⟨h1, h2⟩ := rowsP_len ts n
    unfold rowsP
    constructor
    · rw [List.length_flatMap]
      simp only [List.length_map]
      rw [sum_const, h1, Nat.pow_succ]
    · intro l hl
      obtain ⟨row, hr, hl⟩ := List.mem_flatMap.mp hl
      obtain ⟨t, _, rfl⟩ := List.mem_map.mp hl
      rw [List.length_append, h2 row hr]
      rfl
theorem rows_step {α : Type} [Rep α] {ts : List α} {σ : L2.St} {H : Hp} {wi1 : TI} {p : Addr} {i m : Nat} (ho : Own (α := Tup α) p (rowsP ts i) H) (h2 : σ[2]? = some (some (.ref p))) (hl : σ.length = 6) (hb : ts.length ^ (i + 1) ≤ 1000) (h1 : 1 ≤ ts.length) (hi : i ≤ 10) (hts : ∀ {x}, EvI2 (α := α) wi1 ((wipe σ [4, 5]).set 4 (some x)) H ts) :
    EF (α := Tup α) (tLc2 (iList K (tVar 2)) (gName 4) tYes wi1 (gName 5) tYes (tTup (tStar K (tVar 4) (tCons (tVar 5) tNil))) [4, 5] [5]) σ H (rowsP ts (i + 1)) := by
  match σ, hl with
  | [a0, a1, a2, a3, a4, a5], _ =>
    have h2 : a2 = some (.ref p) := Option.some.inj h2
    subst h2
    obtain ⟨l1, l2⟩ := rowsP_len ts i
    have hb' : (rowsP ts i).length * ts.length ≤ 1000 := by rw [l1, ← Nat.pow_succ]; exact hb
    refine f_lc2M (α := Tup α) (β := α) (γ := Tup α) (xs := rowsP ts i) (i := 4) (j := 5) (vs := [4, 5]) (vs1 := [5]) (fun _ => ts) (fun (row : List α) t => (row ++ [t] : List α)) (i_list (α := Tup α) (x_var rfl ho.rp)) ?_ (fun _ => rfl) (fun _ _ => rfl) (fun _ x _ _ _ _ => hts) fun (row : List α) x t y H1 hr ht e rr rt => ?_
    · show ((rowsP ts i).flatMap fun _ => ts).length ≤ 100000
      rw [List.length_flatMap]
      have := sum_const (α := List α) ts.length (rowsP ts i)
      show (List.map (fun _ => ts.length) (rowsP ts i)).sum ≤ 100000
      rw [this]
      omega
    · have lr : List.length row = i := l2 row hr
      exact x_tup (xs_starT (α := α) (as := row) (bs := [t]) (x_var rfl rr) (xs_cons (x_var rfl rt) xs_nil)) (show List.length ((row : List α) ++ [t]) ≤ 100000 by rw [List.length_append, show List.length (row : List α) = i from lr]; simp; omega)
theorem pow_mono {n i m : Nat} (h1 : 1 ≤ n) (h : i ≤ m) : n ^ i ≤ n ^ m := Nat.pow_le_pow_right h1 h
def sp_rows_of : Sp := sp2 (α := Tup Nat) (β := Nat) (fun ts m => 1 ≤ List.length ts ∧ m ≤ 10 ∧ List.length ts ^ m ≤ 1000) fun ts m => RF (α := Tup Nat) (rowsP ts m)
theorem len_rows_of : ∀ vs H Q E, sp_rows_of vs H Q E → vs.length = 2 := sp2_len
theorem sem_rows_of : ∀ vs H Q E, sp_rows_of vs H Q E → t_rows_of K (eN Q) (start ["things", "many", "found", "_", "row", "thing"] vs) H := fun vs H Q E h => by
  obtain ⟨(ts : List Nat), m, vt, vm, rfl, rt, rm, ⟨h1, h10, hb⟩, q⟩ := h
  have h1 : 1 ≤ ts.length := h1
  have hb : ts.length ^ m ≤ 1000 := hb
  refine q_set (f_lst (α := Tup Nat) (as := [[]]) (xs_cons (x_tup (α := Nat) (as := []) xs_nil (Nat.zero_le _)) xs_nil) (show 1 ≤ 100000 by decide)) fun v H1 r1 => ?_
  obtain ⟨p, rfl, hp, e1, ho⟩ := Own.of r1
  have em : vm = .int (m : Int) := rm
  subst em
  refine z_for (α := Nat) (xs := List.range m) (i_rng (x_var (a := m) rfl rfl) (by omega)) (fun i σ' H' => ∃ p y3, σ' = [some vt, some (.int (m : Int)), some (.ref p), y3, none, none] ∧ H p = none ∧ Ex H H' ∧ Own (α := Tup Nat) p (rowsP ts i) H') (fun H2 e2 => ⟨p, none, rfl, hp, e1.trans e2, ho.ex e2⟩) (fun i a x σ' H0 H' hi e2 hP e3 ra N hN => ?_) fun σ' H' e2 hP => ?_
  · obtain ⟨p, y3, rfl, hp, e0, ho⟩ := hP
    have him : i < m := by
      have := (List.getElem?_eq_some_iff.mp hi).1
      rwa [List.length_range] at this
    have rt' := mn (e0.trans e3) rt
    refine q_set (rows_step (K := K) (ts := ts) (m := m) (i := i) (ho.ex e3) rfl rfl (Nat.le_trans (pow_mono h1 him) hb) h1 (by omega) (i2_tup (x_var rfl rt'))) fun v H2 r2 => ?_
    obtain ⟨p2, rfl, hp2, e4, ho2⟩ := Own.of r2
    exact hN _ _ e4 ⟨p2, _, rfl, fresh_back (e0.trans e3) hp2, (e0.trans e3).trans e4, ho2⟩
  · obtain ⟨p, y3, rfl, hp, e0, ho⟩ := hP
    rw [List.length_range] at ho
    obtain ⟨us, g1, g2⟩ := ho
    exact ⟨.ref p, rfl, q _ H' ⟨e0, p, us, rfl, hp, g1, g2⟩⟩
def sp_rows_of_L : Sp := sp2 (α := Lst (Tup Nat)) (β := Nat) (fun ts m => 1 ≤ List.length ts ∧ m ≤ 10 ∧ List.length ts ^ m ≤ 1000) fun ts m => RF (α := Tup (Tup Nat)) (rowsP ts m)
theorem len_rows_of_L : ∀ vs H Q E, sp_rows_of_L vs H Q E → vs.length = 2 := sp2_len
theorem sem_rows_of_L : ∀ vs H Q E, sp_rows_of_L vs H Q E → t_rows_of_L K (eN Q) (start ["things", "many", "found", "_", "row", "thing"] vs) H := fun vs H Q E h => by
  obtain ⟨(ts : List (Tup Nat)), m, vt, vm, rfl, rt, rm, ⟨h1, h10, hb⟩, q⟩ := h
  have h1 : 1 ≤ ts.length := h1
  have hb : ts.length ^ m ≤ 1000 := hb
  obtain ⟨pt, us, rfl, hpt, its⟩ := rt
  refine q_set (f_lst (α := Tup (Tup Nat)) (as := [[]]) (xs_cons (x_tup (α := Tup Nat) (as := []) xs_nil (Nat.zero_le _)) xs_nil) (show 1 ≤ 100000 by decide)) fun v H1 r1 => ?_
  obtain ⟨p, rfl, hp, e1, ho⟩ := Own.of r1
  have em : vm = .int (m : Int) := rm
  subst em
  refine z_for (α := Nat) (xs := List.range m) (i_rng (x_var (a := m) rfl rfl) (by omega)) (fun i σ' H' => ∃ p y3, σ' = [some (.ref pt), some (.int (m : Int)), some (.ref p), y3, none, none] ∧ H p = none ∧ Ex H H' ∧ Own (α := Tup (Tup Nat)) p (rowsP ts i) H') (fun H2 e2 => ⟨p, none, rfl, hp, e1.trans e2, ho.ex e2⟩) (fun i a x σ' H0 H' hi e2 hP e3 ra N hN => ?_) fun σ' H' e2 hP => ?_
  · obtain ⟨p, y3, rfl, hp, e0, ho⟩ := hP
    have him : i < m := by
      have := (List.getElem?_eq_some_iff.mp hi).1
      rwa [List.length_range] at this
    refine q_set (rows_step (K := K) (α := Tup Nat) (ts := ts) (m := m) (i := i) (ho.ex e3) rfl rfl (Nat.le_trans (pow_mono h1 him) hb) h1 (by omega) (i2_list (i := 0) rfl ((e0.trans e3) _ _ hpt) (its.mono (e0.trans e3)))) fun v H2 r2 => ?_
    obtain ⟨p2, rfl, hp2, e4, ho2⟩ := Own.of r2
    exact hN _ _ e4 ⟨p2, _, rfl, fresh_back (e0.trans e3) hp2, (e0.trans e3).trans e4, ho2⟩
  · obtain ⟨p, y3, rfl, hp, e0, ho⟩ := hP
    rw [List.length_range] at ho
    obtain ⟨us, g1, g2⟩ := ho
    exact ⟨.ref p, rfl, q _ H' ⟨e0, p, us, rfl, hp, g1, g2⟩⟩
def sp_all_settings : Sp := sp1 (α := Nat) (fun n => n = 4) fun _ => RF (α := Tup (Tup Nat)) allS
theorem len_all_settings : ∀ vs H Q E, sp_all_settings vs H Q E → vs.length = 1 := sp1_len
theorem sem_all_settings : ∀ vs H Q E, sp_all_settings vs H Q E → t_all_settings K sp_rows_of_L sp_rows_of (eN Q) (start ["lines"] vs) H := fun vs H Q E h => by
  obtain ⟨n, vn, rfl, rn, rfl, q⟩ := h
  refine q_ret (f_call2 (α := Lst (Tup Nat)) (β := Nat) (γ := Tup (Tup Nat)) (f := fun ts m => rowsP ts m) (a := rowsP [0, 1] 2) (b := 3) (f_call2 (α := Tup Nat) (β := Nat) (γ := Tup Nat) (f := fun ts m => rowsP ts m) (a := [0, 1]) (b := 2) (x_tup (α := Nat) (xs_cons (x_n (n := 0) rfl) (xs_cons (x_n (n := 1) rfl) xs_nil)) (show 2 ≤ 100000 by decide)) (ex_is (x_divN (x_var (a := 4) rfl rn) (x_n (n := 2) rfl) (by decide) (by decide)) rfl) (by decide)).x (x_kGet (n := 4) (x_var rfl rn) rfl) (by decide)) q
def sp_count_settings_by : Sp := sp1 (α := Tup Nat) (fun o => Ord 4 o) fun o => RX (countS o)
theorem len_count_settings_by : ∀ vs H Q E, sp_count_settings_by vs H Q E → vs.length = 1 := sp1_len
theorem allS_ok {S : List (List Nat)} (h : S ∈ allS) : Setg 2 S := by
  obtain ⟨h1, h2⟩ := NT.allS_set S h
  exact ⟨.inl ⟨rfl, h1⟩, fun c hc => ⟨(h2 c hc).1, (h2 c hc).2⟩⟩
theorem sem_count_settings_by : ∀ vs H Q E, sp_count_settings_by vs H Q E → t_count_settings_by K sp_all_settings sp_led_by_setting (eN Q) (start ["order", "setting"] vs) H := fun vs H Q E h => by
  obtain ⟨(o : List Nat), vo, rfl, ro, ho, q⟩ := h
  have ho : Ord 4 o := ho
  have l64 : allS.length ≤ 100000 := by decide +kernel
  refine q_ret (ex_is (x_lenL (α := Tup (Tup Nat)) (f_lcN (α := Tup (Tup Nat)) (β := Tup (Tup Nat)) (xs := (allS : List (Tup (Tup Nat)))) (fun S => decide (((List.range (2 * (List.length S - 1))).map (ledT S (2 * (List.length S - 1))) : Tup Nat) = o)) (fun S => S) (i_list (f_call1 (α := Nat) (β := Tup (Tup Nat)) (pre := fun n => n = 4) (f := fun _ => allS) (a := 4) (ex_is (x_lenT (α := Nat) (x_var rfl ro)) ho.len) rfl).x) l64 (fun _ => rfl) (fun S x H1 hm e r => ?_) fun S x H1 hm e r _ => x_var rfl r).x) ?_) q
  · exact t_test (x_eqP (α := Tup Nat) (x_call1 (α := Tup (Tup Nat)) (β := Tup Nat) (f := fun S => (List.range (2 * (List.length S - 1))).map (ledT S (2 * (List.length S - 1)))) (x_var rfl r) (.inl (allS_ok hm))) (x_var rfl (mn e ro)) (by decide))
  · show (List.map (fun S => S) (List.filter (fun S => decide ((List.range (2 * (List.length S - 1))).map (ledT S (2 * (List.length S - 1))) = o)) allS)).length = countS o
    rw [List.map_id']
    unfold countS
    refine congrArg List.length ?_
    refine List.filter_congr fun S hS => ?_
    have : S.length = 3 := (NT.allS_set S hS).1
    show decide (((List.range (2 * (S.length - 1))).map (ledT S (2 * (S.length - 1)))) = o) = _
    rw [this]
def sp_count_settings : Sp := sp_count_settings_by
theorem len_count_settings : ∀ vs H Q E, sp_count_settings vs H Q E → vs.length = 1 := sp1_len
theorem sem_count_settings : ∀ vs H Q E, sp_count_settings vs H Q E → t_count_settings K sp_check_lines sp_count_settings_by (eN Q) (start ["order"] vs) H := fun vs H Q E h => by
  obtain ⟨(o : List Nat), vo, rfl, ro, ho, q⟩ := h
  have ho' : Ord 4 o := ho
  refine q_drop (r_call1 (α := Tup Nat) (fun _ => RN.bk) (x_var rfl ro) (.inl ho')) fun v H1 ⟨e1, _⟩ => ?_
  refine z_if (b := false) (et_is (t_test (x_gtN (i := o.length) (j := 4) (x_lenT (α := Nat) (x_var rfl (mn e1 ro))) (x_n rfl))) (by rw [ho'.len]; rfl)) (fun z => nomatch z) fun _ H2 e2 => z_next ?_
  exact q_ret (x_call1 (α := Tup Nat) (f := fun o => countS o) (x_var rfl (mn (e1.trans e2) ro)) ho) fun v H' r => q v H' (RX.bk.bk (e1.trans e2) r)
end K77

/-! DlA: loops that change objects of their own. -/
namespace DL
open PySem L2 Evl StX
open Arg (rp mn)
open Rep (mt)
/-- the heap without some addresses -/
def Mks (ps : List Addr) (H : Hp) : Hp := fun a => if a ∈ ps then none else H a
theorem mks_in {ps : List Addr} {H : Hp} {a : Addr} (h : a ∈ ps) : Mks ps H a = none := if_pos h
theorem mks_out {ps : List Addr} {H : Hp} {a : Addr} (h : a ∉ ps) : Mks ps H a = H a := if_neg h
theorem ex_mks {ps : List Addr} {H : Hp} : Ex (Mks ps H) H := fun a o h => by
  by_cases z : a ∈ ps
  · rw [mks_in z] at h
    cases h
  · rw [mks_out z] at h
    exact h
theorem mks_ex {ps : List Addr} {G H : Hp} (e : Ex G H) (hp : ∀ p ∈ ps, G p = none) : Ex G (Mks ps H) := fun a o h => by
  have z : a ∉ ps := fun z => by
    rw [hp a z] at h
    cases h
  rw [mks_out z]
  exact e a o h
theorem mks_mono {ps : List Addr} {G H : Hp} (e : Ex (Mks ps G) H) : Ex (Mks ps G) (Mks ps H) := mks_ex e fun _ h => mks_in h
theorem mks_step {ps : List Addr} {G H H' : Hp} (e : Ex (Mks ps G) H) (e' : Ex (Mks ps H) H') : Ex (Mks ps G) H' := (mks_mono e).trans e'
theorem mks_of {ps : List Addr} {H H' : Hp} (e : Ex H H') : Ex (Mks ps H) H' := ex_mks.trans e
theorem mks_upd {ps : List Addr} {H : Hp} {p : Addr} {o : HO} (h : p ∈ ps) : Ex (Mks ps H) (upd H p o) := fun a u e => by
  have z : a ∉ ps := fun z => by
    rw [mks_in z] at e
    cases e
  have hq : a ≠ p := fun q => z (by rw [q]; exact h)
  rw [upd_ne hq]
  rw [mks_out z] at e
  exact e
/-- those addresses hold no tuples -/
def NoT (ps : List Addr) (H : Hp) : Prop := ∀ p ∈ ps, ∀ xs, H p ≠ some (.tup xs)
theorem NoT.t {ps : List Addr} {H : Hp} (h : NoT ps H) : ExT H (Mks ps H) := fun a xs e => by
  rw [mks_out fun z => h a z xs e]
  exact e
section
variable {K : PySem.W.Frag} {σ : L2.St} {H H' : Hp} {ta tb te tc : TE} {α β : Type} {nx bk ct : L2.St → Hp → Prop} {rt : VK}
/-- what is walked, whatever becomes of ps -/
def EvIs [Arg α] (wi : TI) (σ : L2.St) (H : Hp) (ps : List Addr) (xs : List α) : Prop := ∀ H1, Ex H H1 → ∀ R : It → Hp → Prop, (∀ J H2, Ex H1 H2 → Src J (Mks ps H2) xs → R J H2) → wi σ H1 R
theorem is_rng {n : Nat} {ps : List Addr} (h : EX te σ H n) (hn : n ≤ 100000) : EvIs (iRng1 (tCons te tNil)) σ H ps (List.range n) := fun H1 e R q =>
  h H1 e _ fun v H2 ⟨e2, r2⟩ => ⟨(n : Int), by rw [show v = V.int (n : Int) from r2], by omega, by omega, q _ _ e2
    ⟨fun i H3 e3 hi => by
      rw [List.length_range] at hi
      show i < (n : Int).toNat
      omega, fun H3 e3 => by
      rw [List.length_range]
      show (n : Int).toNat ≤ n
      omega, fun i H3 x H4 e3 hi y => by
      obtain ⟨rfl, rfl⟩ := y
      rw [List.length_range] at hi
      exact ⟨Ex.refl _, i, by rw [List.getElem?_range hi], (show V.int (0 + (i : Int)) = V.int (i : Int) by rw [Int.zero_add])⟩⟩⟩
theorem is_tup [Rep α] {ps : List Addr} {xs : List α} (h : ET te σ H xs) (hp : ∀ p ∈ ps, ∃ o, H p = some o ∧ ∀ xs, o ≠ .tup xs) : EvIs (iTup K te) σ H ps xs := fun H1 e R q =>
  h H1 e _ fun v H2 ⟨e2, p, vs, h1, h2, h3⟩ => by
    have nt : NoT ps H2 := fun p hm xs z => by
      obtain ⟨o, ho, hn⟩ := hp p hm
      rw [(e.trans e2) _ _ ho] at z
      exact hn xs (Option.some.inj z)
    exact ⟨p, h1, ⟨vs, st_of h2⟩, q _ _ e2 (src_tup (nt.t _ _ h2) (Its.mt nt.t h3))⟩
theorem is_new [Rep α] {ps : List Addr} {xs : List α} (h : EF te σ H xs) (hp : ∀ p ∈ ps, ∃ o, H p = some o ∧ ∀ xs, o ≠ .tup xs) : EvIs (iList K te) σ H ps xs := fun H1 e R q =>
  h H1 e _ fun v H2 ⟨e2, p, vs, h1, h0, h2, h3⟩ => by
    have nt : NoT ps H2 := fun p hm xs z => by
      obtain ⟨o, ho, hn⟩ := hp p hm
      rw [(e.trans e2) _ _ ho] at z
      exact hn xs (Option.some.inj z)
    have hn : p ∉ ps := fun z => by
      obtain ⟨o, ho, _⟩ := hp p z
      rw [e _ _ ho] at h0
      cases h0
    exact ⟨p, h1, ⟨vs, sq_of h2⟩, q _ _ e2 (src_list (by rw [mks_out hn]; exact h2) (Its.mt nt.t h3))⟩
theorem is_list [Rep α] {ps : List Addr} {xs : List α} {i : Nat} {a : Addr} {vs : List V} (hv : σ[i]? = some (some (.ref a))) (ha : H a = some (.lst vs)) (its : Its xs vs H) (hn : a ∉ ps) (hp : ∀ p ∈ ps, ∃ o, H p = some o ∧ ∀ xs, o ≠ .tup xs) : EvIs (iList K (tVar i)) σ H ps xs := fun H1 e R q => by
  have nt : NoT ps H1 := fun p hm xs z => by
    obtain ⟨o, ho, hn⟩ := hp p hm
    rw [e _ _ ho] at z
    exact hn xs (Option.some.inj z)
  exact ⟨.ref a, hv, a, rfl, ⟨vs, sq_of (e _ _ ha)⟩, q _ _ (Ex.refl _) (src_list (by rw [mks_out hn]; exact e _ _ ha) (Its.mt nt.t (its.mono e)))⟩
theorem z_forO [Arg α] {wi : TI} {g0 : TG} {tb : TS} {xs : List α} (ps : List Addr) (hi : EvIs wi σ H ps xs) (Pv : Nat → L2.St → Hp → Prop) (h0 : ∀ H1, Ex H H1 → Pv 0 σ H1)
    (hs : ∀ i a x σ' H0 H', xs[i]? = some a → Pv i σ' H0 → Ex H0 H' → rp a x H' → ∀ N : L2.St → Hp → Prop, (∀ σ3 H4, Ex (Mks ps H') H4 → Pv (i + 1) σ3 H4 → N σ3 H4) → g0 x σ' H' fun σ2 H3 => tb ⟨N, rt, nx, N⟩ σ2 H3)
    (hd : ∀ σ' H', Pv xs.length σ' H' → nx σ' H') : tFor wi g0 tb ⟨nx, rt, bk, ct⟩ σ H := hi H (Ex.refl H) _ fun J H2 e2 s => by
  refine ⟨fun i m σ' H' => m = xs.length - i ∧ i ≤ xs.length ∧ Ex (Mks ps H2) H' ∧ Pv i σ' H', ⟨xs.length, by simp, Nat.zero_le _, ex_mks, h0 H2 e2⟩, ?_⟩
  rintro i m σ' H' ⟨rfl, hi, p1, p2⟩
  by_cases hlt : i < xs.length
  · refine .inr ⟨s.go i H' p1 hlt, fun σ3 H4 => Ex (Mks ps H2) H4 ∧ Pv (i + 1) σ3 H4, fun σ3 H4 p' => ⟨xs.length - (i + 1), by omega, rfl, hlt, p'.1, p'.2⟩, fun x H3 y => ?_⟩
    obtain ⟨e3, a, ha, ra⟩ := s.yld i H' x H3 p1 hlt y
    exact hs i a x σ' H' H3 ha p2 e3 ra _ fun σ3 H4 e4 p' => ⟨mks_step (p1.trans e3) e4, p'⟩
  · have e' : i = xs.length := by omega
    subst e'
    exact .inl ⟨s.stop H' p1, hd σ' H' p2⟩
theorem z_extE [Rep α] {R : Res} {ok : List α → Prop} {i : Nat} {p : Addr} {as : List α} (hv : σ[i]? = some (some (.ref p))) (ho : Own p as H) (h : EvR te σ H R) (hR : ∀ v H1, R H v H1 → Ex H H1 ∧ ∃ bs, ok bs ∧ as.length + bs.length ≤ 100000 ∧ rp (α := Lst α) bs v H1) (k : ∀ bs, ok bs → ∀ H1 us ws, Ex H H1 → H1 p = some (.lst us) → Own p (as ++ bs) (upd H1 p (.lst (us ++ ws))) → nx σ (upd H1 p (.lst (us ++ ws)))) :
    tDrop (tBM K "list" rExtend (tVar i) (tCons te tNil)) ⟨nx, rt, bk, ct⟩ σ H := by
  obtain ⟨vs, h1, h2⟩ := ho
  refine ⟨.ref p, hv, .inl ⟨rfl, vs, sq_of h1⟩, h H (Ex.refl _) _ fun v H1 r => ?_⟩
  obtain ⟨e1, bs, hb, hz, q, ws, hw, h3, h4⟩ := hR v H1 r
  subst hw
  exact ⟨p, q, vs, ws, rfl, rfl, e1 _ _ h1, h3, sz_of (by rw [← h2.len, ← h4.len]; exact hz), k bs hb H1 vs ws e1 (e1 _ _ h1) ⟨_, upd_same, its_app (Its.mt (ext_lst (e1 _ _ h1)) (h2.mono e1)) (Its.mt (ext_lst (e1 _ _ h1)) h4)⟩⟩
/-- reading an own dict -/
theorem x_dgetN {ty : TE} {d : Addr} {M : List (Nat × Nat)} {s f : Nat} {i : Nat} (hv : σ[i]? = some (some (.ref d))) (hs : EX ty σ H s) (hd : H d = some (.dK (dnn M))) (hf : MT.get M s = some f) : EX (tDGet (tVar i) ty) σ H f := x_dget (ev_var hv) hs hd hf
theorem x_lenD {i : Nat} {d : Addr} {M : List (Nat × Nat)} (hv : σ[i]? = some (some (.ref d))) (hd : H d = some (.dK (dnn M))) : EX (tCB rLenD (tCons (tVar i) tNil)) σ H M.length := fun H1 e Q q => ⟨.ref d, hv, d, _, rfl, e _ _ hd, q _ _ ⟨Ex.refl _, by rw [dnn_len]; rfl⟩⟩
end
end DL

/-! Sd: sides for the lines of an order, found by walking from switch to switch. Plain Lean. -/
namespace SD
open BN
open MT (keys vals get put)
abbrev As := List (Nat × Nat)
/-- a table of what is made of each item -/
theorem fold_put {α : Type} (fk fv : α → Nat) : ∀ (xs : List α) (M : As), (xs.map fk).Nodup → (∀ x ∈ xs, fk x ∉ keys M) → xs.foldl (fun M a => put M (fk a) (fv a)) M = M ++ xs.map fun a => (fk a, fv a)
  | [], M, _, _ => by simp
  | x :: xs, M, hn, hk => by
    rw [List.map_cons, List.nodup_cons] at hn
    rw [List.foldl_cons, MT.put_new (hk x List.mem_cons_self), fold_put fk fv xs _ hn.2 fun y hy z => ?_, List.map_cons, List.append_assoc]
    · rfl
    · unfold keys at z
      rw [List.map_append, List.mem_append] at z
      rcases z with z | z
      · exact hk y (List.mem_cons_of_mem _ hy) z
      · have e : fk y = fk x := by simpa using z
        exact hn.1 (e ▸ List.mem_map.mpr ⟨y, hy, rfl⟩)
theorem fold_get {α : Type} (fk fv : α → Nat) {xs : List α} (hn : (xs.map fk).Nodup) {a : α} (ha : a ∈ xs) : get (xs.foldl (fun M a => put M (fk a) (fv a)) []) (fk a) = some (fv a) := by
  have e := fold_put fk fv xs [] hn fun _ _ z => by simp [keys] at z
  rw [e, List.nil_append]
  refine MT.mem_get ?_ (List.mem_map.mpr ⟨a, ha, rfl⟩)
  unfold keys
  rw [List.map_map]
  exact hn
/-- who comes out at the mate's place -/
def Q (h : Nat) (o : List Nat) (i j : Nat) : Prop := i < 2 * h ∧ j < 2 * h ∧ at' o j = mate (at' o i)
section
variable {h : Nat} {o : List Nat} (O : Ord (2 * h) o)
include O
theorem Q.symm {i j : Nat} (q : Q h o i j) : Q h o j i := ⟨q.2.1, q.1, by rw [q.2.2, mate_mate]⟩
theorem Q.fn {i j j' : Nat} (q : Q h o i j) (q' : Q h o i j') : j = j' := O.inj q.2.1 q'.2.1 (q.2.2.trans q'.2.2.symm)
theorem Q.ne {i j : Nat} (q : Q h o i j) : i ≠ j := fun z => by
  have := q.2.2
  rw [← z] at this
  exact mate_ne _ this.symm
theorem Q.ex {i : Nat} (hi : i < 2 * h) : ∃ j, Q h o i j := by
  obtain ⟨j, hj, e⟩ := O.sur (mate_lt (O.lt' hi))
  exact ⟨j, hi, hj, e⟩
end
structure Fd (h : Nat) (M : As) : Prop where
  nd : (keys M).Nodup
  lt : ∀ i ∈ keys M, i < 2 * h
  two : ∀ {i v}, (i, v) ∈ M → v ≤ 1
  ins : ∀ {i v}, (i, v) ∈ M → (mate i, 1 - v) ∈ M
def Full (h : Nat) (o : List Nat) (M : As) : Prop := ∀ {i v}, (i, v) ∈ M → ∀ {j}, Q h o i j → (j, 1 - v) ∈ M
structure Run (h : Nat) (o : List Nat) (M : As) (st line : Nat) : Prop where
  beg : (st, 0) ∈ M
  one : ∀ {i}, (i, 1) ∈ M → ∀ {j}, Q h o i j → (j, 0) ∈ M ∨ j = line
  zero : ∀ {i}, (i, 0) ∈ M → i = st ∨ ∀ {j}, Q h o i j → (j, 1) ∈ M
  ln : ∃ i, (i, 1) ∈ M ∧ Q h o i line
  back : line ∈ keys M → line = st
def Walk (h : Nat) (o : List Nat) (M : As) (st line : Nat) : Prop := Fd h M ∧ line < 2 * h ∧ ((Full h o M ∧ line = st) ∨ Run h o M st line)
theorem mem2 {M : As} {l t a b : Nat} (hn : (keys M).Nodup) (h1 : l ∉ keys M) (h2 : t ∉ keys M) (h3 : t ≠ l) : (a, b) ∈ put (put M l 0) t 1 ↔ (a = t ∧ b = 1) ∨ (a = l ∧ b = 0) ∨ (a, b) ∈ M := by
  rw [MT.mem_put (MT.nodup_put hn), MT.mem_put hn]
  constructor
  · rintro (h | ⟨_, h | ⟨_, h⟩⟩)
    · exact .inl h
    · exact .inr (.inl h)
    · exact .inr (.inr h)
  · rintro (h | ⟨rfl, rfl⟩ | h)
    · exact .inl h
    · exact .inr ⟨fun z => h3 z.symm, .inl ⟨rfl, rfl⟩⟩
    · have hk : a ∈ keys M := MT.mem_keys.mpr ⟨b, h⟩
      exact .inr ⟨fun z => h2 (z ▸ hk), .inr ⟨fun z => h1 (z ▸ hk), h⟩⟩
theorem step {h : Nat} {o : List Nat} {M : As} {st line line' : Nat} (O : Ord (2 * h) o) (W : Walk h o M st line) (hn : line ∉ keys M) (q : Q h o (mate line) line') :
    mate line ∉ keys M ∧ Walk h o (put (put M line 0) (mate line) 1) st line' ∧ (put (put M line 0) (mate line) 1).length = M.length + 2 := by
  obtain ⟨F, hl, hw⟩ := W
  have ht : mate line ∉ keys M := fun z => by
    obtain ⟨v, hv⟩ := MT.mem_keys.mp z
    have := F.ins hv
    rw [mate_mate] at this
    exact hn (MT.mem_keys.mpr ⟨_, this⟩)
  have htl : mate line ≠ line := mate_ne line
  have mm : ∀ {a b : Nat}, (a, b) ∈ put (put M line 0) (mate line) 1 ↔ (a = mate line ∧ b = 1) ∨ (a = line ∧ b = 0) ∨ (a, b) ∈ M := mem2 F.nd hn ht htl
  have kk : ∀ {a b : Nat}, (a, b) ∈ M → a ∈ keys M := fun h => MT.mem_keys.mpr ⟨_, h⟩
  refine ⟨ht, ⟨⟨MT.nodup_put (MT.nodup_put F.nd), fun i hi => ?_, fun {i v} hm => ?_, fun {i v} hm => ?_⟩, q.2.1, .inr ⟨?_, fun {i} hm {j} qj => ?_, fun {i} hm => ?_, ?_, fun hk => ?_⟩⟩, ?_⟩
  · obtain ⟨v, hv⟩ := MT.mem_keys.mp hi
    rcases mm.mp hv with ⟨rfl, _⟩ | ⟨rfl, _⟩ | hv
    · exact mate_lt hl
    · exact hl
    · exact F.lt i (kk hv)
  · rcases mm.mp hm with ⟨_, rfl⟩ | ⟨_, rfl⟩ | hv
    · exact Nat.le_refl _
    · exact Nat.zero_le _
    · exact F.two hv
  · rcases mm.mp hm with ⟨rfl, rfl⟩ | ⟨rfl, rfl⟩ | hv
    · rw [mate_mate]
      exact mm.mpr (.inr (.inl ⟨rfl, rfl⟩))
    · exact mm.mpr (.inl ⟨rfl, rfl⟩)
    · exact mm.mpr (.inr (.inr (F.ins hv)))
  · rcases hw with ⟨_, rfl⟩ | R
    · exact mm.mpr (.inr (.inl ⟨rfl, rfl⟩))
    · exact mm.mpr (.inr (.inr R.beg))
  · rcases mm.mp hm with ⟨rfl, _⟩ | ⟨rfl, z⟩ | hv
    · exact .inr (Q.fn O qj q)
    · cases z
    · rcases hw with ⟨Fu, rfl⟩ | R
      · exact .inl (mm.mpr (.inr (.inr (Fu hv qj))))
      · rcases R.one hv qj with z | z
        · exact .inl (mm.mpr (.inr (.inr z)))
        · exact .inl (mm.mpr (.inr (.inl ⟨z, rfl⟩)))
  · rcases mm.mp hm with ⟨_, z⟩ | ⟨rfl, _⟩ | hv
    · cases z
    · rcases hw with ⟨_, z⟩ | R
      · exact .inl z
      · obtain ⟨i0, h0, q0⟩ := R.ln
        refine .inr fun {j} qj => mm.mpr (.inr (.inr ?_))
        rw [Q.fn O qj (Q.symm O q0)]
        exact h0
    · rcases hw with ⟨Fu, rfl⟩ | R
      · exact .inr fun {j} qj => mm.mpr (.inr (.inr (Fu hv qj)))
      · rcases R.zero hv with z | z
        · exact .inl z
        · exact .inr fun {j} qj => mm.mpr (.inr (.inr (z qj)))
  · exact ⟨mate line, mm.mpr (.inl ⟨rfl, rfl⟩), q⟩
  · obtain ⟨v, hv⟩ := MT.mem_keys.mp hk
    rcases mm.mp hv with ⟨z, _⟩ | ⟨z, _⟩ | hv
    · exact absurd z.symm (Q.ne O q)
    · subst z
      rcases hw with ⟨_, z⟩ | R
      · exact z
      · obtain ⟨i0, h0, q0⟩ := R.ln
        rw [Q.fn O (Q.symm O q) (Q.symm O q0)] at ht
        exact absurd (kk h0) ht
    · rcases hw with ⟨Fu, _⟩ | R
      · exact absurd (kk (Fu hv (Q.symm O q))) ht
      · have hv1 := F.two hv
        have : v = 0 ∨ v = 1 := by omega
        rcases this with rfl | rfl
        · rcases R.zero hv with z | z
          · exact z
          · exact absurd (kk (z (Q.symm O q))) ht
        · rcases R.one hv (Q.symm O q) with z | z
          · exact absurd (kk z) ht
          · exact absurd z htl
  · rw [MT.put_new (M := put M line 0) (fun z => by
      rcases MT.mem_keys_put.mp z with z | z
      · exact htl z
      · exact ht z), MT.put_new hn]
    simp
theorem done {h : Nat} {o : List Nat} {M : As} {st line : Nat} (O : Ord (2 * h) o) (W : Walk h o M st line) (hn : line ∈ keys M) : Fd h M ∧ Full h o M ∧ st ∈ keys M := by
  obtain ⟨F, hl, ⟨Fu, rfl⟩ | R⟩ := W
  · exact ⟨F, Fu, hn⟩
  · refine ⟨F, fun {i v} hm {j} qj => ?_, MT.mem_keys.mpr ⟨_, R.beg⟩⟩
    have e := R.back hn
    have hv1 := F.two hm
    have : v = 0 ∨ v = 1 := by omega
    rcases this with rfl | rfl
    · rcases R.zero hm with z | z
      · obtain ⟨i0, h0, q0⟩ := R.ln
        rw [e] at q0
        rw [z] at qj
        rw [Q.fn O qj (Q.symm O q0)]
        exact h0
      · exact z qj
    · rcases R.one hm qj with z | z
      · exact z
      · rw [z, e]
        exact R.beg
/-- all lines have a side -/
structure Sd (h : Nat) (o : List Nat) (M : As) : Prop where
  fd : Fd h M
  full : Full h o M
  all : ∀ i < 2 * h, i ∈ keys M
def sd (M : As) (i : Nat) : Nat := (get M i).getD 0
theorem Fd.len {h : Nat} {M : As} (F : Fd h M) : M.length ≤ 2 * h := by
  have := MT.nodup_le (l := keys M) (m := List.range (2 * h)) F.nd fun x hx => List.mem_range.mpr (F.lt x hx)
  unfold keys at this
  rwa [List.length_map, List.length_range] at this
theorem Sd.len {h : Nat} {o : List Nat} {M : As} (S : Sd h o M) : M.length = 2 * h := by
  have h1 := S.fd.len
  have h2 := MT.nodup_le (l := List.range (2 * h)) (m := keys M) List.nodup_range fun x hx => S.all x (List.mem_range.mp hx)
  unfold keys at h2
  rw [List.length_map, List.length_range] at h2
  omega
theorem Sd.get {h : Nat} {o : List Nat} {M : As} (S : Sd h o M) {i : Nat} (hi : i < 2 * h) : MT.get M i = some (sd M i) ∧ (i, sd M i) ∈ M := by
  obtain ⟨v, hv⟩ := MT.mem_keys.mp (S.all i hi)
  have := MT.mem_get S.fd.nd hv
  unfold sd
  rw [this]
  exact ⟨rfl, hv⟩
theorem Sd.sided {h : Nat} {o : List Nat} {M : As} (S : Sd h o M) : Sided h o (sd M) := by
  refine ⟨fun i hi => S.fd.two (S.get hi).2, fun i hi => ?_, fun i j hi hj e => ?_⟩
  · exact MT.uniq S.fd.nd (S.get (mate_lt hi)).2 (S.fd.ins (S.get hi).2)
  · exact MT.uniq S.fd.nd (S.get hj).2 (S.full (S.get hi).2 ⟨hi, hj, e⟩)
/-- the lines of a side, by switches -/
theorem filter_lines {s : Nat → Nat} {side : Nat} (hs : side ≤ 1) : ∀ h : Nat, (∀ k < h, s (2 * k) ≤ 1 ∧ s (2 * k + 1) = 1 - s (2 * k)) → ((List.range (2 * h)).filter fun i => decide (s i = side)) = (List.range h).map (lineOf s side)
  | 0, _ => rfl
  | h + 1, H => by
    obtain ⟨h1, h2⟩ := H h (by omega)
    have e : List.range (2 * (h + 1)) = List.range (2 * h) ++ [2 * h, 2 * h + 1] := by
      rw [show 2 * (h + 1) = 2 * h + 1 + 1 by omega, List.range_succ, List.range_succ, List.append_assoc]
      rfl
    rw [e, List.filter_append, filter_lines hs h fun k hk => H k (by omega), List.range_succ, List.map_append]
    congr 1
    unfold lineOf
    simp only [List.map_cons, List.map_nil]
    by_cases e0 : s (2 * h) = side
    · have e1 : ¬ s (2 * h + 1) = side := by omega
      simp [List.filter_cons, e0, e1]
    · have e1 : s (2 * h + 1) = side := by omega
      simp [List.filter_cons, e0, e1]
theorem Sided.pairs {h : Nat} {o : List Nat} {s : Nat → Nat} (S : Sided h o s) : ∀ k < h, s (2 * k) ≤ 1 ∧ s (2 * k + 1) = 1 - s (2 * k) := fun k hk => by
  refine ⟨S.two _ (by omega), ?_⟩
  have := S.ins (2 * k) (by omega)
  have e : mate (2 * k) = 2 * k + 1 := by
    unfold mate
    rw [if_pos (by omega)]
  rwa [e] at this
end SD

namespace K77
open PySem L2 DL Evl StX
open Arg (rp mn)
open Rep (mt)
open BN (Ord at' mate Sided)
open SD (Sd Fd Full sd)
open MT (keys put)
variable {K : PySem.W.Frag}

/-! ### sides -/
def sp_partner_of : Sp := sp1 (α := Nat) (fun _ => True) fun p => RX (mate p)
theorem len_partner_of : ∀ vs H Q E, sp_partner_of vs H Q E → vs.length = 1 := sp1_len
theorem sem_partner_of : ∀ vs H Q E, sp_partner_of vs H Q E → t_partner_of K (eN Q) (start ["place"] vs) H := fun vs H Q E h => by
  obtain ⟨p, vp, rfl, r, _, q⟩ := h
  refine q_ret (ex_is (x_subN (x_addN (x_var (a := p) rfl r) (x_n (n := 1) rfl)) (x_mulN (x_n (n := 2) rfl) (x_modN (x_intN (x_var (a := p) rfl r)) (x_n (n := 2) rfl) (by decide)) (by decide)) (by omega)) ?_) q
  unfold BN.mate
  split <;> omega
/-- an order of two times h lines, h up to 4 -/
def OrdH (o : List Nat) : Prop := ∃ h, 1 ≤ h ∧ h ≤ 4 ∧ Ord (2 * h) o
def RSd (o : List Nat) : Res := fun H v H' => ∃ M, Sd (o.length / 2) o M ∧ RD (dnn M) H v H'
theorem RSd.bk {o : List Nat} : Bk (RSd o) := ⟨fun e ⟨M, h1, h2⟩ => ⟨M, h1, RD.bk.bk e h2⟩⟩
def sp_sides_of : Sp := sp1 (α := Tup Nat) OrdH fun o => RSd o
theorem len_sides_of : ∀ vs H Q E, sp_sides_of vs H Q E → vs.length = 1 := sp1_len
theorem nodup_enum {o : List Nat} (h : o.Nodup) : ((enumL o).map (·.2)).Nodup := by
  unfold enumL
  rw [List.map_snd_zip (by simp)]
  exact h
theorem comes_get {h : Nat} {o : List Nat} (O : Ord (2 * h) o) {i : Nat} (hi : i < 2 * h) : MT.get ((enumL o).foldl (fun M a => put M a.2 a.1) []) (at' o i) = some i := by
  have hg := BN.get_at (o := o) (i := i) (by rw [O.len]; exact hi)
  have hm : (i, at' o i) ∈ enumL o := List.mem_of_getElem? (enumL_get hg)
  exact SD.fold_get (fun a : Nat × Nat => a.2) (fun a : Nat × Nat => a.1) (nodup_enum O.nd) hm
theorem sem_sides_of : ∀ vs H Q E, sp_sides_of vs H Q E → t_sides_of K sp_partner_of (eN Q) (start ["order", "comes", "line", "there", "found", "start", "other"] vs) H := fun vs H Q E h => by
  obtain ⟨(o : List Nat), vo, rfl, ro, ⟨h, hh1, hh4, O⟩, q⟩ := h
  have ol := O.len
  have hh : o.length / 2 = h := by omega
  have q : ∀ v H', RSd o H v H' → Q v H' := q
  refine q_set (r_dc (α := Nat × Nat) (xs := enumL o) (fun p => p.2) (fun p => .int (p.1 : Int)) (i_enumT (x_var rfl ro)) (by rw [enumL_len]; omega) fun a x H1 hm e ra Q1 k => ?_) fun v H1 hv => ?_
  · obtain ⟨p, u, v, rfl, h1, h2, h3⟩ := ra
    exact ⟨p, [u, v], rfl, st_of h1, rfl, u, [v], rfl, v, [], rfl, rfl, k _ H1 (Ex.refl _) rfl (x_var rfl h3) (ek_n (x_var (a := a.1) rfl h2))⟩
  obtain ⟨e1, pc, rfl, hpc, hc⟩ := hv
  rw [dcL_nat] at hc
  generalize hMc : (enumL o).foldl (fun M a => put M a.2 a.1) [] = Mc at hc
  have cg : ∀ i < 2 * h, MT.get Mc (at' o i) = some i := fun i hi => by rw [← hMc]; exact comes_get O hi
  -- found
  refine fun pf hpf => ?_
  have hne : pf ≠ pc := fun z => by rw [z, hc] at hpf; cases hpf
  have hpf0 : H pf = none := fresh_back e1 hpf
  have ro1 := mn e1 ro
  refine z_forO (α := Nat) (xs := List.range o.length) [pf] (is_rng (x_lenT (α := Nat) (x_var rfl (mn (Ex.new hpf) ro1))) (by omega)) (fun i σ' H' => ∃ M y2 y5 y6, σ' = [some vo, some (.ref pc), y2, none, some (.ref pf), y5, y6] ∧ Ex H1 H' ∧ H' pf = some (.dK (dnn M)) ∧ Fd h M ∧ Full h o M ∧ ∀ k < i, k ∈ keys M)
    (fun H2 e2 => ⟨[], none, none, none, rfl, (Ex.new hpf).trans e2, e2 _ _ upd_same, ⟨List.nodup_nil, fun i hi => by simp [keys] at hi, fun h => by simp at h, fun h => by simp at h⟩, fun h => by simp at h, fun k hk => absurd hk (Nat.not_lt_zero _)⟩) (fun i a x σ' H0 H' hi hP e3 ra N hN => ?_) fun σ' H' hP => ?_
  · obtain ⟨M, y2, y5, y6, rfl, e0, hM, F, Fu, ha⟩ := hP
    have hil : i < o.length := by
      have := (List.getElem?_eq_some_iff.mp hi).1
      rwa [List.length_range] at this
    have hai : a = i := by
      rw [List.getElem?_range hil] at hi
      exact (Option.some.inj hi).symm
    subst hai
    have ex : x = .int (a : Int) := ra
    subst ex
    refine q_set (x_var (a := a) (i := 5) rfl rfl) fun v H2 ⟨e4, rv⟩ => ?_
    have ev : v = .int (a : Int) := rv
    subst ev
    refine z_while (fun m σ3 H3 => ∃ (M : List (Nat × Nat)) (line : Nat) (y6 : Option V), σ3 = [some vo, some (.ref pc), some (.int (line : Int)), none, some (.ref pf), some (.int (a : Int)), y6] ∧ Ex H1 H3 ∧ Ex (Mks [pf] H') H3 ∧ H3 pf = some (.dK (dnn M)) ∧ SD.Walk h o M a line ∧ (∀ k < a, k ∈ keys M) ∧ m = 2 * h - M.length) (2 * h - M.length)
      ⟨M, a, y6, rfl, (e0.trans e3).trans e4, mks_of e4, e4 _ _ (e3 _ _ hM), ⟨F, by omega, .inl ⟨Fu, rfl⟩⟩, ha, rfl⟩ ?_
    rintro m σ3 H3 ⟨M, line, y6, rfl, p1, p2, p3, W, hk, rfl⟩
    refine ⟨_, t_B (x_dnotin (s := line) (M := M) (x_var rfl rfl) (ev_var rfl) p3), fun hb H4 e5 N2 hN2 => ?_, fun hb H4 e5 => ?_⟩
    · have hnk : line ∉ keys M := fun z => by rw [decide_eq_true z] at hb; cases hb
      have hl := W.2.1
      obtain ⟨line', qq⟩ := SD.Q.ex O (BN.mate_lt hl)
      obtain ⟨s1, s2, s3⟩ := SD.step O W hnk qq
      have mlen := s2.1.len
      rw [s3] at mlen
      refine q_set (x_call1 (α := Nat) (f := fun p => mate p) (x_var (a := line) rfl rfl) True.intro) fun v H5 ⟨e6, rv⟩ => ?_
      have ev : v = .int ((mate line : Nat) : Int) := rv
      subst ev
      refine q_any (x_pair (α := Nat) (β := Nat) (a := 0) (b := 1) (x_n rfl) (x_n rfl)) fun v H6 ⟨e7, t, u0, u1, hv, ht, r0, r1⟩ => ?_
      have e0' : u0 = .int (0 : Nat) := r0
      have e1' : u1 = .int (1 : Nat) := r1
      subst hv e0' e1'
      have ee := (e5.trans e6).trans e7
      have h6 : H6 pf = some (.dK (dnn M)) := ee _ _ p3
      have hz : (dnn M).length < sizeLine := by rw [dnn_len]; exact Nat.lt_of_le_of_lt (show M.length ≤ 8 by omega) (by decide)
      have hz2 : (dnn (put M line 0)).length < sizeLine := by
        rw [dnn_len, MT.put_new hnk, List.length_append]
        exact Nat.lt_of_le_of_lt (show M.length + 1 ≤ 8 by omega) (by decide)
      refine ⟨t, _, rfl, st_of ht, rfl, .int ((0 : Nat) : Int), _, rfl, .ref pf, rfl, .int (line : Int), rfl, pf, _, rfl, DPut.k (k := Sum.inl (line : Int)) h6 hz, ?_⟩
      refine ⟨.int ((1 : Nat) : Int), [], rfl, .ref pf, rfl, .int ((mate line : Nat) : Int), rfl, pf, _, rfl, DPut.k (k := Sum.inl ((mate line : Nat) : Int)) (by rw [dnn_put]; exact upd_same) hz2, rfl, ?_⟩
      rw [dnn_put, dnn_put]
      have f6 : Ex H1 H6 := p1.trans ee
      have g7 : Ex H1 (upd (upd H6 pf (.dK (dnn (put M line 0)))) pf (.dK (dnn (put (put M line 0) (mate line) 1)))) := Ex.mut (Ex.mut f6 hpf) hpf
      have g8 : Ex (Mks [pf] H') (upd (upd H6 pf (.dK (dnn (put M line 0)))) pf (.dK (dnn (put (put M line 0) (mate line) 1)))) := mks_step (mks_step (p2.trans ee) (mks_upd (List.mem_singleton.mpr rfl))) (mks_upd (List.mem_singleton.mpr rfl))
      have g9 : (upd (upd H6 pf (.dK (dnn (put M line 0)))) pf (.dK (dnn (put (put M line 0) (mate line) 1)))) pf = some (.dK (dnn (put (put M line 0) (mate line) 1))) := upd_same
      generalize upd (upd H6 pf (.dK (dnn (put M line 0)))) pf (.dK (dnn (put (put M line 0) (mate line) 1))) = H7 at g7 g8 g9
      have hc7 : H7 pc = some (.dK (dnn Mc)) := g7 _ _ hc
      refine q_set (x_dgetN (i := 1) (d := pc) (M := Mc) (s := at' o line') rfl (ex_is (x_call1 (α := Nat) (pre := fun _ => True) (f := fun p => mate p) (x_ixT (α := Nat) (t := o) (i := mate line) (a := at' o (mate line)) (x_var rfl (mn g7 ro1)) (x_var rfl rfl) (BN.get_at (by rw [ol]; exact BN.mate_lt hl))) True.intro) qq.2.2.symm) hc7 (cg line' qq.2.1)) fun v H8 ⟨e8, rv⟩ => ?_
      have ev : v = .int (line' : Int) := rv
      subst ev
      refine hN2 _ _ _ ?_ ⟨_, line', _, rfl, g7.trans e8, g8.trans e8, e8 _ _ g9, s2, fun k hk' => MT.mem_keys_put.mpr (.inr (MT.mem_keys_put.mpr (.inr (hk k hk')))), rfl⟩
      rw [s3]
      omega
    · have hk1 : line ∈ keys M := by
        cases z : decide (line ∈ keys M) with
        | true => exact of_decide_eq_true z
        | false => rw [z] at hb; cases hb
      obtain ⟨F', Fu', hs⟩ := SD.done O W hk1
      exact hN _ _ (p2.trans e5) ⟨M, _, _, _, rfl, p1.trans e5, e5 _ _ p3, F', Fu', fun k hk' => by
        by_cases z : k = a
        · rw [z]; exact hs
        · exact hk k (by omega)⟩
  · obtain ⟨M, y2, y5, y6, rfl, e0, hM, F, Fu, ha⟩ := hP
    rw [List.length_range] at ha
    refine ⟨.ref pf, rfl, q _ H' ⟨M, ?_, e1.trans e0, pf, rfl, hpf0, hM⟩⟩
    rw [hh]
    exact ⟨F, Fu, fun i hi => ha i (by omega)⟩
end K77

namespace K77
open PySem L2 DL Evl StX
open Arg (rp mn)
open Rep (mt)
open BN (Ord at' mate Sided firstC IsLast part lineOf)
open SD (Sd Fd Full sd)
open MT (keys put)
variable {K : PySem.W.Frag}

/-! ### columns, inner orders -/
structure SdO (o : List Nat) (M : List (Nat × Nat)) (h : Nat) : Prop where
  h1 : 1 ≤ h
  h4 : h ≤ 4
  O : Ord (2 * h) o
  S : Sd h o M
def sp_first_column : Sp := sp1 (α := DNN) (fun M => ∃ o h, SdO o M h) fun M => RF (firstC (List.length M / 2) (sd M))
theorem len_first_column : ∀ vs H Q E, sp_first_column vs H Q E → vs.length = 1 := sp1_len
theorem sem_first_column : ∀ vs H Q E, sp_first_column vs H Q E → t_first_column K (eN Q) (start ["sides", "switch"] vs) H := fun vs H Q E h => by
  obtain ⟨(M : List (Nat × Nat)), vM, rfl, rM, ⟨o, h, D⟩, q⟩ := h
  obtain ⟨d, rfl, hd⟩ := rM
  have hl := D.S.len
  have h4 := D.h4
  refine q_ret (f_lcM (α := Nat) (β := Nat) (fun k => sd M (2 * k)) (i_rng (n := M.length / 2) (x_divN (x_lenD rfl hd) (x_n (n := 2) rfl) (by decide) (by decide)) (by omega)) (by rw [List.length_range]; omega) (fun _ => rfl) fun a x H1 hm e r => ?_) q
  have ha := List.mem_range.mp hm
  exact x_dgetN (s := 2 * a) rfl (x_mulN (x_n (n := 2) rfl) (x_var (a := a) rfl r) (by decide)) (e _ _ hd) (D.S.get (by omega)).1
def RLast (o : List Nat) (M : List (Nat × Nat)) : Res := fun H v H' => ∃ l, IsLast (o.length / 2) o (sd M) l ∧ (∀ x ∈ l, x ≤ 1) ∧ RF l H v H'
theorem RLast.bk {o : List Nat} {M : List (Nat × Nat)} : Bk (RLast o M) := ⟨fun e ⟨l, h1, h2, h3⟩ => ⟨l, h1, h2, RF.bk.bk e h3⟩⟩
def sp_last_column : Sp := sp2 (α := Tup Nat) (β := DNN) (fun o M => ∃ h, SdO o M h) fun o M => RLast o M
theorem len_last_column : ∀ vs H Q E, sp_last_column vs H Q E → vs.length = 2 := sp2_len
theorem sem_last_column : ∀ vs H Q E, sp_last_column vs H Q E → t_last_column K (eN Q) (start ["order", "sides", "ways", "line", "there", "switch"] vs) H := fun vs H Q E h => by
  obtain ⟨(o : List Nat), (M : List (Nat × Nat)), vo, vM, rfl, ro, rM, ⟨h, D⟩, q⟩ := h
  obtain ⟨d, rfl, hd⟩ := rM
  have ol := D.O.len
  have h4 := D.h4
  have hh : o.length / 2 = h := by omega
  have q : ∀ v H', RLast o M H v H' → Q v H' := q
  have en : ∀ {a : Nat × Nat}, a ∈ enumL o → a.1 < 2 * h ∧ at' o a.1 = a.2 := fun {a} hm => by
    have := mem_enumL hm
    have hl := (List.getElem?_eq_some_iff.mp this).1
    exact ⟨by omega, BN.at_get this⟩
  refine q_set (r_dc (α := Nat × Nat) (xs := enumL o) (fun p => p.2) (fun p => .int (sd M p.1 : Int)) (i_enumT (x_var rfl ro)) (by rw [enumL_len]; omega) fun a x H1 hm e ra Q1 k => ?_) fun v H1 hv => ?_
  · obtain ⟨p, u, v, rfl, h1, h2, h3⟩ := ra
    exact ⟨p, [u, v], rfl, st_of h1, rfl, u, [v], rfl, v, [], rfl, rfl, k _ H1 (Ex.refl _) rfl (x_var rfl h3) (ek_n (x_dgetN (i := 1) rfl (x_var (a := a.1) rfl h2) (e _ _ hd) (D.S.get (en hm).1).1))⟩
  obtain ⟨e1, pw, rfl, hpw, hw⟩ := hv
  rw [dcL_nat] at hw
  generalize hMw : (enumL o).foldl (fun M' a => put M' a.2 (sd M a.1)) [] = W at hw
  have wg : ∀ i < 2 * h, MT.get W (at' o i) = some (sd M i) := fun i hi => by
    have hg := BN.get_at (o := o) (i := i) (by rw [ol]; exact hi)
    rw [← hMw]
    exact SD.fold_get (fun a : Nat × Nat => a.2) (fun a : Nat × Nat => sd M a.1) (nodup_enum D.O.nd) (a := (i, at' o i)) (List.mem_of_getElem? (enumL_get hg))
  have wg2 : ∀ m < h, ∃ i, i < 2 * h ∧ at' o i = 2 * m ∧ MT.get W (2 * m) = some (sd M i) := fun m hm => by
    obtain ⟨i, hi, e⟩ := D.O.sur (x := 2 * m) (by omega)
    exact ⟨i, hi, e, by rw [← e]; exact wg i hi⟩
  refine q_ret (f_lcM (α := Nat) (β := Nat) (fun m => (MT.get W (2 * m)).getD 0) (i_rng (n := o.length / 2) (x_divN (x_lenT (α := Nat) (x_var rfl (mn e1 ro))) (x_n (n := 2) rfl) (by decide) (by decide)) (by omega)) (by rw [List.length_range]; omega) (fun _ => rfl) fun a x H2 hm e r => ?_) fun v H2 r => q v H2 ⟨_, ?_, ?_, RF.bk.bk e1 r⟩
  · have ha := List.mem_range.mp hm
    obtain ⟨i, hi, ei, g⟩ := wg2 a (by omega)
    rw [g]
    exact x_dgetN (s := 2 * a) rfl (x_mulN (x_n (n := 2) rfl) (x_var (a := a) rfl r) (by decide)) (e _ _ hw) g
  · rw [hh]
    refine ⟨by simp, fun m hm i hi e => ?_⟩
    rw [NT.at_range hm]
    have := wg i hi
    rw [e] at this
    rw [this]
    rfl
  · intro x hx
    obtain ⟨m, hm, rfl⟩ := List.mem_map.mp hx
    obtain ⟨i, hi, ei, g⟩ := wg2 m (by rw [← hh]; exact List.mem_range.mp hm)
    rw [g]
    exact D.S.fd.two (D.S.get hi).2
def sp_part_order : Sp := sp3 (α := Tup Nat) (β := DNN) (γ := Nat) (fun o M s => s ≤ 1 ∧ ∃ h, SdO o M h) fun o M s => RX (α := Tup Nat) (part (List.length o / 2) o (sd M) s)
theorem len_part_order : ∀ vs H Q E, sp_part_order vs H Q E → vs.length = 3 := sp3_len
theorem sem_part_order : ∀ vs H Q E, sp_part_order vs H Q E → t_part_order K (eN Q) (start ["order", "sides", "side", "lines", "line"] vs) H := fun vs H Q E h => by
  obtain ⟨(o : List Nat), (M : List (Nat × Nat)), s, vo, vM, vs', rfl, ro, rM, rs, ⟨hs, h, D⟩, q⟩ := h
  obtain ⟨d, rfl, hd⟩ := rM
  have ol := D.O.len
  have h4 := D.h4
  have hh : o.length / 2 = h := by omega
  have q : ∀ v H', RX (α := Tup Nat) (part (o.length / 2) o (sd M) s) H v H' → Q v H' := q
  refine q_set (f_lcN (α := Nat) (β := Nat) (fun i => decide (sd M i = s)) (fun i => i) (i_rng (n := o.length) (x_lenT (α := Nat) (x_var rfl ro)) (by omega)) (by rw [List.length_range]; omega) (fun _ => rfl) (fun a x H1 hm e r => ?_) fun a x H1 hm e r _ => x_var rfl r) fun v H1 r1 => ?_
  · exact t_test (x_eqN (x_dgetN (i := 1) rfl (x_var rfl r) (e _ _ hd) (D.S.get (by have := List.mem_range.mp hm; omega)).1) (x_var rfl (mn e rs)))
  rw [List.map_id', ol, SD.filter_lines hs h (SD.Sided.pairs D.S.sided)] at r1
  obtain ⟨p, rfl, hp, e1, ho⟩ := Own.of r1
  refine q_ret (x_tupleOf (α := Nat) (ef_is (f_lcM (α := Nat) (β := Nat) (fun i => at' o i / 2) (i_list (α := Nat) (x_var rfl ho.rp)) (by rw [List.length_map, List.length_range]; omega) (fun _ => rfl) fun a x H2 hm e r => ?_) ?_).x) fun v H' r => q v H' (RX.bk.bk e1 r)
  · obtain ⟨k, hk, rfl⟩ := List.mem_map.mp hm
    have hl := (BN.lineOf_side D.S.sided (List.mem_range.mp hk) hs).2.1
    exact x_divN (x_ixT (α := Nat) (t := o) (x_var rfl (mn (e1.trans e) ro)) (x_var rfl r) (BN.get_at (by omega))) (x_n (n := 2) rfl) (by decide) (by decide)
  · rw [List.map_map, hh]
    rfl
/-! ### both columns -/
abbrev Row := List Nat × List Nat × List Nat × List Nat
structure PairOf (h : Nat) (o : List Nat) (r : Row) : Prop where
  ex : ∃ s, Sided h o s ∧ r.1 = firstC h s ∧ IsLast h o s r.2.1 ∧ r.2.2.1 = part h o s 0 ∧ r.2.2.2 = part h o s 1
  bit : ∀ x ∈ r.2.1, x ≤ 1
theorem PairOf.len {h : Nat} {o : List Nat} {r : Row} (p : PairOf h o r) : r.1.length = h ∧ r.2.1.length = h := by
  obtain ⟨s, h1, h2, h3, _⟩ := p.ex
  exact ⟨by rw [h2]; simp [firstC], h3.1⟩
def fs (rows : List Row) : List Nat := rows.flatMap (·.1)
def ls (rows : List Row) : List Nat := rows.flatMap (·.2.1)
def ps (rows : List Row) : List (List Nat) := rows.flatMap fun r => [r.2.2.1, r.2.2.2]
theorem fs_snoc {rows : List Row} {r : Row} : fs (rows ++ [r]) = fs rows ++ r.1 := by simp [fs]
theorem ls_snoc {rows : List Row} {r : Row} : ls (rows ++ [r]) = ls rows ++ r.2.1 := by simp [ls]
theorem ps_snoc {rows : List Row} {r : Row} : ps (rows ++ [r]) = ps rows ++ [r.2.2.1, r.2.2.2] := by simp [ps]
structure CP (H : Hp) (p1 p2 p3 : Addr) (rows : List Row) (H' : Hp) : Prop where
  e : Ex H H'
  o1 : Own p1 (fs rows) H'
  o2 : Own p2 (ls rows) H'
  o3 : Own (α := Tup Nat) p3 (ps rows) H'
def RCP (h : Nat) (os : List (List Nat)) : Res := fun H v H' => ∃ rows, Paired (fun o r => PairOf h o r) os rows ∧ Ex H H' ∧ ∃ t vf vl pp, v = .ref t ∧ H' t = some (.tup [vf, vl, .ref pp]) ∧ rp (α := Tup Nat) (fs rows) vf H' ∧ rp (α := Tup Nat) (ls rows) vl H' ∧ H pp = none ∧ Own (α := Tup Nat) pp (ps rows) H'
def OrdsOk (h : Nat) (os : List (List Nat)) : Prop := 1 ≤ h ∧ h ≤ 4 ∧ os.length ≤ 2 ∧ ∀ o ∈ os, Ord (2 * h) o
theorem rows_len {h : Nat} {os : List (List Nat)} {rows : List Row} (P : Paired (fun o r => PairOf h o r) os rows) : (fs rows).length = os.length * h ∧ (ls rows).length = os.length * h ∧ (ps rows).length = os.length * 2 := by
  induction P with
  | nil => exact ⟨by simp [fs], by simp [ls], by simp [ps]⟩
  | @cons o r os rows hr t ih =>
    obtain ⟨h1, h2, h3⟩ := ih
    obtain ⟨l1, l2⟩ := hr.len
    refine ⟨?_, ?_, ?_⟩
    · show (r.1 ++ fs rows).length = _
      rw [List.length_append, h1, l1, List.length_cons, Nat.succ_mul]
      omega
    · show (r.2.1 ++ ls rows).length = _
      rw [List.length_append, h2, l2, List.length_cons, Nat.succ_mul]
      omega
    · show ([r.2.2.1, r.2.2.2] ++ ps rows).length = _
      rw [List.length_append, h3]
      simp only [List.length_cons, List.length_nil]
      omega
def sp_column_pair : Sp := fun vs H Q _ => ∃ (os : List (List Nat)) (h : Nat) (vo : V), vs = [vo] ∧ rp (α := Lst (Tup Nat)) os vo H ∧ OrdsOk h os ∧ ∀ v H', RCP h os H v H' → Q v H'
theorem len_column_pair : ∀ vs H Q E, sp_column_pair vs H Q E → vs.length = 1 := fun vs H Q E ⟨_, _, _, e, _⟩ => by rw [e]; rfl
theorem sem_column_pair : ∀ vs H Q E, sp_column_pair vs H Q E → t_column_pair K sp_sides_of sp_first_column sp_last_column sp_part_order (eN Q) (start ["orders", "firsts", "lasts", "parts", "order", "sides"] vs) H := fun vs H Q E h => by
  obtain ⟨os, h, vo, rfl, ro, ⟨hh1, hh4, hos, hO⟩, q⟩ := h
  obtain ⟨a, us, rfl, ha, its⟩ := ro
  refine z_par3 (f_lst (α := Nat) xs_nil (Nat.zero_le _)) (f_lst (α := Nat) xs_nil (Nat.zero_le _)) (f_lst (α := Tup Nat) xs_nil (Nat.zero_le _)) fun v1 v2 v3 H1 H2 H3 r1 r2 r3 => ?_
  obtain ⟨p1, rfl, hp1, e1, o1⟩ := Own.of r1
  obtain ⟨p2, rfl, hp2, e2, o2⟩ := Own.of r2
  obtain ⟨p3, rfl, hp3, e3, o3⟩ := Own.of r3
  have n12 : p1 ≠ p2 := fun z => by
    obtain ⟨_, g, _⟩ := o1
    rw [z, hp2] at g
    cases g
  have n23 : p2 ≠ p3 := fun z => by
    obtain ⟨_, g, _⟩ := o2
    rw [z, hp3] at g
    cases g
  have n13 : p1 ≠ p3 := fun z => by
    obtain ⟨_, g, _⟩ := o1.ex e2
    rw [z, hp3] at g
    cases g
  have h01 : H p1 = none := hp1
  have h02 : H p2 = none := fresh_back e1 hp2
  have h03 : H p3 = none := fresh_back (e1.trans e2) hp3
  have hn : a ∉ [p1, p2, p3] := fun z => by
    simp only [List.mem_cons, List.not_mem_nil, or_false] at z
    rcases z with z | z | z
    · rw [z, h01] at ha; cases ha
    · rw [z, h02] at ha; cases ha
    · rw [z, h03] at ha; cases ha
  have ee := (e1.trans e2).trans e3
  refine z_forO (α := Tup Nat) (xs := os) [p1, p2, p3] (is_list (i := 0) rfl (ee _ _ ha) (its.mono ee) hn (fun p hp => ?_)) (fun i σ' H' => ∃ rows y4 y5, σ' = [some (.ref a), some (.ref p1), some (.ref p2), some (.ref p3), y4, y5] ∧ CP H p1 p2 p3 rows H' ∧ Paired (fun o r => PairOf h o r) (os.take i) rows) (fun H4 e4 => ⟨[], none, none, rfl, ⟨ee.trans e4, (o1.ex (e2.trans e3)).ex e4, (o2.ex e3).ex e4, o3.ex e4⟩, .nil⟩) (fun i (o : List Nat) x σ' H0 H' hi hP e4 rx N hN => ?_) fun σ' H' hP => ?_
  · simp only [List.mem_cons, List.not_mem_nil, or_false] at hp
    rcases hp with rfl | rfl | rfl
    · obtain ⟨ws, g, _⟩ := o1.ex (e2.trans e3)
      exact ⟨_, g, fun xs z => by cases z⟩
    · obtain ⟨ws, g, _⟩ := o2.ex e3
      exact ⟨_, g, fun xs z => by cases z⟩
    · obtain ⟨ws, g, _⟩ := o3
      exact ⟨_, g, fun xs z => by cases z⟩
  · obtain ⟨rows, y4, y5, rfl, C, P⟩ := hP
    have hi : os[i]? = some o := hi
    have hil := (List.getElem?_eq_some_iff.mp hi).1
    have O := hO o (List.mem_of_getElem? hi)
    have ol := O.len
    have hh : o.length / 2 = h := by omega
    obtain ⟨l1, l2, l3⟩ := rows_len P
    have lt : (os.take i).length = i := by rw [List.length_take]; omega
    rw [lt] at l1 l2 l3
    have hb : i * h ≤ 8 := Nat.le_trans (Nat.mul_le_mul (show i ≤ 2 by omega) hh4) (by decide)
    refine q_set (r_call1 (α := Tup Nat) (R := fun o => RSd o) (fun _ => RSd.bk) (x_var rfl rx) ⟨h, hh1, hh4, O⟩) fun v H5 ⟨M, S, e5, d, hv, hd0, hd⟩ => ?_
    subst hv
    rw [hh] at S
    have D : SdO o M h := ⟨hh1, hh4, O, S⟩
    have C5 : CP H p1 p2 p3 rows H5 := ⟨(C.e.trans e4).trans e5, (C.o1.ex e4).ex e5, (C.o2.ex e4).ex e5, (C.o3.ex e4).ex e5⟩
    have rx5 := mn e5 rx
    have ned : ∀ {p : Addr} {α : Type} [Arg α] {xs : List α}, Own p xs H5 → d ≠ p := fun {p α _ xs} ⟨_, g, _⟩ z => by
      rw [← z, hd] at g
      cases g
    have d1 := ned C5.o1
    have d2 := ned C5.o2
    have d3 := ned C5.o3
    have ml : M.length = 2 * h := S.len
    refine z_ext (α := Nat) (p := p1) (as := fs rows) (bs := firstC (M.length / 2) (sd M)) rfl C5.o1 (by rw [l1]; simp [firstC]; omega) (f_call1 (α := DNN) (β := Nat) (f := fun M => firstC (List.length M / 2) (sd M)) (a := M) (x_var (α := DNN) (a := M) (v := .ref d) rfl ⟨d, rfl, hd⟩) ⟨o, h, D⟩).x fun H6 us1 ws1 e6 g1 q1 => ?_
    have x6 := ext_lst (ws := us1 ++ ws1) g1
    have C6o2 : Own p2 (ls rows) (upd H6 p1 (.lst (us1 ++ ws1))) := (C5.o2.ex e6).upd g1 n12.symm
    have C6o3 : Own (α := Tup Nat) p3 (ps rows) (upd H6 p1 (.lst (us1 ++ ws1))) := (C5.o3.ex e6).upd g1 n13.symm
    have rx6 := mt x6 (mn e6 rx5)
    have hd6 : (upd H6 p1 (.lst (us1 ++ ws1))) d = some (.dK (dnn M)) := by rw [upd_ne d1]; exact e6 _ _ hd
    have E6 : Ex H (upd H6 p1 (.lst (us1 ++ ws1))) := Ex.mut (C5.e.trans e6) h01
    have M6 : Ex (Mks [p1, p2, p3] H') (upd H6 p1 (.lst (us1 ++ ws1))) := mks_step (mks_of (e5.trans e6)) (mks_upd (by simp))
    generalize upd H6 p1 (.lst (us1 ++ ws1)) = G6 at q1 C6o2 C6o3 rx6 hd6 E6 M6 ⊢
    have fl : firstC (M.length / 2) (sd M) = firstC h (sd M) := by rw [ml]; congr 1; omega
    rw [fl] at q1
    -- lasts
    refine z_extE (α := Nat) (p := p2) (as := ls rows) (ok := fun l => IsLast h o (sd M) l ∧ ∀ x ∈ l, x ≤ 1) rfl C6o2 (r_call2 (α := Tup Nat) (β := DNN) (R := fun o M => RLast o M) (fun _ _ => RLast.bk) (x_var (α := Tup Nat) (a := o) rfl rx6) (x_var (α := DNN) (a := M) (v := .ref d) rfl ⟨d, rfl, hd6⟩) ⟨h, D⟩) (fun v H7 ⟨l, k1, k2, k3, p, us, k4, k5, k6, k7⟩ => ⟨k3, l, ⟨by rw [hh] at k1; exact k1, k2⟩, by rw [l2, k1.1, hh]; omega, p, us, k4, k6, k7⟩) fun l ⟨k1, k2⟩ H7 us2 ws2 e7 g2 q2 => ?_
    have x7 := ext_lst (ws := us2 ++ ws2) g2
    have C7o1 := (q1.ex e7).upd (ws := us2 ++ ws2) g2 n12
    have C7o3 := (C6o3.ex e7).upd (ws := us2 ++ ws2) g2 n23.symm
    have rx7 := mt x7 (mn e7 rx6)
    have hd7 : (upd H7 p2 (.lst (us2 ++ ws2))) d = some (.dK (dnn M)) := by rw [upd_ne d2]; exact e7 _ _ hd6
    have E7 : Ex H (upd H7 p2 (.lst (us2 ++ ws2))) := Ex.mut (E6.trans e7) h02
    have M7 : Ex (Mks [p1, p2, p3] H') (upd H7 p2 (.lst (us2 ++ ws2))) := mks_step (M6.trans e7) (mks_upd (by simp))
    generalize upd H7 p2 (.lst (us2 ++ ws2)) = G7 at q2 C7o1 C7o3 rx7 hd7 E7 M7 ⊢
    -- parts
    have po : ∀ (s : Nat), s ≤ 1 → EX (α := Tup Nat) (tCall sp_part_order [] E0 (tCons (tVar 4) (tCons (tVar 5) (tCons (tC (.int (s : Int))) tNil)))) [some (.ref a), some (.ref p1), some (.ref p2), some (.ref p3), some x, some (.ref d)] G7 (part h o (sd M) s) := fun s hs => ex_is (x_call3 (α := Tup Nat) (β := DNN) (γ := Nat) (δ := Tup Nat) (f := fun o M s => part (List.length o / 2) o (sd M) s) (x_var (α := Tup Nat) (a := o) rfl rx7) (x_var (α := DNN) (a := M) (v := .ref d) rfl ⟨d, rfl, hd7⟩) (x_n (n := s) rfl) ⟨hs, h, D⟩) (by show part (o.length / 2) o (sd M) s = _; rw [hh])
    refine z_ext (α := Tup Nat) (p := p3) (as := ps rows) (bs := [part h o (sd M) 0, part h o (sd M) 1]) rfl C7o3 (show (ps rows).length + 2 ≤ 100000 by rw [l3]; omega) (f_lst (α := Tup Nat) (xs_cons (po 0 (by decide)) (xs_cons (po 1 (by decide)) xs_nil)) (show 2 ≤ 100000 by decide)).x fun H8 us3 ws3 e8 g3 q3 => ?_
    have C8o1 := (C7o1.ex e8).upd (ws := us3 ++ ws3) g3 n13
    have C8o2 := (q2.ex e8).upd (ws := us3 ++ ws3) g3 n23
    refine hN _ _ (mks_step (M7.trans e8) (mks_upd (by simp))) ⟨rows ++ [(firstC h (sd M), l, part h o (sd M) 0, part h o (sd M) 1)], _, _, rfl, ⟨Ex.mut (E7.trans e8) h03, ?_, ?_, ?_⟩, ?_⟩
    · rw [fs_snoc]
      exact C8o1
    · rw [ls_snoc]
      exact C8o2
    · rw [ps_snoc]
      exact q3
    · have tk : os.take (i + 1) = os.take i ++ [o] := by rw [List.take_add_one, hi]; rfl
      rw [tk]
      exact Paired.snoc P ⟨⟨sd M, S.sided, rfl, k1, rfl, rfl⟩, k2⟩
  · obtain ⟨rows, y4, y5, rfl, C, P⟩ := hP
    have P : Paired (fun o r => PairOf h o r) (os.take os.length) rows := P
    rw [List.take_length] at P
    refine ret1 ?_
    show (tCB (rTupQ K) (tCons (tVar 1) tNil)) _ H' _
    refine (x_tupleOf (α := Nat) (as := fs rows) (K := K) (σ := [some (.ref a), some (.ref p1), some (.ref p2), some (.ref p3), y4, y5]) (x_var (i := 1) rfl C.o1.rp)) H' (Ex.refl _) _ fun vf H5 ⟨e5, rf⟩ => ?_
    show (tCB (rTupQ K) (tCons (tVar 2) tNil)) _ H5 _
    refine (x_tupleOf (α := Nat) (as := ls rows) (K := K) (σ := [some (.ref a), some (.ref p1), some (.ref p2), some (.ref p3), y4, y5]) (x_var (i := 2) rfl (C.o2.ex e5).rp)) H5 (Ex.refl _) _ fun vl H6 ⟨e6, rl⟩ => ?_
    refine ⟨.ref p3, rfl, sz_of (show 3 ≤ 100000 by decide), fun t ht => q _ _ ⟨rows, P, ((C.e.trans e5).trans e6).trans (Ex.new ht), t, vf, vl, p3, rfl, upd_same, mn (e6.trans (Ex.new ht)) rf, mn (Ex.new ht) rl, h03, ((C.o3.ex e5).ex e6).ex (Ex.new ht)⟩⟩
end K77

namespace K77
open PySem L2 DL Evl StX
open Arg (rp mn)
open Rep (mt)
open BN (Ord at' mate Sided firstC IsLast part lineOf)
open NT (Col Setg four eight)
variable {K : PySem.W.Frag}

/-! ### a setting for an order -/
inductive Stp (o : List Nat) : Nat → List (List Nat) → List (List Nat) → List (List Nat) → Prop
  | nil : Stp o o.length [o] [] []
  | snoc {n : Nat} {os A B : List (List Nat)} {rows : List Row} : Stp o n os A B → 2 < n → Paired (fun o r => PairOf (n / 2) o r) os rows → Stp o (n / 2) (ps rows) (A ++ [fs rows]) (B ++ [ls rows])
structure SInv (o : List Nat) (n : Nat) (os A B : List (List Nat)) : Prop where
  n8 : n = 2 ∨ n = 4 ∨ n = 8
  len : os.length * n = o.length
  le : o.length ≤ 8
  ord : ∀ q ∈ os, Ord n q
  a : A.length + n ≤ 8
  b : B.length + n ≤ 8
  st : Stp o n os A B
theorem ps_mem {h : Nat} {os : List (List Nat)} {rows : List Row} (P : Paired (fun o r => PairOf h o r) os rows) (hO : ∀ q ∈ os, Ord (2 * h) q) : ∀ q ∈ ps rows, Ord h q := by
  induction P with
  | nil => intro q hq; cases hq
  | @cons o r os rows hr t ih =>
    intro q hq
    have hq : q ∈ [r.2.2.1, r.2.2.2] ++ ps rows := hq
    obtain ⟨s, S, _, _, h1, h2⟩ := hr.ex
    rcases List.mem_append.mp hq with hq | hq
    · simp only [List.mem_cons, List.not_mem_nil, or_false] at hq
      rcases hq with rfl | rfl
      · rw [h1]; exact BN.part_ord (hO o List.mem_cons_self) S (by decide)
      · rw [h2]; exact BN.part_ord (hO o List.mem_cons_self) S (by decide)
    · exact ih (fun x hx => hO x (List.mem_cons_of_mem _ hx)) q hq
theorem SInv.next {o : List Nat} {n : Nat} {os A B : List (List Nat)} {rows : List Row} (I : SInv o n os A B) (hn : 2 < n) (P : Paired (fun o r => PairOf (n / 2) o r) os rows) : SInv o (n / 2) (ps rows) (A ++ [fs rows]) (B ++ [ls rows]) := by
  have h8 := I.n8
  have hl := (rows_len P).2.2
  have h1 := I.len
  have h2 := I.a
  have h3 := I.b
  refine ⟨by omega, ?_, I.le, ps_mem P fun q hq => ?_, ?_, ?_, .snoc I.st hn P⟩
  · rw [hl, ← h1, Nat.mul_assoc]
    congr 1
    omega
  · have : 2 * (n / 2) = n := by omega
    rw [this]
    exact I.ord q hq
  · rw [List.length_append, List.length_cons, List.length_nil]; omega
  · rw [List.length_append, List.length_cons, List.length_nil]; omega
def ForSet (o : List Nat) (S : List (List Nat)) : Prop := ∃ os A B, SInv o 2 os A B ∧ S = A ++ (os.map fun q => at' q 0) :: B.reverse
def RSet (o : List Nat) : Res := fun H v H' => ∃ S, ForSet o S ∧ RX (α := Tup (Tup Nat)) S H v H'
theorem RSet.bk {o : List Nat} : Bk (RSet o) := ⟨fun e ⟨S, h, r⟩ => ⟨S, h, RX.bk.bk e r⟩⟩
structure SW (H : Hp) (o : List Nat) (n : Nat) (vo : V) (σ : L2.St) (H' : Hp) (p a b : Addr) (os A B : List (List Nat)) : Prop where
  I : SInv o n os A B
  e : Ex H H'
  st : ∃ y4 y5, σ = [some vo, some (.ref p), some (.ref a), some (.ref b), y4, y5, none, none]
  op : Own (α := Tup Nat) p os H'
  oa : Own (α := Tup Nat) a A H'
  ob : Own (α := Tup Nat) b B H'
  ha : H a = none
  hb : H b = none
  hab : a ≠ b
  hpa : p ≠ a
  hpb : p ≠ b
def mkS (os A B : List (List Nat)) : List (List Nat) := A ++ ((os.map fun q => at' q 0) :: (B.reverse ++ []))
theorem mkS_eq {os A B : List (List Nat)} : mkS os A B = A ++ (os.map fun q => at' q 0) :: B.reverse := by
  unfold mkS
  rw [List.append_nil]
theorem mkS_len {os A B : List (List Nat)} (h1 : A.length ≤ 8) (h2 : B.length ≤ 8) : (mkS os A B).length ≤ 100000 := by
  rw [mkS_eq, List.length_append, List.length_cons, List.length_reverse]
  omega
def sp_setting_for_by : Sp := sp1 (α := Tup Nat) (fun o => OrdP o) fun o => RSet o
theorem len_setting_for_by : ∀ vs H Q E, sp_setting_for_by vs H Q E → vs.length = 1 := sp1_len
theorem sem_setting_for_by : ∀ vs H Q E, sp_setting_for_by vs H Q E → t_setting_for_by K sp_column_pair (eN Q) (start ["order", "orders", "ahead", "behind", "first", "last", "middle", "each"] vs) H := fun vs H Q E h => by
  obtain ⟨(o : List Nat), vo, rfl, ro, hP, q⟩ := h
  have h48 := hP.len.1
  have O : Ord o.length o := by
    rcases hP with h | h <;> rw [h.len] <;> exact h
  refine z_par3 (f_lst (α := Tup Nat) (xs_cons (x_var (α := Tup Nat) (a := o) rfl ro) xs_nil) (show 1 ≤ 100000 by decide)) (f_lst (α := Tup Nat) xs_nil (Nat.zero_le _)) (f_lst (α := Tup Nat) xs_nil (Nat.zero_le _)) (fun v1 v2 v3 H1 H2 H3 r1 r2 r3 => ?_) (fun r => r.1) (fun r => r.1)
  obtain ⟨p1, rfl, hp1, e1, o1⟩ := Own.of r1
  obtain ⟨p2, rfl, hp2, e2, o2⟩ := Own.of r2
  obtain ⟨p3, rfl, hp3, e3, o3⟩ := Own.of r3
  have n12 : p1 ≠ p2 := fun z => by
    obtain ⟨_, g, _⟩ := o1
    rw [z, hp2] at g
    cases g
  have n23 : p2 ≠ p3 := fun z => by
    obtain ⟨_, g, _⟩ := o2
    rw [z, hp3] at g
    cases g
  have n13 : p1 ≠ p3 := fun z => by
    obtain ⟨_, g, _⟩ := o1.ex e2
    rw [z, hp3] at g
    cases g
  have I0 : SInv o o.length [o] [] [] := ⟨by omega, by simp, by omega, fun q hq => by
    rw [List.mem_singleton.mp hq]
    exact O, by simp; omega, by simp; omega, .nil⟩
  refine z_while (fun m σ' H' => ∃ p a b os A B, SW H o m vo σ' H' p a b os A B) o.length ⟨p1, p2, p3, [o], [], [], I0, (e1.trans e2).trans e3, ⟨none, none, rfl⟩, o1.ex (e2.trans e3), o2.ex e3, o3, fresh_back e1 hp2, fresh_back (e1.trans e2) hp3, n23, n12, n13⟩ ?_
  rintro n σ' H' ⟨p, a, b, os, A, B, W⟩
  obtain ⟨y4, y5, rfl⟩ := W.st
  have n8 := W.I.n8
  have hl := W.I.len
  have hle := W.I.le
  have h0 : 0 < os.length := by
    rcases Nat.eq_zero_or_pos os.length with z | z
    · rw [z] at hl; omega
    · exact z
  obtain ⟨q0, hq0⟩ : ∃ q0, os[0]? = some q0 := ⟨os[0], List.getElem?_eq_getElem h0⟩
  have l0 := (W.I.ord q0 (List.mem_of_getElem? hq0)).len
  refine ⟨decide (2 < q0.length), t_test (x_gtN (x_lenT (α := Nat) (as := q0) (x_ixL (α := Tup Nat) (t := os) (a := q0) (x_var (α := Lst (Tup Nat)) (a := os) rfl W.op.rp) (x_n (n := 0) rfl) hq0)) (x_n (n := 2) rfl)), fun hb H1 e1 N hN => ?_, fun hb H1 e1 => ?_⟩
  · have hn : 2 < n := by rw [← l0]; exact of_decide_eq_true hb
    have E1 := W.e.trans e1
    have os2 : os.length ≤ 2 := by
      have : os.length * 4 ≤ 8 := Nat.le_trans (Nat.mul_le_mul_left _ (show 4 ≤ n by omega)) (by omega)
      omega
    have OK : OrdsOk (n / 2) os := ⟨by omega, by omega, os2, fun q hq => by
      have : 2 * (n / 2) = n := by omega
      rw [this]
      exact W.I.ord q hq⟩
    show (tCall sp_column_pair [] E0 (tCons (tVar 1) tNil)) _ H1 _
    refine ⟨_, rfl, ⟨os, n / 2, .ref p, rfl, (W.op.ex e1).rp, OK, fun v H2 ⟨rows, P, e2, t, vf, vl, pp, hv, ht, rf, rl, hpp, opp⟩ => ?_⟩⟩
    subst hv
    refine ⟨t, [vf, vl, .ref pp], rfl, st_of ht, rfl, vf, [vl, .ref pp], rfl, vl, [.ref pp], rfl, .ref pp, [], rfl, rfl, ?_⟩
    have oa2 := W.oa.ex (e1.trans e2)
    have ob2 := W.ob.ex (e1.trans e2)
    have E2 := E1.trans e2
    have pna : pp ≠ a := fun z => by
      obtain ⟨_, g, _⟩ := W.oa.ex e1
      rw [← z, hpp] at g
      cases g
    have pnb : pp ≠ b := fun z => by
      obtain ⟨_, g, _⟩ := W.ob.ex e1
      rw [← z, hpp] at g
      cases g
    have la := W.I.a
    have lb := W.I.b
    refine z_app (α := Tup Nat) (i := 2) (p := a) (as := A) (a := fs rows) rfl oa2 (show List.length (α := List Nat) A < 100000 by omega) (x_var (α := Tup Nat) (a := fs rows) (i := 4) (v := vf) rfl rf) fun H3 v3 us3 e3 r3 g3 q3 => ?_
    have x3 := ext_lst (ws := us3 ++ [v3]) g3
    have ob3 := (ob2.ex e3).upd (ws := us3 ++ [v3]) g3 W.hab.symm
    have op3 := (opp.ex e3).upd (ws := us3 ++ [v3]) g3 pna
    have rl3 := mt x3 (mn e3 rl)
    have E3 : Ex H (upd H3 a (.lst (us3 ++ [v3]))) := Ex.mut (E2.trans e3) W.ha
    generalize upd H3 a (.lst (us3 ++ [v3])) = G3 at q3 ob3 op3 rl3 E3 ⊢
    refine z_app (α := Tup Nat) (i := 3) (p := b) (as := B) (a := ls rows) rfl ob3 (show List.length (α := List Nat) B < 100000 by omega) (x_var (α := Tup Nat) (a := ls rows) (i := 5) (v := vl) rfl rl3) fun H4 v4 us4 e4 r4 g4 q4 => ?_
    have oa4 := (q3.ex e4).upd (ws := us4 ++ [v4]) g4 W.hab
    have op4 := (op3.ex e4).upd (ws := us4 ++ [v4]) g4 pnb
    exact hN (n / 2) _ _ (by omega) ⟨pp, a, b, ps rows, A ++ [fs rows], B ++ [ls rows], W.I.next hn P, Ex.mut (E3.trans e4) W.hb, ⟨_, _, rfl⟩, op4, oa4, q4, W.ha, W.hb, W.hab, pna, pnb⟩
  · have hn : n = 2 := by
      have := of_decide_eq_false hb
      omega
    subst hn
    have W1 : Ex H H1 := W.e.trans e1
    have la := W.I.a
    have lb := W.I.b
    refine q_set (x_tupleOf (α := Nat) (as := os.map fun q => at' q 0) (f_lcM (α := Tup Nat) (β := Nat) (xs := os) (fun q => at' q 0) (i_list (α := Tup Nat) (x_var (α := Lst (Tup Nat)) (a := os) rfl (W.op.ex e1).rp)) (show List.length (α := List Nat) os ≤ 100000 by omega) (fun _ => rfl) fun (qq : List Nat) x H2 hm e r => ?_).x) fun v H2 ⟨e2, r2⟩ => ?_
    · have lq := (W.I.ord qq hm).len
      exact x_ixT (α := Nat) (t := qq) (x_var (α := Tup Nat) (a := qq) rfl r) (x_n (n := 0) rfl) (BN.get_at (by omega))
    have E2 := W1.trans e2
    refine q_ret (x_tup (α := Tup Nat) (as := mkS os A B) (xs_star (α := Tup Nat) (x_var (α := Lst (Tup Nat)) (a := A) (i := 2) rfl (W.oa.ex (e1.trans e2)).rp) (xs_cons (α := Tup Nat) (x_var (α := Tup Nat) (i := 6) rfl r2) (xs_star (α := Tup Nat) (f_rev (α := Tup Nat) (x_var (α := Lst (Tup Nat)) (a := B) (i := 3) rfl (W.ob.ex (e1.trans e2)).rp)).x xs_nil))) (mkS_len (by omega) (by omega))) fun v H3 r3 => ?_
    exact q v H3 ⟨_, ⟨os, A, B, W.I, mkS_eq⟩, RX.bk.bk E2 r3⟩
def sp_setting_for : Sp := sp1 (α := Tup Nat) (fun o => OrdP o) fun o => RSet o
theorem len_setting_for : ∀ vs H Q E, sp_setting_for vs H Q E → vs.length = 1 := sp1_len
theorem sem_setting_for : ∀ vs H Q E, sp_setting_for vs H Q E → t_setting_for K sp_check_lines sp_setting_for_by (eN Q) (start ["order"] vs) H := fun vs H Q E h => by
  obtain ⟨(o : List Nat), vo, rfl, ro, ho, q⟩ := h
  exact q_drop (r_call1 (α := Tup Nat) (R := fun _ => RN) (pre := OrdP) (fun _ => RN.bk) (x_var (α := Tup Nat) (a := o) rfl ro) ho) fun v H1 r => q_ret (r_call1 (α := Tup Nat) (R := fun o => RSet o) (fun _ => RSet.bk) (x_var (α := Tup Nat) (a := o) rfl (mn r.1 ro)) ho) fun v H2 r2 => q v H2 (RSet.bk.bk r.1 r2)
end K77

namespace K77
open PySem L2
open BN (Ord at' mate Sided firstC IsLast part lineOf lead)
open NT (Col Setg four eight inn2 inn4 up lo)

/-! ### the settings told lead as the order -/
theorem ord2 {p : List Nat} (h : Ord 2 p) : p = [at' p 0 % 2, (1 + at' p 0) % 2] := by
  match p, h with
  | [x, y], h =>
    have h1 := h.lt x (by simp)
    have h2 := h.lt y (by simp)
    have h3 := h.nd
    simp at h3
    simp [at']
    omega
  | [], h => exact absurd h.len (by simp)
  | [_], h => exact absurd h.len (by simp)
  | _ :: _ :: _ :: _, h => exact absurd h.len (by simp)
theorem eq_range {n : Nat} {o : List Nat} {f : Nat → Nat} (h : o.length = n) (e : ∀ i < n, f i = at' o i) : (List.range n).map f = o := by
  refine List.ext_getElem? fun i => ?_
  by_cases hi : i < n
  · rw [List.getElem?_map, List.getElem?_range hi, BN.get_at (by omega)]
    simp [e i hi]
  · rw [List.getElem?_eq_none (by simp; omega), List.getElem?_eq_none (by omega)]
theorem four_of {p : List Nat} {r : Row} (O : Ord 4 p) (P : PairOf 2 p r) : four [r.1, [at' r.2.2.1 0, at' r.2.2.2 0], r.2.1] = p := by
  obtain ⟨s, S, h1, h2, h3, h4⟩ := P.ex
  refine eq_range O.len fun i hi => ?_
  show lead 2 r.1 r.2.1 (inn2 [at' r.2.2.1 0, at' r.2.2.2 0]) i = _
  rw [h1]
  refine BN.lead_eq O S h2 (fun side hs => ?_) hi
  have o0 := BN.part_ord O S (side := 0) (by decide)
  have o1 := BN.part_ord O S (side := 1) (by decide)
  rw [h3, h4]
  have hs : side = 0 ∨ side = 1 := by omega
  rcases hs with rfl | rfl
  · exact (ord2 o0).symm
  · exact (ord2 o1).symm
theorem bit_first {h : Nat} {o : List Nat} {r : Row} (P : PairOf h o r) : ∀ x ∈ r.1, x ≤ 1 := fun x hx => by
  obtain ⟨s, S, h1, _⟩ := P.ex
  rw [h1] at hx
  obtain ⟨k, hk, rfl⟩ := List.mem_map.mp hx
  have := (SD.Sided.pairs S k (List.mem_range.mp hk)).1
  exact this
theorem bit_ps {o : List Nat} {r : Row} (O : Ord 4 o) (P : PairOf 2 o r) : at' r.2.2.1 0 ≤ 1 ∧ at' r.2.2.2 0 ≤ 1 := by
  obtain ⟨s, S, _, _, h3, h4⟩ := P.ex
  have o0 := BN.part_ord O S (side := 0) (by decide)
  have o1 := BN.part_ord O S (side := 1) (by decide)
  rw [← h3] at o0
  rw [← h4] at o1
  have := o0.lt' (i := 0) (by decide)
  have := o1.lt' (i := 0) (by decide)
  omega
theorem Stp.le {o : List Nat} {n : Nat} {os A B : List (List Nat)} (h : Stp o n os A B) : n ≤ o.length := by
  induction h with
  | nil => exact Nat.le_refl _
  | snoc _ _ _ ih => omega
theorem paired1 {α β : Type} {R : α → β → Prop} {a : α} {bs : List β} (h : Paired R [a] bs) : ∃ b, bs = [b] ∧ R a b := by
  cases h with
  | cons r t =>
    cases t
    exact ⟨_, rfl, r⟩
theorem paired2 {α β : Type} {R : α → β → Prop} {a a' : α} {bs : List β} (h : Paired R [a, a'] bs) : ∃ b b', bs = [b, b'] ∧ R a b ∧ R a' b' := by
  cases h with
  | cons r t =>
    obtain ⟨b', rfl, r'⟩ := paired1 t
    exact ⟨_, b', rfl, r, r'⟩
theorem fs1 (r : Row) : fs [r] = r.1 := by simp [fs]
theorem ls1 (r : Row) : ls [r] = r.2.1 := by simp [ls]
theorem ps1 (r : Row) : ps [r] = [r.2.2.1, r.2.2.2] := by simp [ps]
theorem Stp.inv0 {o : List Nat} {n : Nat} {os A B : List (List Nat)} (h : Stp o n os A B) (hn : n = o.length) (h0 : 0 < n) : os = [o] ∧ A = [] ∧ B = [] := by
  cases h with
  | nil => exact ⟨rfl, rfl, rfl⟩
  | snoc h _ _ =>
    have := h.le
    omega
theorem Stp.inv1 {o : List Nat} {n : Nat} {os A B : List (List Nat)} (h : Stp o n os A B) (hn : 2 * n = o.length) (h0 : 2 ≤ n) : ∃ r, os = [r.2.2.1, r.2.2.2] ∧ A = [r.1] ∧ B = [r.2.1] ∧ PairOf n o r := by
  cases h with
  | nil => omega
  | @snoc m os0 A0 B0 rows h hm P =>
    have hl := h.le
    by_cases e : m = o.length
    · obtain ⟨rfl, rfl, rfl⟩ := h.inv0 e (by omega)
      obtain ⟨r, rfl, p⟩ := paired1 P
      exact ⟨r, ps1 r, by rw [fs1]; rfl, by rw [ls1]; rfl, p⟩
    · exfalso
      cases h with
      | nil => exact e rfl
      | snoc h hm2 _ =>
        have := h.le
        omega
theorem Stp.inv2 {o : List Nat} {os A B : List (List Nat)} (h : Stp o 2 os A B) (hn : 8 = o.length) : ∃ r r1 r2, os = [r1.2.2.1, r1.2.2.2, r2.2.2.1, r2.2.2.2] ∧ A = [r.1, r1.1 ++ r2.1] ∧ B = [r.2.1, r1.2.1 ++ r2.2.1] ∧ PairOf 4 o r ∧ PairOf 2 r.2.2.1 r1 ∧ PairOf 2 r.2.2.2 r2 := by
  generalize h2 : 2 = two at h
  cases h with
  | nil => omega
  | @snoc m os0 A0 B0 rows h hm P =>
    have hm : m = 4 ∨ m = 5 := by omega
    have m4 : m = 4 := by
      rcases hm with rfl | rfl
      · rfl
      · generalize h5 : 5 = five at h
        cases h with
        | nil => omega
        | @snoc m2 _ _ _ _ h _ _ =>
          have hl := h.le
          generalize hm2 : m2 = x at h
          cases h with
          | nil => omega
          | snoc h _ _ =>
            have := h.le
            omega
    subst m4
    obtain ⟨r, rfl, rfl, rfl, p⟩ := h.inv1 (by omega) (by decide)
    obtain ⟨r1, r2, rfl, p1, p2⟩ := paired2 P
    exact ⟨r, r1, r2, by simp [ps], by simp [fs], by simp [ls], p, p1, p2⟩
theorem col_of {h : Nat} {c : List Nat} (h1 : c.length = h) (h2 : ∀ x ∈ c, x ≤ 1) : Col h c := ⟨h1, h2⟩
theorem for4 {o : List Nat} {S : List (List Nat)} (O : Ord 4 o) (h : ForSet o S) : Setg 2 S ∧ four S = o := by
  obtain ⟨os, A, B, I, rfl⟩ := h
  obtain ⟨r, rfl, rfl, rfl, p⟩ := I.st.inv1 (by rw [O.len]) (Nat.le_refl _)
  refine ⟨⟨.inl ⟨rfl, rfl⟩, fun c hc => ?_⟩, four_of O p⟩
  have hc : c ∈ [r.1, [at' r.2.2.1 0, at' r.2.2.2 0], r.2.1] := hc
  simp only [List.mem_cons, List.not_mem_nil, or_false] at hc
  rcases hc with rfl | rfl | rfl
  · exact ⟨p.len.1, bit_first p⟩
  · refine ⟨rfl, fun x hx => ?_⟩
    simp only [List.mem_cons, List.not_mem_nil, or_false] at hx
    rcases hx with rfl | rfl
    · exact (bit_ps O p).1
    · exact (bit_ps O p).2
  · exact ⟨p.len.2, p.bit⟩
theorem take_app {α : Type} {a b : List α} {n : Nat} (h : a.length = n) : (a ++ b).take n = a := by rw [← h]; exact List.take_left
theorem drop_app {α : Type} {a b : List α} {n : Nat} (h : a.length = n) : (a ++ b).drop n = b := by rw [← h]; exact List.drop_left
theorem for8 {o : List Nat} {S : List (List Nat)} (O : Ord 8 o) (h : ForSet o S) : Setg 4 S ∧ eight S = o := by
  obtain ⟨os, A, B, I, rfl⟩ := h
  obtain ⟨r, r1, r2, rfl, rfl, rfl, p, p1, p2⟩ := I.st.inv2 O.len.symm
  obtain ⟨s, Ss, h1, h2, h3, h4⟩ := p.ex
  have o0 := BN.part_ord O Ss (side := 0) (by decide)
  have o1 := BN.part_ord O Ss (side := 1) (by decide)
  rw [← h3] at o0
  rw [← h4] at o1
  have hS : [r.1, r1.1 ++ r2.1] ++ (List.map (fun q => at' q 0) [r1.2.2.1, r1.2.2.2, r2.2.2.1, r2.2.2.2]) :: [r.2.1, r1.2.1 ++ r2.2.1].reverse = [r.1, r1.1 ++ r2.1, [at' r1.2.2.1 0, at' r1.2.2.2 0, at' r2.2.2.1 0, at' r2.2.2.2 0], r1.2.1 ++ r2.2.1, r.2.1] := rfl
  rw [hS]
  refine ⟨⟨.inr ⟨rfl, rfl⟩, fun c hc => ?_⟩, ?_⟩
  · simp only [List.mem_cons, List.not_mem_nil, or_false] at hc
    rcases hc with rfl | rfl | rfl | rfl | rfl
    · exact ⟨p.len.1, bit_first p⟩
    · refine ⟨by rw [List.length_append, p1.len.1, p2.len.1], fun x hx => ?_⟩
      rcases List.mem_append.mp hx with hx | hx
      · exact bit_first p1 x hx
      · exact bit_first p2 x hx
    · refine ⟨rfl, fun x hx => ?_⟩
      simp only [List.mem_cons, List.not_mem_nil, or_false] at hx
      rcases hx with rfl | rfl | rfl | rfl
      · exact (bit_ps o0 p1).1
      · exact (bit_ps o0 p1).2
      · exact (bit_ps o1 p2).1
      · exact (bit_ps o1 p2).2
    · refine ⟨by rw [List.length_append, p1.len.2, p2.len.2], fun x hx => ?_⟩
      rcases List.mem_append.mp hx with hx | hx
      · exact p1.bit x hx
      · exact p2.bit x hx
    · exact ⟨p.len.2, p.bit⟩
  · refine eq_range O.len fun i hi => ?_
    show lead 4 r.1 r.2.1 _ i = _
    rw [h1]
    refine BN.lead_eq O Ss h2 (fun side hs => ?_) hi
    have hs : side = 0 ∨ side = 1 := by omega
    rcases hs with rfl | rfl
    · show four [(r1.1 ++ r2.1).take 2, [at' r1.2.2.1 0, at' r1.2.2.2 0, at' r2.2.2.1 0, at' r2.2.2.2 0].take 2, (r1.2.1 ++ r2.2.1).take 2] = _
      rw [take_app p1.len.1, take_app p1.len.2, ← h3]
      exact four_of o0 p1
    · show four [(r1.1 ++ r2.1).drop 2, [at' r1.2.2.1 0, at' r1.2.2.2 0, at' r2.2.2.1 0, at' r2.2.2.2 0].drop 2, (r1.2.1 ++ r2.2.1).drop 2] = _
      rw [drop_app p1.len.1, drop_app p1.len.2, ← h4]
      exact four_of o1 p2
end K77

/-! Pl: plans of two rounds in which all meet; chains of both; exchanging one. Plain Lean. -/
namespace PL
open BN
abbrev Pr := Nat × Nat
def le2 (a b : Pr) : Bool := decide (a.1 < b.1 ∨ a.1 = b.1 ∧ a.2 ≤ b.2)
def srt (l : List Pr) : List Pr := l.mergeSort le2
theorem le2_iff {a b : Pr} : le2 a b = true ↔ a.1 < b.1 ∨ a.1 = b.1 ∧ a.2 ≤ b.2 := by
  unfold le2
  exact decide_eq_true_iff
theorem le2_trans (a b c : Pr) (h1 : le2 a b = true) (h2 : le2 b c = true) : le2 a c = true := by
  rw [le2_iff] at *
  omega
theorem le2_total (a b : Pr) : (le2 a b || le2 b a) = true := by
  rw [Bool.or_eq_true, le2_iff, le2_iff]
  omega
theorem le2_anti {a b : Pr} (h1 : le2 a b = true) (h2 : le2 b a = true) : a = b := by
  rw [le2_iff] at *
  exact Prod.ext (by omega) (by omega)
theorem srt_perm (l : List Pr) : (srt l).Perm l := List.mergeSort_perm l le2
theorem srt_mem {l : List Pr} {x : Pr} : x ∈ srt l ↔ x ∈ l := (srt_perm l).mem_iff
theorem srt_len (l : List Pr) : (srt l).length = l.length := (srt_perm l).length_eq
theorem srt_uniq {l m : List Pr} (hp : l.Perm m) (hm : m.Pairwise fun a b => le2 a b = true) : srt l = m :=
  List.Perm.eq_of_pairwise (fun a b _ _ h1 h2 => le2_anti h1 h2) (List.pairwise_mergeSort le2_trans le2_total l) hm ((srt_perm l).trans hp)
/-! ### rounds by permutations -/
def gr (p : List Nat) : List Pr := (List.range p.length).map fun a => (a, at' p a)
theorem gr_len (p : List Nat) : (gr p).length = p.length := by simp [gr]
theorem gr_mem {p : List Nat} {x : Pr} : x ∈ gr p ↔ x.1 < p.length ∧ x.2 = at' p x.1 := by
  unfold gr
  constructor
  · intro h
    obtain ⟨a, ha, rfl⟩ := List.mem_map.mp h
    exact ⟨List.mem_range.mp ha, rfl⟩
  · rintro ⟨h1, h2⟩
    exact List.mem_map.mpr ⟨x.1, List.mem_range.mpr h1, Prod.ext rfl h2.symm⟩
theorem gr_pw (p : List Nat) : (gr p).Pairwise fun a b => a.1 < b.1 := by
  unfold gr
  exact List.pairwise_map.mpr (List.Pairwise.imp (fun h => h) List.pairwise_lt_range)
theorem gr_sorted (p : List Nat) : (gr p).Pairwise fun a b => le2 a b = true := (gr_pw p).imp fun h => le2_iff.mpr (.inl h)
theorem gr_nodup (p : List Nat) : (gr p).Nodup := (gr_pw p).imp fun h e => by
  rw [e] at h
  exact Nat.lt_irrefl _ h
theorem srt_gr {l : List Pr} {p : List Nat} (h : l.Perm (gr p)) : srt l = gr p := srt_uniq h (gr_sorted p)
/-! ### chains -/
def share (x y : Pr) : Bool := decide (x.1 = y.1) || decide (x.2 = y.2)
theorem share_symm {x y : Pr} (h : share x y = true) : share y x = true := by
  unfold share at *
  simp only [Bool.or_eq_true, decide_eq_true_eq] at *
  omega
def stepF (here : Pr) (s : List Pr × List Pr) (y : Pr) : List Pr × List Pr := if !decide (y ∈ s.1) && share here y then (s.1 ++ [y], s.2 ++ [y]) else s
def stepsF (pairs : List Pr) (here : Pr) (s : List Pr × List Pr) : List Pr × List Pr := pairs.foldl (stepF here) s
def goC (pairs : List Pr) : Nat → List Pr → List Pr → List Pr
  | 0, f, _ => f
  | m + 1, f, w => match w.getLast? with
    | none => f
    | some h => goC pairs m (stepsF pairs h (f, w.dropLast)).1 (stepsF pairs h (f, w.dropLast)).2
def chainF (pairs : List Pr) (start : Pr) : List Pr := srt (goC pairs (2 * pairs.length) [start] [start])
def goS : Nat → List Pr → List (List Pr) → List (List Pr)
  | 0, _, f => f
  | m + 1, left, f => match left with
    | [] => f
    | x :: r => goS m ((x :: r).filter fun y => !decide (y ∈ chainF (x :: r) x)) (f ++ [chainF (x :: r) x])
def loneF (R0 R1 : List Pr) : List Pr := srt ((R0 ++ R1).filter fun x => !decide (x ∈ R0.filter fun x => decide (x ∈ R1)))
def chainsF (R0 R1 : List Pr) : List (List Pr) := goS (loneF R0 R1).length (loneF R0 R1) []
def exchF (each chain : List Pr) : List Pr := srt ((each.filter fun x => !decide (x ∈ chain)) ++ chain.filter fun x => !decide (x ∈ each))
/-! one step -/
structure Stepped (here : Pr) (ys : List Pr) (f w : List Pr) (s : List Pr × List Pr) : Prop where
  ex : ∃ k, s = (f ++ k, w ++ k) ∧ (∀ y ∈ k, y ∈ ys)
  nd : f.Nodup → s.1.Nodup
  cl : ∀ y ∈ ys, share here y = true → y ∈ s.1
theorem stepped (here : Pr) : ∀ (ys f w : List Pr), Stepped here ys f w (stepsF ys here (f, w))
  | [], f, w => ⟨⟨[], by simp [stepsF], fun y h => by cases h⟩, fun h => h, fun y h => by cases h⟩
  | y :: ys, f, w => by
    unfold stepsF
    rw [List.foldl_cons]
    by_cases hy : (!decide (y ∈ f) && share here y) = true
    · have e : stepF here (f, w) y = (f ++ [y], w ++ [y]) := if_pos hy
      rw [e]
      obtain ⟨⟨k, h1, h2⟩, h3, h4⟩ := stepped here ys (f ++ [y]) (w ++ [y])
      unfold stepsF at h1 h3 h4
      rw [Bool.and_eq_true, Bool.not_eq_true', decide_eq_false_iff_not] at hy
      refine ⟨⟨y :: k, by rw [h1]; simp, fun z hz => ?_⟩, fun hn => h3 (List.nodup_append.mpr ⟨hn, by simp, fun a ha b hb e => ?_⟩), fun z hz hs => ?_⟩
      · rcases List.mem_cons.mp hz with rfl | hz
        · exact List.mem_cons_self
        · exact List.mem_cons_of_mem _ (h2 z hz)
      · rw [List.mem_singleton.mp hb] at e
        exact hy.1 (e ▸ ha)
      · rcases List.mem_cons.mp hz with rfl | hz
        · rw [h1]
          simp
        · exact h4 z hz hs
    · have e : stepF here (f, w) y = (f, w) := if_neg hy
      rw [e]
      obtain ⟨⟨k, h1, h2⟩, h3, h4⟩ := stepped here ys f w
      unfold stepsF at h1 h3 h4
      refine ⟨⟨k, h1, fun z hz => List.mem_cons_of_mem _ (h2 z hz)⟩, h3, fun z hz hs => ?_⟩
      rcases List.mem_cons.mp hz with rfl | hz
      · rw [Bool.and_eq_true, Bool.not_eq_true', decide_eq_false_iff_not] at hy
        by_cases hm : z ∈ f
        · rw [h1]
          exact List.mem_append_left _ hm
        · exact absurd ⟨hm, hs⟩ hy
      · exact h4 z hz hs
theorem nodup_sub_len {α : Type} [DecidableEq α] {l m : List α} (hn : l.Nodup) (hs : ∀ x ∈ l, x ∈ m) : l.length ≤ m.length := hn.length_le_of_subset hs
/-- what holds while a chain is made -/
structure Ch (pairs f w : List Pr) : Prop where
  nd : f.Nodup
  sub : ∀ x ∈ f, x ∈ pairs
  wf : ∀ x ∈ w, x ∈ f
  cl : ∀ x ∈ f, x ∉ w → ∀ y ∈ pairs, share x y = true → y ∈ f
def meas (pairs f w : List Pr) : Nat := w.length + 2 * (pairs.length - f.length)
theorem Ch.next {pairs f w : List Pr} {h : Pr} (C : Ch pairs f (w ++ [h])) : Ch pairs (stepsF pairs h (f, w)).1 (stepsF pairs h (f, w)).2 ∧ meas pairs (stepsF pairs h (f, w)).1 (stepsF pairs h (f, w)).2 < meas pairs f (w ++ [h]) ∧ ∀ x ∈ f, x ∈ (stepsF pairs h (f, w)).1 := by
  obtain ⟨⟨k, h1, h2⟩, h3, h4⟩ := stepped h pairs f w
  have nd := h3 C.nd
  rw [h1] at nd h4 ⊢
  have sub : ∀ x ∈ f ++ k, x ∈ pairs := fun x hx => by
    rcases List.mem_append.mp hx with hx | hx
    · exact C.sub x hx
    · exact h2 x hx
  refine ⟨⟨nd, sub, fun x hx => ?_, fun x hx hw y hy hs => ?_⟩, ?_, fun x hx => List.mem_append_left _ hx⟩
  · rcases List.mem_append.mp hx with hx | hx
    · exact List.mem_append_left _ (C.wf x (List.mem_append_left _ hx))
    · exact List.mem_append_right _ hx
  · have hw : x ∉ w ++ k := hw
    rw [List.mem_append] at hw
    rcases List.mem_append.mp hx with hx | hx
    · by_cases e : x = h
      · rw [e] at hs
        exact h4 y hy hs
      · exact List.mem_append_left _ (C.cl x hx (fun z => by
          rcases List.mem_append.mp z with z | z
          · exact hw (.inl z)
          · exact e (List.mem_singleton.mp z)) y hy hs)
    · exact absurd (.inr hx) hw
  · have hl := nodup_sub_len nd sub
    unfold meas
    simp only [List.length_append, List.length_cons, List.length_nil] at hl ⊢
    omega
structure Chn (pairs c : List Pr) : Prop where
  nd : c.Nodup
  sub : ∀ x ∈ c, x ∈ pairs
  cl : ∀ x ∈ c, ∀ y ∈ pairs, share x y = true → y ∈ c
theorem goC_ok {pairs : List Pr} : ∀ (m : Nat) (f w : List Pr), Ch pairs f w → meas pairs f w ≤ m → Chn pairs (goC pairs m f w) ∧ ∀ x ∈ f, x ∈ goC pairs m f w
  | 0, f, w, C, hm => by
    have : w = [] := List.length_eq_zero_iff.mp (by unfold meas at hm; omega)
    subst this
    exact ⟨⟨C.nd, C.sub, fun x hx y hy hs => C.cl x hx (by simp) y hy hs⟩, fun x hx => hx⟩
  | m + 1, f, w, C, hm => by
    rcases List.eq_nil_or_concat w with rfl | ⟨w', h, rfl⟩
    · exact ⟨⟨C.nd, C.sub, fun x hx y hy hs => C.cl x hx (by simp) y hy hs⟩, fun x hx => hx⟩
    · have e : goC pairs (m + 1) f (w' ++ [h]) = goC pairs m (stepsF pairs h (f, w')).1 (stepsF pairs h (f, w')).2 := by
        show (match (w' ++ [h]).getLast? with | none => f | some h' => goC pairs m (stepsF pairs h' (f, (w' ++ [h]).dropLast)).1 (stepsF pairs h' (f, (w' ++ [h]).dropLast)).2) = _
        rw [List.getLast?_concat, List.dropLast_concat]
      rw [List.concat_eq_append] at C hm ⊢
      rw [e]
      obtain ⟨C', hm', hf⟩ := C.next
      obtain ⟨g1, g2⟩ := goC_ok m _ _ C' (by omega)
      exact ⟨g1, fun x hx => g2 x (hf x hx)⟩
theorem ch0 {pairs : List Pr} {x : Pr} (hx : x ∈ pairs) : Ch pairs [x] [x] ∧ meas pairs [x] [x] ≤ 2 * pairs.length := by
  have : 0 < pairs.length := List.length_pos_of_mem hx
  refine ⟨⟨by simp, fun y hy => by rw [List.mem_singleton.mp hy]; exact hx, fun y hy => hy, fun y hy hn => absurd hy hn⟩, ?_⟩
  unfold meas
  simp only [List.length_cons, List.length_nil]
  omega
theorem chainF_ok {pairs : List Pr} {x : Pr} (hx : x ∈ pairs) : Chn pairs (chainF pairs x) ∧ x ∈ chainF pairs x := by
  obtain ⟨h1, h2⟩ := goC_ok (2 * pairs.length) [x] [x] (ch0 hx).1 (ch0 hx).2
  have h2 := h2 x (by simp)
  unfold chainF
  exact ⟨⟨(srt_perm _).nodup_iff.mpr h1.nd, fun y hy => h1.sub y (srt_mem.mp hy), fun y hy z hz hs => srt_mem.mpr (h1.cl y (srt_mem.mp hy) z hz hs)⟩, srt_mem.mpr h2⟩
theorem goS_ok {L : List Pr} : ∀ (m : Nat) (left : List Pr) (f : List (List Pr)), left.Nodup → (∀ x ∈ left, x ∈ L) → (∀ x ∈ left, ∀ y ∈ L, share x y = true → y ∈ left) → (∀ c ∈ f, Chn L c) → ∀ c ∈ goS m left f, Chn L c
  | 0, left, f, _, _, _, h => h
  | m + 1, [], f, _, _, _, h => h
  | m + 1, x :: r, f, h0, h1, h2, h => by
    obtain ⟨C, hx⟩ := chainF_ok (pairs := x :: r) (x := x) List.mem_cons_self
    show ∀ c ∈ goS m ((x :: r).filter fun y => !decide (y ∈ chainF (x :: r) x)) (f ++ [chainF (x :: r) x]), Chn L c
    refine goS_ok m _ _ (h0.filter _) (fun y hy => h1 y (List.mem_filter.mp hy).1) (fun y hy z hz hs => ?_) fun c hc => ?_
    · obtain ⟨y1, y2⟩ := List.mem_filter.mp hy
      rw [Bool.not_eq_true', decide_eq_false_iff_not] at y2
      have hz' := h2 y y1 z hz hs
      refine List.mem_filter.mpr ⟨hz', ?_⟩
      rw [Bool.not_eq_true', decide_eq_false_iff_not]
      exact fun zc => y2 (C.cl z zc y y1 (share_symm hs))
    · rcases List.mem_append.mp hc with hc | hc
      · exact h c hc
      · rw [List.mem_singleton.mp hc]
        exact ⟨C.nd, fun y hy => h1 y (C.sub y hy), fun y hy z hz hs => C.cl y hy z (h2 y (C.sub y hy) z hz hs) hs⟩
end PL

/-! Pl2: exchanging a chain of two rounds; tables of two rounds. Plain Lean. -/
namespace PL
open BN
theorem chainsF_ok {R0 R1 : List Pr} (h0 : R0.Nodup) (h1 : R1.Nodup) : ∀ c ∈ chainsF R0 R1, Chn (loneF R0 R1) c := by
  refine goS_ok _ _ _ ?_ (fun x hx => hx) (fun x hx y hy hs => hy) (fun c hc => by cases hc)
  refine (srt_perm _).nodup_iff.mpr ?_
  rw [List.filter_append]
  refine List.nodup_append.mpr ⟨h0.filter _, h1.filter _, fun a ha b hb e => ?_⟩
  subst e
  obtain ⟨a1, a2⟩ := List.mem_filter.mp ha
  obtain ⟨b1, b2⟩ := List.mem_filter.mp hb
  rw [Bool.not_eq_true', decide_eq_false_iff_not] at a2
  exact a2 (List.mem_filter.mpr ⟨a1, decide_eq_true b1⟩)
theorem lone_mem {R0 R1 : List Pr} {x : Pr} : x ∈ loneF R0 R1 ↔ (x ∈ R0 ∨ x ∈ R1) ∧ ¬ (x ∈ R0 ∧ x ∈ R1) := by
  unfold loneF
  rw [srt_mem, List.mem_filter, List.mem_append, Bool.not_eq_true', decide_eq_false_iff_not, List.mem_filter, decide_eq_true_iff]
/-- a chain of two such rounds: those of both whose firsts are in it -/
def swp (p p' : List Nat) (c : List Pr) : List Nat := (List.range p.length).map fun a => if (a, at' p a) ∈ c then at' p' a else at' p a
theorem swp_len (p p' : List Nat) (c : List Pr) : (swp p p' c).length = p.length := by simp [swp]
theorem swp_at {p p' : List Nat} {c : List Pr} {a : Nat} (ha : a < p.length) : at' (swp p p' c) a = if (a, at' p a) ∈ c then at' p' a else at' p a := NT.at_range (f := fun a => if (a, at' p a) ∈ c then at' p' a else at' p a) ha
theorem share_fst {a b b' : Nat} : share (a, b) (a, b') = true := by simp [share]
theorem share_snd {a a' b : Nat} : share (a, b) (a', b) = true := by simp [share]
section
variable {h : Nat} {p0 p1 : List Nat} {c : List Pr} (O0 : Ord h p0) (O1 : Ord h p1) (C : Chn (loneF (gr p0) (gr p1)) c)
theorem in_lone {a : Nat} (ha : a < h) (l0 : p0.length = h) (l1 : p1.length = h) (hn : at' p0 a ≠ at' p1 a) : (a, at' p0 a) ∈ loneF (gr p0) (gr p1) ∧ (a, at' p1 a) ∈ loneF (gr p0) (gr p1) := by
  refine ⟨lone_mem.mpr ⟨.inl (gr_mem.mpr ⟨by rw [l0]; exact ha, rfl⟩), fun ⟨_, z⟩ => hn (gr_mem.mp z).2⟩, lone_mem.mpr ⟨.inr (gr_mem.mpr ⟨by rw [l1]; exact ha, rfl⟩), fun ⟨z, _⟩ => hn (gr_mem.mp z).2.symm⟩⟩
include O0 O1 C
theorem c_mem {x : Pr} (hx : x ∈ c) : x.1 < h ∧ at' p0 x.1 ≠ at' p1 x.1 ∧ (x = (x.1, at' p0 x.1) ∨ x = (x.1, at' p1 x.1)) := by
  obtain ⟨h1, h2⟩ := lone_mem.mp (C.sub x hx)
  rw [gr_mem, gr_mem, O0.len, O1.len] at h1 h2
  have hl : x.1 < h := by
    rcases h1 with h1 | h1 <;> exact h1.1
  refine ⟨hl, fun e => ?_, ?_⟩
  · rcases h1 with h1 | h1
    · exact h2 ⟨h1, hl, by rw [← e]; exact h1.2⟩
    · exact h2 ⟨⟨hl, by rw [e]; exact h1.2⟩, h1⟩
  · rcases h1 with h1 | h1
    · exact .inl (Prod.ext rfl h1.2)
    · exact .inr (Prod.ext rfl h1.2)
theorem c_iff {a : Nat} (ha : a < h) : ((a, at' p0 a) ∈ c ↔ (a, at' p1 a) ∈ c) ∧ ((a, at' p0 a) ∈ c → at' p0 a ≠ at' p1 a) := by
  have l0 := O0.len
  have l1 := O1.len
  refine ⟨⟨fun z => ?_, fun z => ?_⟩, fun z => (c_mem O0 O1 C z).2.1⟩
  · exact C.cl _ z _ (in_lone ha l0 l1 (c_mem O0 O1 C z).2.1).2 share_fst
  · exact C.cl _ z _ (in_lone ha l0 l1 (c_mem O0 O1 C z).2.1).1 share_fst
/-- seconds of firsts in the chain are those of firsts in it -/
theorem c_snd {a b : Nat} (ha : a < h) (hb : b < h) (e : at' p0 a = at' p1 b) : (a, at' p0 a) ∈ c ↔ (b, at' p1 b) ∈ c := by
  have l0 := O0.len
  have l1 := O1.len
  constructor
  · intro z
    have hn := (c_mem O0 O1 C z).2.1
    have hb' : at' p0 b ≠ at' p1 b := fun w => by
      have : a = b := O0.inj ha hb (by rw [e, w])
      subst this
      exact hn e
    refine C.cl _ z _ (in_lone hb l0 l1 hb').2 ?_
    rw [← e]
    exact share_snd
  · intro z
    have hn := (c_mem O0 O1 C z).2.1
    have ha' : at' p0 a ≠ at' p1 a := fun w => by
      have : a = b := O1.inj ha hb (by rw [← w, e])
      subst this
      exact hn e
    refine C.cl _ z _ (in_lone ha l0 l1 ha').1 ?_
    rw [← e]
    exact share_snd
theorem swp_ord0 : Ord h (swp p0 p1 c) := by
  have l0 := O0.len
  refine ⟨by rw [swp_len, l0], ?_, fun x hx => ?_⟩
  · unfold swp
    refine List.pairwise_map.mpr (List.Pairwise.imp_of_mem (fun {a b} ha hb hab e => ?_) List.nodup_range)
    have ha : a < h := by rw [← l0]; exact List.mem_range.mp ha
    have hb : b < h := by rw [← l0]; exact List.mem_range.mp hb
    split at e <;> rename_i ca <;> split at e <;> rename_i cb
    · exact hab (O1.inj ha hb e)
    · exact cb ((c_snd O0 O1 C hb ha e.symm).mpr ((c_iff O0 O1 C ha).1.mp ca))
    · exact ca ((c_snd O0 O1 C ha hb e).mpr ((c_iff O0 O1 C hb).1.mp cb))
    · exact hab (O0.inj ha hb e)
  · obtain ⟨a, ha, rfl⟩ := List.mem_map.mp hx
    have ha : a < h := by rw [← l0]; exact List.mem_range.mp ha
    show (if (a, at' p0 a) ∈ c then at' p1 a else at' p0 a) < h
    split
    · exact O1.lt' ha
    · exact O0.lt' ha
theorem swp_ord1 : Ord h (swp p1 p0 c) := by
  have l1 := O1.len
  refine ⟨by rw [swp_len, l1], ?_, fun x hx => ?_⟩
  · unfold swp
    refine List.pairwise_map.mpr (List.Pairwise.imp_of_mem (fun {a b} ha hb hab e => ?_) List.nodup_range)
    have ha : a < h := by rw [← l1]; exact List.mem_range.mp ha
    have hb : b < h := by rw [← l1]; exact List.mem_range.mp hb
    split at e <;> rename_i ca <;> split at e <;> rename_i cb
    · exact hab (O0.inj ha hb e)
    · exact cb ((c_snd O0 O1 C ha hb e).mp ((c_iff O0 O1 C ha).1.mpr ca))
    · exact ca ((c_snd O0 O1 C hb ha e.symm).mp ((c_iff O0 O1 C hb).1.mpr cb))
    · exact hab (O1.inj ha hb e)
  · obtain ⟨a, ha, rfl⟩ := List.mem_map.mp hx
    have ha : a < h := by rw [← l1]; exact List.mem_range.mp ha
    show (if (a, at' p1 a) ∈ c then at' p0 a else at' p1 a) < h
    split
    · exact O0.lt' ha
    · exact O1.lt' ha
end
theorem exch_gen {h : Nat} {p p' : List Nat} {c : List Pr} (lp : p.length = h) (lp' : p'.length = h) (hnd : c.Nodup) (hm : ∀ x ∈ c, x.1 < h ∧ at' p x.1 ≠ at' p' x.1 ∧ (x = (x.1, at' p x.1) ∨ x = (x.1, at' p' x.1))) (hi : ∀ a < h, (a, at' p a) ∈ c ↔ (a, at' p' a) ∈ c) : exchF (gr p) c = gr (swp p p' c) := by
  unfold exchF
  refine srt_gr ((List.perm_ext_iff_of_nodup ?_ (gr_nodup _)).mpr fun x => ?_)
  · refine List.nodup_append.mpr ⟨(gr_nodup p).filter _, hnd.filter _, fun a ha b hb e => ?_⟩
    subst e
    have h1 := (List.mem_filter.mp ha).1
    have h2 := (List.mem_filter.mp hb).2
    rw [Bool.not_eq_true', decide_eq_false_iff_not] at h2
    exact h2 h1
  · rw [List.mem_append, List.mem_filter, List.mem_filter, Bool.not_eq_true', Bool.not_eq_true', decide_eq_false_iff_not, decide_eq_false_iff_not, gr_mem, gr_mem, swp_len]
    constructor
    · rintro (⟨⟨h1, h2⟩, h3⟩ | ⟨h1, h2⟩)
      · refine ⟨h1, ?_⟩
        rw [swp_at h1, if_neg]
        · exact h2
        · rw [← h2]
          exact h3
      · obtain ⟨m1, m2, m3⟩ := hm x h1
        refine ⟨by rw [lp]; exact m1, ?_⟩
        rw [swp_at (by rw [lp]; exact m1)]
        rcases m3 with e | e
        · exact absurd ⟨by rw [lp]; exact m1, by rw [e]⟩ h2
        · rw [if_pos]
          · exact congrArg Prod.snd e
          · refine (hi x.1 m1).mpr ?_
            rw [← e]
            exact h1
    · rintro ⟨h1, h2⟩
      have m1 : x.1 < h := by rw [← lp]; exact h1
      rw [swp_at h1] at h2
      by_cases hc : (x.1, at' p x.1) ∈ c
      · rw [if_pos hc] at h2
        refine .inr ⟨?_, fun ⟨_, z⟩ => ?_⟩
        · have : x = (x.1, at' p' x.1) := Prod.ext rfl h2
          rw [this]
          exact (hi x.1 m1).mp hc
        · exact (hm _ hc).2.1 (by rw [← h2, ← z])
      · rw [if_neg hc] at h2
        refine .inl ⟨⟨h1, h2⟩, fun z => hc ?_⟩
        have : x = (x.1, at' p x.1) := Prod.ext rfl h2
        rw [← this]
        exact z
/-! ### tables of two rounds -/
def tl (p0 p1 : List Nat) (a b : Nat) : Nat := (if at' p0 a = b then 1 else 0) + (if at' p1 a = b then 1 else 0)
def tab (h : Nat) (p0 p1 : List Nat) : List (List Nat) := (List.range h).map fun a => (List.range h).map fun b => tl p0 p1 a b
structure Two (h : Nat) (p0 p1 : List Nat) : Prop where
  h24 : h = 2 ∨ h = 4
  O0 : Ord h p0
  O1 : Ord h p1
theorem exch_two {h : Nat} {p0 p1 : List Nat} {c : List Pr} (P : Two h p0 p1) (hc : c ∈ chainsF (gr p0) (gr p1)) : ∃ q0 q1, Two h q0 q1 ∧ tab h q0 q1 = tab h p0 p1 ∧ exchF (gr p0) c = gr q0 ∧ exchF (gr p1) c = gr q1 := by
  have C := chainsF_ok (gr_nodup p0) (gr_nodup p1) c hc
  have O0 := P.O0
  have O1 := P.O1
  refine ⟨swp p0 p1 c, swp p1 p0 c, ⟨P.h24, swp_ord0 O0 O1 C, swp_ord1 O0 O1 C⟩, ?_, ?_, ?_⟩
  · unfold tab
    refine List.map_congr_left fun a ha => ?_
    have ha := List.mem_range.mp ha
    refine List.map_congr_left fun b _ => ?_
    unfold tl
    rw [swp_at (by rw [O0.len]; exact ha), swp_at (by rw [O1.len]; exact ha)]
    have hi := (c_iff O0 O1 C ha).1
    by_cases z : (a, at' p0 a) ∈ c
    · rw [if_pos z, if_pos (hi.mp z)]
      exact Nat.add_comm _ _
    · rw [if_neg z, if_neg (fun w => z (hi.mpr w))]
  · exact exch_gen O0.len O1.len C.nd (fun x hx => c_mem O0 O1 C hx) fun a ha => (c_iff O0 O1 C ha).1
  · refine exch_gen O1.len O0.len C.nd (fun x hx => ?_) fun a ha => (c_iff O0 O1 C ha).1.symm
    obtain ⟨h1, h2, h3⟩ := c_mem O0 O1 C hx
    exact ⟨h1, h2.symm, h3.symm⟩
end PL

/-! Pl3: sums of tables of two rounds; their meetings in order. Plain Lean. -/
namespace PL
open BN
theorem sumr {n c v : Nat} : ((List.range n).map fun k => if k = c then v else 0).sum = if c < n then v else 0 := by
  induction n with
  | zero => simp
  | succ n ih =>
    rw [List.range_succ, List.map_append, List.sum_append, ih]
    simp only [List.map_cons, List.map_nil, List.sum_cons, List.sum_nil, Nat.add_zero]
    by_cases h1 : c < n
    · rw [if_pos h1, if_neg (by omega), if_pos (by omega)]
      exact Nat.add_zero v
    · rw [if_neg h1]
      by_cases h2 : n = c
      · rw [if_pos h2, if_pos (by omega)]; omega
      · rw [if_neg h2, if_neg (by omega)]
theorem sum_add {α : Type} (f g : α → Nat) : ∀ l : List α, (l.map fun x => f x + g x).sum = (l.map f).sum + (l.map g).sum
  | [] => rfl
  | x :: l => by
    simp only [List.map_cons, List.sum_cons]
    rw [sum_add f g l]
    omega
theorem sum_congr {α : Type} {f g : α → Nat} {l : List α} (h : ∀ x ∈ l, f x = g x) : (l.map f).sum = (l.map g).sum := by rw [List.map_congr_left h]
theorem row_one {h : Nat} {p : List Nat} (O : Ord h p) {a : Nat} (ha : a < h) : ((List.range h).map fun b => if at' p a = b then 1 else 0).sum = 1 := by
  rw [sum_congr (g := fun b => if b = at' p a then 1 else 0) (fun b _ => by
    by_cases e : at' p a = b
    · rw [if_pos e, if_pos e.symm]
    · rw [if_neg e, if_neg fun z => e z.symm]), sumr, if_pos (O.lt' ha)]
theorem col_one {h : Nat} {p : List Nat} (O : Ord h p) {b : Nat} (hb : b < h) : ((List.range h).map fun a => if at' p a = b then 1 else 0).sum = 1 := by
  obtain ⟨c, hc, e⟩ := O.sur hb
  rw [sum_congr (g := fun a => if a = c then 1 else 0) (fun a ha => by
    have ha := List.mem_range.mp ha
    by_cases e2 : a = c
    · rw [if_pos e2, e2, if_pos e]
    · rw [if_neg e2, if_neg fun z => e2 (O.inj ha hc (by rw [z, e]))]), sumr, if_pos hc]
section
variable {h : Nat} {p0 p1 : List Nat} (P : Two h p0 p1)
include P
theorem row_two {a : Nat} (ha : a < h) : ((List.range h).map fun b => tl p0 p1 a b).sum = 2 := by
  unfold tl
  rw [sum_add, row_one P.O0 ha, row_one P.O1 ha]
theorem col_two {b : Nat} (hb : b < h) : ((List.range h).map fun a => tl p0 p1 a b).sum = 2 := by
  unfold tl
  rw [sum_add, col_one P.O0 hb, col_one P.O1 hb]
end
theorem tl_le (p0 p1 : List Nat) (a b : Nat) : tl p0 p1 a b ≤ 2 := by
  unfold tl
  split <;> split <;> decide
/-! ### the meetings, ascending -/
def lpF (h : Nat) (f : Nat → Nat → Nat) : List Pr := (List.range h).flatMap fun a => (List.range h).flatMap fun b => List.replicate (f a b) (a, b)
theorem lpF_sorted (h : Nat) (f : Nat → Nat → Nat) : (lpF h f).Pairwise fun a b => le2 a b = true := by
  unfold lpF
  refine List.pairwise_flatMap.mpr ⟨fun a ha => List.pairwise_flatMap.mpr ⟨fun b hb => ?_, ?_⟩, ?_⟩
  · exact List.pairwise_replicate.mpr (.inr (le2_iff.mpr (.inr ⟨rfl, Nat.le_refl _⟩)))
  · refine List.Pairwise.imp (fun {b b'} hb x hx y hy => ?_) List.pairwise_lt_range
    rw [List.eq_of_mem_replicate hx, List.eq_of_mem_replicate hy]
    exact le2_iff.mpr (.inr ⟨rfl, by show b ≤ b'; omega⟩)
  · refine List.Pairwise.imp (fun {b b'} hb x hx y hy => ?_) List.pairwise_lt_range
    obtain ⟨_, _, hx⟩ := List.mem_flatMap.mp hx
    obtain ⟨_, _, hy⟩ := List.mem_flatMap.mp hy
    rw [List.eq_of_mem_replicate hx, List.eq_of_mem_replicate hy]
    exact le2_iff.mpr (.inl hb)
theorem count_row {h a : Nat} {g : Nat → Nat} {x : Pr} : List.count x ((List.range h).flatMap fun b => List.replicate (g b) (a, b)) = if x.2 < h ∧ a = x.1 then g x.2 else 0 := by
  rw [List.count_flatMap, sum_congr (g := fun b => if b = x.2 then (if a = x.1 then g x.2 else 0) else 0) (fun b _ => ?_), sumr]
  · by_cases h1 : x.2 < h <;> by_cases h2 : a = x.1 <;> simp [h1, h2]
  · show List.count x (List.replicate (g b) (a, b)) = _
    rw [List.count_replicate]
    obtain ⟨x1, x2⟩ := x
    by_cases h1 : b = x2 <;> by_cases h2 : a = x1 <;> simp [h1, h2]
theorem count_lpF {h : Nat} {f : Nat → Nat → Nat} {x : Pr} : List.count x (lpF h f) = if x.1 < h ∧ x.2 < h then f x.1 x.2 else 0 := by
  unfold lpF
  rw [List.count_flatMap, sum_congr (g := fun a => if a = x.1 then (if x.2 < h then f x.1 x.2 else 0) else 0) (fun a _ => ?_), sumr]
  · by_cases h1 : x.1 < h <;> by_cases h2 : x.2 < h <;> simp [h1, h2]
  · show List.count x ((List.range h).flatMap fun b => List.replicate (f a b) (a, b)) = _
    rw [count_row (g := f a)]
    by_cases h1 : a = x.1
    · subst h1
      by_cases h2 : x.2 < h <;> simp [h2]
    · simp [h1]
theorem count_gr {h : Nat} {p : List Nat} (O : Ord h p) (x : Pr) : List.count x (gr p) = if x.1 < h ∧ x.2 < h then (if at' p x.1 = x.2 then 1 else 0) else 0 := by
  rw [(gr_nodup p).count]
  have l := O.len
  by_cases hm : x ∈ gr p
  · rw [if_pos hm]
    obtain ⟨h1, h2⟩ := gr_mem.mp hm
    have := O.lt' (i := x.1) (by omega)
    rw [if_pos ⟨by omega, by omega⟩, if_pos h2.symm]
  · rw [if_neg hm]
    by_cases h1 : x.1 < h ∧ x.2 < h
    · rw [if_pos h1, if_neg fun z => hm (gr_mem.mpr ⟨by omega, z.symm⟩)]
    · rw [if_neg h1]
theorem lp_two {h : Nat} {p0 p1 : List Nat} (P : Two h p0 p1) : srt (gr p0 ++ gr p1) = lpF h (tl p0 p1) := by
  refine srt_uniq (List.perm_iff_count.mpr fun x => ?_) (lpF_sorted _ _)
  rw [List.count_append, count_gr P.O0, count_gr P.O1, count_lpF]
  unfold tl
  by_cases h1 : x.1 < h ∧ x.2 < h
  · rw [if_pos h1, if_pos h1, if_pos h1]
  · rw [if_neg h1, if_neg h1, if_neg h1]
theorem tab_eq {h : Nat} {p0 p1 q0 q1 : List Nat} (e : tab h q0 q1 = tab h p0 p1) {a b : Nat} (ha : a < h) (hb : b < h) : tl q0 q1 a b = tl p0 p1 a b := by
  have h1 : ∀ r0 r1, ((tab h r0 r1)[a]?.getD [])[b]? = some (tl r0 r1 a b) := fun r0 r1 => by
    unfold tab
    rw [List.getElem?_map, List.getElem?_range ha]
    show ((List.range h).map fun b => tl r0 r1 a b)[b]? = _
    rw [List.getElem?_map, List.getElem?_range hb]
    rfl
  have h2 := h1 q0 q1
  rw [e, h1 p0 p1] at h2
  exact (Option.some.inj h2).symm
/-! ### rounds of settings -/
structure Led (h : Nat) (S : List (List Nat)) (o p0 p1 : List Nat) : Prop where
  P : Two h p0 p1
  olen : o.length = 2 * h
  olt : ∀ x ∈ o, x < 2 * h
  hd : ∃ c r, S = c :: r ∧ NT.Col h c
  led : ∀ a < h, ∀ s ≤ 1, at' o (2 * a + (s + at' (S.getD 0 []) a) % 2) / 2 = at' (if s = 0 then p0 else p1) a
theorem led_of {h : Nat} {S : List (List Nat)} {l : List Nat} {inn : Nat → List Nat} (h24 : h = 2 ∨ h = 4) (hS : ∃ c r, S = c :: r ∧ NT.Col h c) (hi : ∀ side ≤ 1, Ord h (inn side)) : Led h S ((List.range (2 * h)).map (lead h (S.getD 0 []) l inn)) (inn 0) (inn 1) := by
  have lp : ∀ side ≤ 1, ∀ k < h, at' (inn side) k < h := fun side hs k hk => (hi side hs).lt' hk
  refine ⟨⟨h24, hi 0 (by decide), hi 1 (by decide)⟩, by simp, fun x hx => ?_, hS, fun a ha s hs => ?_⟩
  · obtain ⟨k, hk, rfl⟩ := List.mem_map.mp hx
    have hk := List.mem_range.mp hk
    unfold lead
    have := lp ((k + at' (S.getD 0 []) (k / 2)) % 2) (by omega) (k / 2) (by omega)
    show 2 * at' (inn ((k + at' (S.getD 0 []) (k / 2)) % 2)) (k / 2) + _ % 2 < _
    omega
  · obtain ⟨c, r, rfl, hc⟩ := hS
    show at' _ (2 * a + (s + at' c a) % 2) / 2 = _
    have hlt : 2 * a + (s + at' c a) % 2 < 2 * h := by omega
    rw [NT.at_range hlt]
    have ca := hc.at (k := a)
    have e1 : (2 * a + (s + at' c a) % 2) / 2 = a := by omega
    unfold lead
    show (2 * at' (inn ((2 * a + (s + at' c a) % 2 + at' c ((2 * a + (s + at' c a) % 2) / 2)) % 2)) ((2 * a + (s + at' c a) % 2) / 2) + _ % 2) / 2 = _
    rw [e1]
    have e2 : (2 * a + (s + at' c a) % 2 + at' c a) % 2 = s := by omega
    rw [e2]
    have hs : s = 0 ∨ s = 1 := by omega
    rcases hs with rfl | rfl
    · rw [if_pos rfl]; omega
    · rw [if_neg (by decide)]; omega
theorem led4 {S : List (List Nat)} (h : NT.Setg 2 S) : ∃ p0 p1, Led 2 S (NT.four S) p0 p1 := by
  obtain ⟨a, b, c, rfl, ha, hb, hc⟩ := NT.three h
  exact ⟨_, _, led_of (.inl rfl) ⟨a, _, rfl, ha⟩ fun side _ => NT.inn2_ord _ _⟩
theorem led8 {S : List (List Nat)} (h : NT.Setg 4 S) : ∃ p0 p1, Led 4 S (NT.eight S) p0 p1 := by
  obtain ⟨a, b, c, d, e, rfl, ha, hb, hc, hd, he⟩ := NT.five h
  refine ⟨_, _, led_of (.inr rfl) ⟨a, _, rfl, ha⟩ fun side _ => ?_⟩
  unfold NT.inn4
  split
  · exact NT.four_ord fun k => (NT.col_take (h := 2) hb).1.at
  · exact NT.four_ord fun k => (NT.col_take (h := 2) hb).2.at
end PL

namespace K77
open PySem L2 DL Evl StX
open Arg (rp mn)
open Rep (mt)
open PL (Pr srt loneF chainF chainsF exchF goC goS stepF stepsF share gr)
variable {K : PySem.W.Frag}

/-! ### sorting pairs -/
theorem leD_pr : (leD : Pr → Pr → Bool) = PL.le2 := by
  have := PySem.W.dataLe_ii (β := Pr) (fun p => (p.1 : Int)) (fun p => (p.2 : Int))
  refine this.trans ?_
  funext a b
  unfold PL.le2
  refine decide_eq_decide.mpr ?_
  omega
theorem alike_pr (a b : Pr) : PySem.W.alike (Pd.pd a) (Pd.pd b) = true := by
  show PySem.W.alike (.tuple [.int _, .int _]) (.tuple [.int _, .int _]) = true
  simp [PySem.W.alike, PySem.W.alikeAll]
theorem f_srt {σ : L2.St} {H : Hp} {ta : TE} {as : List Pr} (h : EL (α := Pr) ta σ H as) : EF (α := Pr) (tCB (rSortD K) (tCons ta tNil)) σ H (srt as) := by
  have := f_sortD (K := K) h (fun a _ b _ => alike_pr a b) (fun a _ => ⟨_, _, rfl⟩) (by decide)
  rw [leD_pr] at this
  exact this
section
variable {σ : L2.St} {H : Hp} {ta tb : TE}
theorem p_inT {a : Pr} {bs : List Pr} (ha : EX ta σ H a) (hb : ET (α := Pr) tb σ H bs) : EX (tOp (rInT K false) ta tb) σ H (decide (a ∈ bs)) := ex_is (x_inT (α := Pr) ha hb (by decide)) (decide_eq_decide.mpr Iff.rfl)
theorem p_ninT {a : Pr} {bs : List Pr} (ha : EX ta σ H a) (hb : ET (α := Pr) tb σ H bs) : EX (tOp (rInT K true) ta tb) σ H (!decide (a ∈ bs)) := ex_is (x_ninT (α := Pr) ha hb (by decide)) (congrArg (!·) (decide_eq_decide.mpr Iff.rfl))
theorem p_ninL {a : Pr} {bs : List Pr} (ha : EX ta σ H a) (hb : EL (α := Pr) tb σ H bs) : EX (tOp (rNotInD K) ta tb) σ H (!decide (a ∈ bs)) := ex_is (x_ninL (α := Pr) ha hb (by decide)) (congrArg (!·) (decide_eq_decide.mpr Iff.rfl))
end
/-! ### chains -/
def PlanOk (V : List (List Pr)) (i j : Nat) : Prop := ∃ R0 R1, V = [R0, R1] ∧ i = 0 ∧ j = 1 ∧ R0.length ≤ 6 ∧ R1.length ≤ 6
def sp_lone_pairs : Sp := sp3 (α := Tup (Tup Pr)) (β := Nat) (γ := Nat) PlanOk fun (V : List (List Pr)) _ _ => RF (loneF (V.getD 0 []) (V.getD 1 []))
theorem len_lone_pairs : ∀ vs H Q E, sp_lone_pairs vs H Q E → vs.length = 3 := sp3_len
theorem x_r0 {σ : L2.St} {H : Hp} {ta tb : TE} {R0 R1 : List Pr} (h : EX (α := Tup (Tup Pr)) ta σ H ([R0, R1] : List (List Pr))) (h0 : EX tb σ H (0 : Nat)) : ET (α := Pr) (tOp (rIxT K) ta tb) σ H R0 := x_ixT (α := Tup Pr) (t := [R0, R1]) h h0 rfl
theorem x_r1 {σ : L2.St} {H : Hp} {ta tb : TE} {R0 R1 : List Pr} (h : EX (α := Tup (Tup Pr)) ta σ H ([R0, R1] : List (List Pr))) (h0 : EX tb σ H (1 : Nat)) : ET (α := Pr) (tOp (rIxT K) ta tb) σ H R1 := x_ixT (α := Tup Pr) (t := [R0, R1]) h h0 rfl
theorem sem_lone_pairs : ∀ vs H Q E, sp_lone_pairs vs H Q E → t_lone_pairs K (eN Q) (start ["plan", "one", "two", "both", "pair"] vs) H := fun vs H Q E h => by
  obtain ⟨V, i, j, vV, vi, vj, rfl, rV, ri, rj, ⟨R0, R1, rfl, rfl, rfl, l0, l1⟩, q⟩ := h
  have q : ∀ v H', RF (loneF R0 R1) H v H' → Q v H' := q
  have xV : ∀ {σ : L2.St} {H' : Hp}, σ[0]? = some (some vV) → Ex H H' → EX (α := Tup (Tup Pr)) (tVar 0) σ H' ([R0, R1] : List (List Pr)) := fun hs e => x_var hs (mn e rV)
  have xi : ∀ {σ : L2.St} {H' : Hp}, σ[1]? = some (some vi) → Ex H H' → EX (tVar 1) σ H' (0 : Nat) := fun hs e => x_var hs (mn e ri)
  have xj : ∀ {σ : L2.St} {H' : Hp}, σ[2]? = some (some vj) → Ex H H' → EX (tVar 2) σ H' (1 : Nat) := fun hs e => x_var hs (mn e rj)
  refine q_set (f_lcN (α := Pr) (β := Pr) (fun x => decide (x ∈ R1)) (fun x => x) (i_tup (α := Pr) (x_r0 (xV rfl (Ex.refl _)) (xi rfl (Ex.refl _)))) (by omega) (fun _ => rfl) (fun a x H1 hm e r => t_test (p_inT (x_var rfl r) (x_r1 (xV rfl e) (xj rfl e)))) fun a x H1 hm e r _ => x_var rfl r) fun v H1 r1 => ?_
  rw [List.map_id'] at r1
  obtain ⟨p, rfl, hp, e1, ho⟩ := Own.of r1
  refine q_ret (f_srt (ef_is (f_lcN (α := Pr) (β := Pr) (xs := R0 ++ R1) (fun x => !decide (x ∈ R0.filter fun x => decide (x ∈ R1))) (fun x => x) (i_tup (α := Pr) (x_catT (α := Pr) (x_r0 (xV rfl e1) (xi rfl e1)) (x_r1 (xV rfl e1) (xj rfl e1)) (by omega))) (by rw [List.length_append]; omega) (fun _ => rfl) (fun a x H2 hm e r => t_test (p_ninL (x_var rfl r) (x_var (α := Lst Pr) (i := 3) rfl (ho.ex e).rp))) fun a x H1 hm e r _ => x_var rfl r) (List.map_id' _)).x) fun v H' r => q v H' (RF.bk.bk e1 r)
def sp_share_person : Sp := sp2 (α := Pr) (β := Pr) (fun _ _ => True) fun a b => RX (share a b)
theorem len_share_person : ∀ vs H Q E, sp_share_person vs H Q E → vs.length = 2 := sp2_len
theorem sem_share_person : ∀ vs H Q E, sp_share_person vs H Q E → t_share_person K (eN Q) (start ["pair", "other"] vs) H := fun vs H Q E h => by
  obtain ⟨a, b, va, vb, rfl, ra, rb, _, q⟩ := h
  exact q_ret (x_or (x_eqN (x_fst (β := Nat) (t := a) (x_var rfl ra)) (x_fst (β := Nat) (t := b) (x_var rfl rb))) fun _ => x_eqN (x_snd (α := Nat) (t := a) (x_var rfl ra)) (x_snd (α := Nat) (t := b) (x_var rfl rb))) q
theorem stepsF_len (here : Pr) : ∀ (ys : List Pr) (s : List Pr × List Pr), (stepsF ys here s).1.length ≤ s.1.length + ys.length ∧ (stepsF ys here s).2.length ≤ s.2.length + ys.length
  | [], s => ⟨Nat.le_refl _, Nat.le_refl _⟩
  | y :: ys, s => by
    unfold stepsF
    rw [List.foldl_cons]
    have h := stepsF_len here ys (stepF here s y)
    unfold stepsF at h
    have h2 : (stepF here s y).1.length ≤ s.1.length + 1 ∧ (stepF here s y).2.length ≤ s.2.length + 1 := by
      unfold stepF
      split
      · simp
      · omega
    rw [List.length_cons]
    omega
theorem stepsF_snoc (here : Pr) (ys : List Pr) (y : Pr) (s : List Pr × List Pr) : stepsF (ys ++ [y]) here s = stepF here (stepsF ys here s) y := by
  unfold stepsF
  rw [List.foldl_append]
  rfl
def sp_chain_from : Sp := sp2 (α := Lst Pr) (β := Pr) (fun (L : List Pr) x => x ∈ L ∧ L.length ≤ 12) fun L x => RX (α := Tup Pr) (chainF L x)
theorem len_chain_from : ∀ vs H Q E, sp_chain_from vs H Q E → vs.length = 2 := sp2_len
theorem sem_chain_from : ∀ vs H Q E, sp_chain_from vs H Q E → t_chain_from K sp_share_person (eN Q) (start ["pairs", "start", "found", "waiting", "here", "pair"] vs) H := fun vs H Q E h => by
  obtain ⟨(L : List Pr), x, vL, vx, rfl, rL, rx, ⟨hx, hl⟩, q⟩ := h
  have hl : L.length ≤ 12 := hl
  have q : ∀ v H', RX (α := Tup Pr) (chainF L x) H v H' → Q v H' := q
  obtain ⟨a, us, rfl, ha, its⟩ := rL
  refine z_par2 (f_lst (α := Pr) (xs_cons (x_var rfl rx) xs_nil) (show 1 ≤ 100000 by decide)) (f_lst (α := Pr) (xs_cons (x_var rfl rx) xs_nil) (show 1 ≤ 100000 by decide)) (fun v1 v2 H1 H2 r1 r2 => ?_) (fun r => r.1)
  obtain ⟨pf, rfl, hpf, e1, of⟩ := Own.of r1
  obtain ⟨pw, rfl, hpw, e2, ow⟩ := Own.of r2
  have nfw : pf ≠ pw := fun z => by
    obtain ⟨_, g, _⟩ := of
    rw [z, hpw] at g
    cases g
  have hf0 : H pf = none := hpf
  have hw0 : H pw = none := fresh_back e1 hpw
  have haf : a ≠ pf := fun z => by rw [z, hf0] at ha; cases ha
  have haw : a ≠ pw := fun z => by rw [z, hw0] at ha; cases ha
  obtain ⟨c0, m0⟩ := PL.ch0 hx
  refine z_while (fun m σ' H' => ∃ f w y4 y5, σ' = [some (.ref a), some vx, some (.ref pf), some (.ref pw), y4, y5] ∧ Own (α := Pr) pf f H' ∧ Own (α := Pr) pw w H' ∧ Ex H H' ∧ goC L m f w = goC L (2 * L.length) [x] [x] ∧ PL.Ch L f w ∧ PL.meas L f w ≤ m ∧ m ≤ 2 * L.length) (2 * L.length) ⟨[x], [x], none, none, rfl, of.ex e2, ow, e1.trans e2, rfl, c0, m0, Nat.le_refl _⟩ ?_
  rintro m σ' H' ⟨f, w, y4, y5, rfl, of, ow, E, G, C, hm, hm2⟩
  refine ⟨!w.isEmpty, t_test (x_neNil (α := Pr) (x_var (α := Lst Pr) (i := 3) rfl ow.rp) (by decide)), fun hb H1 e1 N hN => ?_, fun hb H1 e1 => ?_⟩
  · obtain ⟨w', h, rfl⟩ : ∃ w' h, w = w' ++ [h] := by
      rcases List.eq_nil_or_concat w with rfl | ⟨w', h, e⟩
      · cases hb
      · exact ⟨w', h, by rw [e, List.concat_eq_append]⟩
    have hwl : w'.length + 1 ≤ m := by
      unfold PL.meas at hm
      rw [List.length_append, List.length_cons, List.length_nil] at hm
      omega
    obtain ⟨m', rfl⟩ : ∃ m', m = m' + 1 := ⟨m - 1, by omega⟩
    have Gs : goC L (m' + 1) f (w' ++ [h]) = goC L m' (stepsF L h (f, w')).1 (stepsF L h (f, w')).2 := by
      show (match (w' ++ [h]).getLast? with | none => f | some h' => goC L m' (stepsF L h' (f, (w' ++ [h]).dropLast)).1 (stepsF L h' (f, (w' ++ [h]).dropLast)).2) = _
      rw [List.getLast?_concat, List.dropLast_concat]
    have fl : f.length ≤ 12 := Nat.le_trans (PL.nodup_sub_len C.nd C.sub) hl
    refine z_pop (α := Pr) (i := 3) (j := 4) (p := pw) (as := w') (a := h) rfl (ow.ex e1) fun vh us2 ws2 rh gw ow2 => ?_
    have xw := ext_lst (ws := ws2) gw
    have of2 := (of.ex e1).upd (ws := ws2) gw nfw
    have E2 : Ex H (upd H1 pw (.lst ws2)) := Ex.mut (E.trans e1) hw0
    have rh2 := mt xw rh
    generalize upd H1 pw (.lst ws2) = G2 at ow2 of2 E2 rh2 ⊢
    refine z_forO (α := Pr) (xs := L) [pf, pw] (is_list (i := 0) rfl (E2 _ _ ha) (its.mono E2) (by simp [haf, haw]) (fun p hp => ?_)) (fun i σ3 H3 => ∃ y5, σ3 = [some (.ref a), some vx, some (.ref pf), some (.ref pw), some vh, y5] ∧ Own (α := Pr) pf (stepsF (L.take i) h (f, w')).1 H3 ∧ Own (α := Pr) pw (stepsF (L.take i) h (f, w')).2 H3 ∧ Ex H H3 ∧ rp h vh H3) (fun H3 e3 => ⟨y5, rfl, of2.ex e3, ow2.ex e3, E2.trans e3, mn e3 rh2⟩) (fun i y vy σ3 H0 H3 hi hP e3 ry N2 hN2 => ?_) fun σ3 H3 hP => ?_
    · simp only [List.mem_cons, List.not_mem_nil, or_false] at hp
      rcases hp with rfl | rfl
      · obtain ⟨ws, g, _⟩ := of2
        exact ⟨_, g, fun xs z => by cases z⟩
      · obtain ⟨ws, g, _⟩ := ow2
        exact ⟨_, g, fun xs z => by cases z⟩
    · obtain ⟨y5', rfl, of3, ow3, E3, rh3⟩ := hP
      have tk : L.take (i + 1) = L.take i ++ [y] := by rw [List.take_add_one, hi]; rfl
      have ln := stepsF_len h (L.take i) (f, w')
      have lt : (L.take i).length ≤ L.length := by rw [List.length_take]; omega
      have ef := stepsF_snoc h (L.take i) y (f, w')
      rw [← tk] at ef
      generalize stepsF (L.take i) h (f, w') = s at of3 ow3 ln ef
      have ln1 : s.1.length ≤ f.length + (L.take i).length := ln.1
      have ln2 : s.2.length ≤ w'.length + (L.take i).length := ln.2
      refine z_if (b := !decide (y ∈ s.1) && share h y) (et_and (t_test (p_ninL (x_var (i := 5) rfl ry) (x_var (α := Lst Pr) (i := 2) rfl (of3.ex e3).rp))) fun _ => t_B (x_call2 (pre := fun _ _ => True) (f := share) (x_var (i := 4) rfl (mn e3 rh3)) (x_var (i := 5) rfl ry) True.intro)) (fun hb H4 e4 => ?_) fun hb H4 e4 => ?_
      · have es : stepF h s y = (s.1 ++ [y], s.2 ++ [y]) := if_pos hb
        refine z_app (α := Pr) (i := 2) (p := pf) (as := s.1) (a := y) rfl (of3.ex (e3.trans e4)) (by omega) (x_var (i := 5) rfl (mn e4 ry)) fun H5 v5 us5 e5 r5 g5 q5 => ?_
        have x5 := ext_lst (ws := us5 ++ [v5]) g5
        have ow5 := (ow3.ex ((e3.trans e4).trans e5)).upd (ws := us5 ++ [v5]) g5 nfw.symm
        have E5 : Ex H (upd H5 pf (.lst (us5 ++ [v5]))) := Ex.mut (((E3.trans e3).trans e4).trans e5) hf0
        have rh5 := mt x5 (mn ((e3.trans e4).trans e5) rh3)
        have ry5 := mt x5 (mn (e4.trans e5) ry)
        have M5 : Ex (Mks [pf, pw] H3) (upd H5 pf (.lst (us5 ++ [v5]))) := mks_step (mks_of (e4.trans e5)) (mks_upd (by simp))
        generalize upd H5 pf (.lst (us5 ++ [v5])) = G5 at q5 ow5 E5 rh5 ry5 M5 ⊢
        refine z_app (α := Pr) (i := 3) (p := pw) (as := s.2) (a := y) rfl ow5 (by omega) (x_var (i := 5) rfl ry5) fun H6 v6 us6 e6 r6 g6 q6 => ?_
        refine hN2 _ _ (mks_step (M5.trans e6) (mks_upd (by simp))) ⟨_, rfl, ?_, ?_, Ex.mut (E5.trans e6) hw0, mt (ext_lst g6) (mn e6 rh5)⟩
        · rw [ef, es]
          exact (q5.ex e6).upd (ws := us6 ++ [v6]) g6 nfw
        · rw [ef, es]
          exact q6
      · have es : stepF h s y = s := if_neg (by rw [hb]; exact Bool.false_ne_true)
        exact hN2 _ _ (mks_of e4) ⟨_, rfl, by rw [ef, es]; exact of3.ex (e3.trans e4), by rw [ef, es]; exact ow3.ex (e3.trans e4), (E3.trans e3).trans e4, mn (e3.trans e4) rh3⟩
    · obtain ⟨y5', rfl, of3, ow3, E3, rh3⟩ := hP
      rw [List.take_length] at of3 ow3
      obtain ⟨C', hm', _⟩ := C.next
      exact hN m' _ _ (Nat.lt_succ_self _) ⟨_, _, _, _, rfl, of3, ow3, E3, by rw [← Gs]; exact G, C', by omega, by omega⟩
  · have hw : w = [] := by
      cases w with
      | nil => rfl
      | cons a b => cases hb
    subst hw
    have hG : goC L (2 * L.length) [x] [x] = f := by
      rw [← G]
      cases m with
      | zero => rfl
      | succ m => rfl
    refine q_ret (x_tupleOf (α := Pr) (f_srt (x_var (α := Lst Pr) (i := 2) rfl (of.ex e1).rp)).x) fun v H2 r => q v H2 (RX.bk.bk (E.trans e1) ?_)
    unfold chainF
    rw [hG]
    exact r
end K77

namespace K77
open PySem L2 DL Evl StX
open Arg (rp mn)
open Rep (mt)
open PL (Pr srt loneF chainF chainsF exchF goC goS stepF stepsF share gr)
variable {K : PySem.W.Frag}

def sp_chains_by : Sp := sp3 (α := Tup (Tup Pr)) (β := Nat) (γ := Nat) PlanOk fun (V : List (List Pr)) _ _ => RX (α := Tup (Tup Pr)) (chainsF (V.getD 0 []) (V.getD 1 []))
theorem len_chains_by : ∀ vs H Q E, sp_chains_by vs H Q E → vs.length = 3 := sp3_len
theorem lone_len (R0 R1 : List Pr) : (loneF R0 R1).length ≤ R0.length + R1.length := by
  unfold loneF
  rw [PL.srt_len]
  refine Nat.le_trans (List.length_filter_le _ _) ?_
  rw [List.length_append]
  exact Nat.le_refl _
theorem filter_lt {L : List Pr} {x : Pr} {f : Pr → Bool} (hx : x ∈ L) (hf : f x = false) : (L.filter f).length < L.length := by
  induction L with
  | nil => cases hx
  | cons y L ih =>
    rw [List.filter_cons]
    have hle := List.length_filter_le f L
    by_cases e : y = x
    · subst e
      rw [hf]
      simp
      omega
    · have := ih (by
        rcases List.mem_cons.mp hx with h | h
        · exact absurd h.symm e
        · exact h)
      split
      · rw [List.length_cons, List.length_cons]; omega
      · rw [List.length_cons]; omega
theorem sem_chains_by : ∀ vs H Q E, sp_chains_by vs H Q E → t_chains_by K sp_lone_pairs sp_chain_from (eN Q) (start ["plan", "one", "two", "left", "found", "chain", "pair"] vs) H := fun vs H Q E h => by
  obtain ⟨(V : List (List Pr)), i, j, vV, vi, vj, rfl, rV, ri, rj, hp, q⟩ := h
  have q : ∀ v H', RX (α := Tup (Tup Pr)) (chainsF (V.getD 0 []) (V.getD 1 [])) H v H' → Q v H' := q
  have hl : (loneF (V.getD 0 []) (V.getD 1 [])).length ≤ 12 := by
    obtain ⟨R0, R1, rfl, _, _, l0, l1⟩ := hp
    exact Nat.le_trans (lone_len R0 R1) (by omega)
  refine z_par2 (r_call3 (α := Tup (Tup Pr)) (β := Nat) (γ := Nat) (R := fun (V : List (List Pr)) _ _ => RF (loneF (V.getD 0 []) (V.getD 1 []))) (fun _ _ _ => RF.bk) (x_var rfl rV) (x_var rfl ri) (x_var rfl rj) hp) (f_lst (α := Tup Pr) xs_nil (Nat.zero_le _)) (fun v1 v2 H1 H2 r1 r2 => ?_) (fun r => r.1)
  obtain ⟨pl, rfl, hpl, e1, ol⟩ := Own.of r1
  obtain ⟨pf, rfl, hpf, e2, of⟩ := Own.of r2
  have hf0 : H pf = none := fresh_back e1 hpf
  have nlf : pl ≠ pf := fun z => by
    obtain ⟨_, g, _⟩ := ol
    rw [z, hpf] at g
    cases g
  have ol : Own (α := Pr) pl (loneF (V.getD 0 []) (V.getD 1 [])) H1 := ol
  have hG : goS (loneF (V.getD 0 []) (V.getD 1 [])).length (loneF (V.getD 0 []) (V.getD 1 [])) [] = chainsF (V.getD 0 []) (V.getD 1 []) := rfl
  generalize loneF (V.getD 0 []) (V.getD 1 []) = L0 at ol hl hG
  refine z_while (fun m σ' H' => ∃ (left : List Pr) (p : Addr) (f : List (List Pr)) (y5 : Option L2.V), σ' = [some vV, some vi, some vj, some (.ref p), some (.ref pf), y5, none] ∧ Own (α := Pr) p left H' ∧ Own (α := Tup Pr) pf f H' ∧ p ≠ pf ∧ Ex H H' ∧ goS m left f = chainsF (V.getD 0 []) (V.getD 1 []) ∧ left.length ≤ m ∧ f.length + left.length ≤ 12) L0.length ⟨L0, pl, [], none, rfl, ol.ex e2, of, nlf, e1.trans e2, hG, Nat.le_refl _, by simp; exact hl⟩ ?_
  rintro m σ' H' ⟨left, p, f, y5, rfl, ol, of, hn, E, G, hm, h12⟩
  refine ⟨!left.isEmpty, t_test (x_neNil (α := Pr) (x_var (α := Lst Pr) (i := 3) rfl ol.rp) (by decide)), fun hb H1 e1 N hN => ?_, fun hb H1 e1 => ?_⟩
  · obtain ⟨x, r, rfl⟩ : ∃ x r, left = x :: r := by
      cases left with
      | nil => cases hb
      | cons x r => exact ⟨x, r, rfl⟩
    rw [List.length_cons] at hm h12
    obtain ⟨m', rfl⟩ : ∃ m', m = m' + 1 := ⟨m - 1, by omega⟩
    have ol1 := ol.ex e1
    obtain ⟨C, hx⟩ := PL.chainF_ok (pairs := x :: r) (x := x) List.mem_cons_self
    refine q_set (x_call2 (α := Lst Pr) (β := Pr) (γ := Tup Pr) (f := fun L x => chainF L x) (x_var (α := Lst Pr) (a := x :: r) (i := 3) rfl ol1.rp) (x_ixL (α := Pr) (t := x :: r) (x_var (α := Lst Pr) (a := x :: r) (i := 3) rfl ol1.rp) (x_n (n := 0) rfl) rfl) (show x ∈ x :: r ∧ (x :: r).length ≤ 12 from ⟨List.mem_cons_self, by rw [List.length_cons]; omega⟩)) fun vc H2 ⟨e2, rc⟩ => ?_
    have of2 := of.ex (e1.trans e2)
    have E2 := (E.trans e1).trans e2
    refine z_app (α := Tup Pr) (i := 4) (p := pf) (as := f) (a := chainF (x :: r) x) rfl of2 (show List.length (α := List Pr) f < 100000 by omega) (x_var (α := Tup Pr) (i := 5) (v := vc) rfl rc) fun H3 v3 us3 e3 r3 g3 q3 => ?_
    have x3 := ext_lst (ws := us3 ++ [v3]) g3
    have ol3 := (ol1.ex (e2.trans e3)).upd (ws := us3 ++ [v3]) g3 hn
    have rc3 := mt x3 (mn e3 rc)
    have E3 : Ex H (upd H3 pf (.lst (us3 ++ [v3]))) := Ex.mut (E2.trans e3) hf0
    generalize upd H3 pf (.lst (us3 ++ [v3])) = G3 at q3 ol3 rc3 E3 ⊢
    refine q_set (ef_is (f_lcN (α := Pr) (β := Pr) (xs := x :: r) (fun y => !decide (y ∈ chainF (x :: r) x)) (fun x => x) (i_list (α := Pr) (x_var (α := Lst Pr) (i := 3) rfl ol3.rp)) (by rw [List.length_cons]; omega) (fun _ => rfl) (fun a y H4 hm e ra => t_test (p_ninT (x_var (i := 6) rfl ra) (x_var (α := Tup Pr) (i := 5) rfl (mn e rc3)))) fun a y H4 hm e ra _ => x_var (i := 6) rfl ra) (List.map_id' _)) fun v4 H4 r4 => ?_
    obtain ⟨p4, rfl, hp4, e4, o4⟩ := Own.of r4
    have fl : ((x :: r).filter fun y => !decide (y ∈ chainF (x :: r) x)).length < (x :: r).length := filter_lt (x := x) List.mem_cons_self (by simp [hx])
    rw [List.length_cons] at fl
    refine hN m' _ _ (Nat.lt_succ_self _) ⟨_, p4, f ++ [chainF (x :: r) x], _, rfl, o4, q3.ex e4, fun z => ?_, E3.trans e4, G, by omega, by rw [List.length_append, List.length_cons, List.length_nil]; omega⟩
    obtain ⟨_, g, _⟩ := q3
    rw [← z, hp4] at g
    cases g
  · have hw : left = [] := by
      cases left with
      | nil => rfl
      | cons a b => cases hb
    subst hw
    have hf : chainsF (V.getD 0 []) (V.getD 1 []) = f := by
      rw [← G]
      cases m with
      | zero => rfl
      | succ m => rfl
    refine q_ret (x_tupleOf (α := Tup Pr) (x_var (α := Lst (Tup Pr)) (i := 4) rfl (of.ex e1).rp)) fun v H2 r => q v H2 (RX.bk.bk (E.trans e1) ?_)
    rw [hf]
    exact r
def sp_without_and_with : Sp := sp2 (α := Tup Pr) (β := Tup Pr) (fun R c => List.length R ≤ 12 ∧ List.length c ≤ 12) fun R c => RX (α := Tup Pr) (exchF R c)
theorem len_without_and_with : ∀ vs H Q E, sp_without_and_with vs H Q E → vs.length = 2 := sp2_len
theorem sem_without_and_with : ∀ vs H Q E, sp_without_and_with vs H Q E → t_without_and_with K (eN Q) (start ["each", "chain", "kept", "pair"] vs) H := fun vs H Q E h => by
  obtain ⟨(R : List Pr), (c : List Pr), vR, vc, rfl, rR, rc, ⟨hR, hc⟩, q⟩ := h
  have hR : R.length ≤ 12 := hR
  have hc : c.length ≤ 12 := hc
  have q : ∀ v H', RX (α := Tup Pr) (exchF R c) H v H' → Q v H' := q
  have f1 := List.length_filter_le (fun x => !decide (x ∈ c)) R
  have f2 := List.length_filter_le (fun x => !decide (x ∈ R)) c
  refine q_set (ef_is (f_lcN (α := Pr) (β := Pr) (xs := R) (fun y => !decide (y ∈ c)) (fun x => x) (i_tup (α := Pr) (x_var (α := Tup Pr) rfl rR)) (by omega) (fun _ => rfl) (fun a y H4 hm e ra => t_test (p_ninT (x_var (i := 3) rfl ra) (x_var (α := Tup Pr) (i := 1) rfl (mn e rc)))) fun a y H4 hm e ra _ => x_var (i := 3) rfl ra) (List.map_id' _)) fun v1 H1 r1 => ?_
  obtain ⟨p, rfl, hp, e1, ho⟩ := Own.of r1
  refine q_ret (x_tupleOf (α := Pr) (f_srt (f_cat (α := Pr) (x_var (α := Lst Pr) (i := 2) rfl ho.rp) (ef_is (f_lcN (α := Pr) (β := Pr) (xs := c) (fun y => !decide (y ∈ R)) (fun x => x) (i_tup (α := Pr) (x_var (α := Tup Pr) rfl (mn e1 rc))) (by omega) (fun _ => rfl) (fun a y H4 hm e ra => t_test (p_ninT (x_var (i := 3) rfl ra) (x_var (α := Tup Pr) (i := 0) rfl (mn (e1.trans e) rR)))) fun a y H4 hm e ra _ => x_var (i := 3) rfl ra) (List.map_id' _)).x (by omega)).x).x) fun v H' r => q v H' (RX.bk.bk e1 r)
theorem its_set {α : Type} [Arg α] {H : Hp} : ∀ {as : List α} {us : List L2.V} {k : Nat} {a : α} {v : L2.V}, Its as us H → rp a v H → Its (as.set k a) (us.set k v) H
  | _, _, _, _, _, .nil, _ => .nil
  | _, _, 0, _, _, .cons _ t, r => .cons r t
  | _, _, _ + 1, _, _, .cons r0 t, r => .cons r0 (its_set t r)
theorem ixN_lt {n k : Nat} (h : k < n) : ixN n (k : Int) = some k := by
  unfold ixN
  rw [if_pos (by omega), if_pos (by omega)]
  simp
theorem z_setO {α : Type} [Rep α] {σ : L2.St} {H : Hp} {te tk : TE} {nx bk ct : L2.St → Hp → Prop} {rt : VK} {i : Nat} {p : Addr} {as : List α} {a : α} {k : Nat} (h : EX te σ H a) (hv : σ[i]? = some (some (.ref p))) (hk : EX tk σ H k) (ho : Own p as H) (hlt : k < as.length)
    (q : ∀ H1 v us, Ex H H1 → rp a v H1 → H1 p = some (.lst us) → Own p (as.set k a) (upd H1 p (.lst (us.set k v))) → nx σ (upd H1 p (.lst (us.set k v)))) : tAsg te (gSub (tVar i) tk rSetL) ⟨nx, rt, bk, ct⟩ σ H := by
  obtain ⟨us, h1, h2⟩ := ho
  refine h H (Ex.refl H) _ fun v H1 ⟨e1, r1⟩ => ⟨.ref p, hv, hk H1 e1 _ fun u H2 ⟨e2, r2⟩ => ?_⟩
  have r2 : u = .int (k : Int) := r2
  subst r2
  have g := (e1.trans e2) _ _ h1
  exact ⟨p, us, (k : Int), k, rfl, rfl, g, ixN_lt (by rw [← h2.len]; exact hlt), q H2 v us (e1.trans e2) (mn e2 r1) g ⟨_, upd_same, its_set (Its.mt (ext_lst g) (h2.mono (e1.trans e2))) (mt (ext_lst g) (mn e2 r1))⟩⟩
/-- four arguments -/
def sp4 {α β γ δ : Type} [Arg α] [Arg β] [Arg γ] [Arg δ] (pre : α → β → γ → δ → Prop) (R : α → β → γ → δ → Res) : Sp := fun vs H Q _ => ∃ (a : α) (b : β) (c : γ) (d : δ) (va vb vc vd : L2.V), vs = [va, vb, vc, vd] ∧ rp a va H ∧ rp b vb H ∧ rp c vc H ∧ rp d vd H ∧ pre a b c d ∧ ∀ v H', R a b c d H v H' → Q v H'
theorem sp4_len {α β γ δ : Type} [Arg α] [Arg β] [Arg γ] [Arg δ] {pre : α → β → γ → δ → Prop} {R : α → β → γ → δ → Res} : ∀ vs H Q E, sp4 pre R vs H Q E → vs.length = 4 := fun vs H Q E ⟨a, b, c, d, va, vb, vc, vd, e, _⟩ => by rw [e]; rfl
theorem r_call4 {α β γ δ : Type} [Arg α] [Arg β] [Arg γ] [Arg δ] {σ : L2.St} {H : Hp} {ta tb tc td : TE} {E : XK} {pre : α → β → γ → δ → Prop} {R : α → β → γ → δ → Res} (bk : ∀ a b c d, Bk (R a b c d)) {a : α} {b : β} {c : γ} {d : δ} (ha : EX ta σ H a) (hb : EX tb σ H b) (hc : EX tc σ H c) (hd : EX td σ H d) (hp : pre a b c d) : EvR (tCall (sp4 pre R) [] E (tCons ta (tCons tb (tCons tc (tCons td tNil))))) σ H (R a b c d) := fun H1 e Q q =>
  ha H1 e _ fun v H2 ⟨e2, r2⟩ => hb H2 (e.trans e2) _ fun u H3 ⟨e3, r3⟩ => hc H3 ((e.trans e2).trans e3) _ fun w H4 ⟨e4, r4⟩ => hd H4 (((e.trans e2).trans e3).trans e4) _ fun x H5 ⟨e5, r5⟩ => ⟨a, b, c, d, v, u, w, x, rfl, mn ((e3.trans e4).trans e5) r2, mn (e4.trans e5) r3, mn e5 r4, r5, hp, fun v' H' z => q v' H' ((bk a b c d).bk (((e2.trans e3).trans e4).trans e5) z)⟩
def sp_exchanged_by : Sp := sp4 (α := Tup (Tup Pr)) (β := Nat) (γ := Nat) (δ := Tup Pr) (fun V i j c => PlanOk V i j ∧ List.length c ≤ 12) fun (V : List (List Pr)) _ _ c => RX (α := Tup (Tup Pr)) ([exchF (V.getD 0 []) c, exchF (V.getD 1 []) c] : List (List Pr))
theorem len_exchanged_by : ∀ vs H Q E, sp_exchanged_by vs H Q E → vs.length = 4 := sp4_len
theorem sem_exchanged_by : ∀ vs H Q E, sp_exchanged_by vs H Q E → t_exchanged_by K sp_without_and_with (eN Q) (start ["plan", "one", "two", "chain", "rounds"] vs) H := fun vs H Q E h => by
  obtain ⟨(V : List (List Pr)), i, j, (c : List Pr), vV, vi, vj, vc, rfl, rV, ri, rj, rc, ⟨⟨R0, R1, rfl, rfl, rfl, l0, l1⟩, lc⟩, q⟩ := h
  have lc : c.length ≤ 12 := lc
  have q : ∀ v H', RX (α := Tup (Tup Pr)) ([exchF R0 c, exchF R1 c] : List (List Pr)) H v H' → Q v H' := q
  refine q_set (f_listOfT (α := Tup Pr) (as := [R0, R1]) (x_var (α := Tup (Tup Pr)) rfl rV)) fun v1 H1 r1 => ?_
  obtain ⟨p, rfl, hp, e1, ho⟩ := Own.of r1
  refine z_setO (α := Tup Pr) (i := 4) (p := p) (as := [R0, R1]) (a := exchF R0 c) (k := 0) (x_call2 (α := Tup Pr) (β := Tup Pr) (γ := Tup Pr) (f := fun R c => exchF R c) (x_r0 (x_var (α := Tup (Tup Pr)) (i := 0) rfl (mn e1 rV)) (x_var (i := 1) rfl (mn e1 ri))) (x_var (α := Tup Pr) (a := c) (i := 3) rfl (mn e1 rc)) (show R0.length ≤ 12 ∧ c.length ≤ 12 from ⟨by omega, lc⟩)) rfl (x_var (i := 1) rfl (mn e1 ri)) ho (show 0 < 2 by decide) fun H2 v2 us2 e2 r2 g2 q2 => ?_
  have x2 := ext_lst (ws := us2.set 0 v2) g2
  have rV2 := mt x2 (mn (e1.trans e2) rV)
  have rj2 := mt x2 (mn (e1.trans e2) rj)
  have rc2 := mt x2 (mn (e1.trans e2) rc)
  have E2 : Ex H (upd H2 p (.lst (us2.set 0 v2))) := Ex.mut (e1.trans e2) hp
  generalize upd H2 p (.lst (us2.set 0 v2)) = G2 at q2 rV2 rj2 rc2 E2 ⊢
  have q2 : Own (α := Tup Pr) p ([exchF R0 c, R1] : List (List Pr)) G2 := q2
  refine z_setO (α := Tup Pr) (i := 4) (p := p) (as := [exchF R0 c, R1]) (a := exchF R1 c) (k := 1) (x_call2 (α := Tup Pr) (β := Tup Pr) (γ := Tup Pr) (f := fun R c => exchF R c) (x_r1 (R0 := R0) (x_var (α := Tup (Tup Pr)) (i := 0) rfl rV2) (x_var (i := 2) rfl rj2)) (x_var (α := Tup Pr) (a := c) (i := 3) rfl rc2) (show R1.length ≤ 12 ∧ c.length ≤ 12 from ⟨by omega, lc⟩)) rfl (x_var (i := 2) rfl rj2) q2 (show 1 < 2 by decide) fun H3 v3 us3 e3 r3 g3 q3 => ?_
  have E3 : Ex H (upd H3 p (.lst (us3.set 1 v3))) := Ex.mut (E2.trans e3) hp
  exact q_ret (x_tupleOf (α := Tup Pr) (x_var (α := Lst (Tup Pr)) (i := 4) rfl q3.rp)) fun v H' r => q v H' (RX.bk.bk E3 r)
/-! ### is_chain, by repr -/
instance repStr : Rep Str := Rep.of (fun s v _ => v = .str s) fun _ h => h
theorem sc_str {i j : Str} : ∀ u v H, rp i u H → rp j v H → scal u v = true ∧ decide (u = v) = decide (i = j) := fun u v H h1 h2 => by
  have h1 : u = .str i := h1
  have h2 : v = .str j := h2
  subst h1 h2
  exact ⟨rfl, decide_eq_decide.mpr ⟨fun e => V.str.inj e, fun e => by rw [e]⟩⟩
/-- pairs of small numbers -/
def Small (c : List Pr) : Prop := c.length ≤ 12 ∧ ∀ x ∈ c, x.1 ≤ 9 ∧ x.2 ≤ 9
abbrev dC (c : List Pr) : PyData := Pd.pd (α := Tup Pr) c
theorem int_short : ∀ n : Nat, n ≤ 9 → (PyData.int (n : Int)).leavesShort 8 = true := fun n h => by
  have : ∀ n : Nat, n < 10 → (PyData.int (n : Int)).leavesShort 8 = true := by
    intro n hn
    simp only [PyData.leavesShort, PyData.shown]
    revert n
    decide +kernel
  exact this n (by omega)
theorem int_showable : ∀ n : Nat, n ≤ 9 → (PyData.int (n : Int)).showable = true := fun n h => by
  have : ∀ n : Nat, n < 10 → (PyData.int (n : Int)).showable = true := by
    intro n hn
    simp only [PyData.showable]
    revert n
    decide +kernel
  exact this n (by omega)
theorem short_all : ∀ c : List Pr, (∀ x ∈ c, x.1 ≤ 9 ∧ x.2 ≤ 9) → PyData.leavesShortAll 8 (c.map Pd.pd) = true ∧ PyData.showableAll (c.map Pd.pd) = true ∧ PyData.hasDictAll (c.map Pd.pd) = false ∧ PyData.bulkAll (c.map Pd.pd) ≤ 3 * c.length
  | [], _ => ⟨by simp [PyData.leavesShortAll], by simp [PyData.showableAll], by simp [PyData.hasDictAll], by simp [PyData.bulkAll]⟩
  | x :: c, h => by
    obtain ⟨h1, h2, h3, h4⟩ := short_all c fun y hy => h y (List.mem_cons_of_mem _ hy)
    obtain ⟨x1, x2⟩ := h x List.mem_cons_self
    have e : Pd.pd x = PyData.tuple [.int (x.1 : Int), .int (x.2 : Int)] := rfl
    rw [List.map_cons, e]
    refine ⟨?_, ?_, ?_, ?_⟩
    · simp only [PyData.leavesShortAll]
      rw [h1]
      have e1 : (PyData.tuple [.int (x.1 : Int), .int (x.2 : Int)]).leavesShort 8 = true := by
        rw [PyData.leavesShort]
        simp only [PyData.leavesShortAll]
        rw [int_short _ x1, int_short _ x2]
        rfl
      rw [e1]
      rfl
    · simp only [PyData.showableAll]
      rw [h2]
      have e1 : (PyData.tuple [.int (x.1 : Int), .int (x.2 : Int)]).showable = true := by
        rw [PyData.showable]
        simp only [PyData.showableAll]
        rw [int_showable _ x1, int_showable _ x2]
        rfl
      rw [e1]
      rfl
    · simp [PyData.hasDictAll, PyData.hasDict, h3]
    · simp only [PyData.bulkAll, PyData.bulk, List.length_cons]
      omega
theorem x_repr {σ : L2.St} {H : Hp} {ta : TE} {c : List Pr} (h : ET (α := Pr) ta σ H c) (hs : Small c) : EX (tCB (rRepr K) (tCons ta tNil)) σ H (dC c).shown := fun H1 e Q q =>
  h H1 e _ fun v H2 ⟨e2, r2⟩ => by
    obtain ⟨h1, h2, h3, h4⟩ := short_all c hs.2
    have hb := PyData.shown_le_bulk 8 (by decide) (dC c) (show PyData.leavesShort 8 (.tuple (c.map Pd.pd)) = true by rw [PyData.leavesShort]; exact h1)
    have hb2 : (dC c).bulk = PyData.bulkAll (c.map Pd.pd) := by
      show PyData.bulk (.tuple (c.map Pd.pd)) = _
      rw [PyData.bulk]
    have hc := hs.1
    obtain ⟨p, vs, hv, _⟩ := id r2
    subst hv
    exact ⟨p, dC c, rfl, Pd.dp (α := Tup Pr) K r2, show PyData.showable (.tuple (c.map Pd.pd)) = true by rw [PyData.showable]; exact h2, show PyData.hasDict (.tuple (c.map Pd.pd)) = false by rw [PyData.hasDict]; exact h3, Nat.le_trans (Pd.dle (α := Tup Pr) c) (by decide), (by unfold sizeLine; omega), q _ _ ⟨e2, rfl⟩⟩
def sp_is_chain : Sp := sp4 (α := Tup (Tup Pr)) (β := Nat) (γ := Nat) (δ := Tup Pr) (fun (V : List (List Pr)) i j (c : List Pr) => PlanOk V i j ∧ c ∈ chainsF (V.getD 0 []) (V.getD 1 []) ∧ ∀ c ∈ chainsF (V.getD 0 []) (V.getD 1 []), Small c) fun _ _ _ _ => RX true
theorem len_is_chain : ∀ vs H Q E, sp_is_chain vs H Q E → vs.length = 4 := sp4_len
theorem goS_len : ∀ (m : Nat) (left : List Pr) (f : List (List Pr)), (goS m left f).length ≤ f.length + m
  | 0, _, _ => Nat.le_refl _
  | m + 1, [], f => by
    show f.length ≤ _
    omega
  | m + 1, x :: r, f => by
    have := goS_len m ((x :: r).filter fun y => !decide (y ∈ chainF (x :: r) x)) (f ++ [chainF (x :: r) x])
    rw [List.length_append, List.length_cons, List.length_nil] at this
    show (goS m ((x :: r).filter fun y => !decide (y ∈ chainF (x :: r) x)) (f ++ [chainF (x :: r) x])).length ≤ _
    omega
theorem chainsF_len (R0 R1 : List Pr) : (chainsF R0 R1).length ≤ R0.length + R1.length := by
  have := goS_len (loneF R0 R1).length (loneF R0 R1) []
  have h2 := lone_len R0 R1
  unfold chainsF
  rw [List.length_nil] at this
  omega
theorem sem_is_chain : ∀ vs H Q E, sp_is_chain vs H Q E → t_is_chain K sp_chains_by (eN Q) (start ["plan", "one", "two", "value", "chain"] vs) H := fun vs H Q E h => by
  obtain ⟨(V : List (List Pr)), i, j, (c : List Pr), vV, vi, vj, vc, rfl, rV, ri, rj, rc, ⟨hp, hc, hs⟩, q⟩ := h
  have hc : c ∈ chainsF (V.getD 0 []) (V.getD 1 []) := hc
  have hs : ∀ c ∈ chainsF (V.getD 0 []) (V.getD 1 []), Small c := hs
  have hl : (chainsF (V.getD 0 []) (V.getD 1 [])).length ≤ 12 := by
    obtain ⟨R0, R1, rfl, _, _, l0, l1⟩ := id hp
    exact Nat.le_trans (chainsF_len R0 R1) (by omega)
  refine q_ret (ex_is (x_any (f_lcM (α := Tup Pr) (β := Bool) (xs := chainsF (V.getD 0 []) (V.getD 1 [])) (fun d => decide ((dC c).shown = (dC d).shown)) (i_tup (α := Tup Pr) (x_call3 (α := Tup (Tup Pr)) (β := Nat) (γ := Nat) (δ := Tup (Tup Pr)) (f := fun (V : List (List Pr)) _ _ => chainsF (V.getD 0 []) (V.getD 1 [])) (x_var rfl rV) (x_var rfl ri) (x_var rfl rj) hp)) (show List.length (α := List Pr) (chainsF (V.getD 0 []) (V.getD 1 [])) ≤ 100000 by omega) (fun _ => rfl) fun (d : List Pr) x H1 hm e r => x_eqS (x_repr (x_var (α := Tup Pr) (a := c) (i := 3) rfl (mn e rc)) (hs c hc)) (x_repr (x_var (α := Tup Pr) (a := d) (i := 4) rfl r) (hs d hm)) sc_str).x) ?_) q
  show ((chainsF (V.getD 0 []) (V.getD 1 [])).map fun d => decide ((dC c).shown = (dC d).shown)).any id = true
  rw [List.any_map, List.any_eq_true]
  exact ⟨c, hc, by simp⟩
end K77

namespace K77
open PySem L2 DL Evl StX
open Arg (rp mn)
open Rep (mt)
open BN (Ord at')
open PL (Pr srt loneF chainF chainsF exchF gr Two tab tl)
variable {K : PySem.W.Frag}

/-! ### tables and rounds of two permutations -/
theorem tab_get {h : Nat} {p0 p1 : List Nat} {a : Nat} (ha : a < h) : (tab h p0 p1)[a]? = some ((List.range h).map fun b => tl p0 p1 a b) := by
  unfold tab
  rw [List.getElem?_map, List.getElem?_range ha]
  rfl
theorem tab_at {h : Nat} {p0 p1 : List Nat} {a b : Nat} (hb : b < h) : ((List.range h).map fun b => tl p0 p1 a b)[b]? = some (tl p0 p1 a b) := by
  rw [List.getElem?_map, List.getElem?_range hb]
  rfl
theorem tab_len {h : Nat} {p0 p1 : List Nat} : (tab h p0 p1).length = h := by simp [tab]
theorem tab_Tab {h : Nat} {p0 p1 : List Nat} (P : Two h p0 p1) : Tab 9 (tab h p0 p1) h h := by
  have h24 := P.h24
  refine ⟨by omega, by omega, by omega, by omega, tab_len, fun r hr => ?_, fun r hr x hx => ?_⟩
  · obtain ⟨a, _, rfl⟩ := List.mem_map.mp hr
    simp
  · obtain ⟨a, _, rfl⟩ := List.mem_map.mp hr
    obtain ⟨b, _, rfl⟩ := List.mem_map.mp hx
    have := PL.tl_le p0 p1 a b
    omega
theorem tab_sums {h : Nat} {p0 p1 : List Nat} (P : Two h p0 p1) : (tab h p0 p1).map List.sum = (List.range h).map fun _ => 2 := by
  unfold tab
  rw [List.map_map]
  refine List.map_congr_left fun a ha => ?_
  exact PL.row_two P (List.mem_range.mp ha)
theorem tab_Tbl {h : Nat} {p0 p1 : List Nat} (P : Two h p0 p1) : Tbl (tab h p0 p1) := by
  refine ⟨⟨h, h, tab_Tab P⟩, ?_⟩
  rw [tab_sums P]
  rcases P.h24 with rfl | rfl <;> decide
theorem tab_ncol {h : Nat} {p0 p1 : List Nat} (P : Two h p0 p1) : ncol (tab h p0 p1) = h := (tab_Tab P).ncol
theorem gr_keys (p : List Nat) : MT.keys (gr p) = List.range p.length := by
  unfold MT.keys gr
  rw [List.map_map]
  exact List.map_id' _
theorem gr_vals (p : List Nat) : MT.vals (gr p) = p := by
  unfold MT.vals gr
  rw [List.map_map]
  refine List.ext_getElem? fun i => ?_
  by_cases hi : i < p.length
  · rw [List.getElem?_map, List.getElem?_range hi, BN.get_at hi]
    rfl
  · rw [List.getElem?_eq_none (by simp; omega), List.getElem?_eq_none (by omega)]
theorem gr_good {h : Nat} {p : List Nat} (O : Ord h p) (h24 : h = 2 ∨ h = 4) : GoodR (gr p) h h := by
  have l := O.len
  refine ⟨by rw [gr_keys]; exact List.pairwise_lt_range, by rw [gr_vals]; exact O.nd, fun x hx => ?_, by rw [PL.gr_len]; omega, by rw [PL.gr_len]; omega⟩
  obtain ⟨h1, h2⟩ := PL.gr_mem.mp hx
  have := O.lt' (i := x.1) (by omega)
  omega
/-- a table, a plan of it -/
def IsPl (T : List (List Nat)) (V : List (List Pr)) : Prop := ∃ h q0 q1, Two h q0 q1 ∧ T = tab h q0 q1 ∧ V = [gr q0, gr q1]
theorem IsPl.ok {T : List (List Nat)} {V : List (List Pr)} (h : IsPl T V) : PlanOk V 0 1 := by
  obtain ⟨h, q0, q1, P, _, rfl⟩ := h
  have l0 := P.O0.len
  have l1 := P.O1.len
  have := P.h24
  exact ⟨_, _, rfl, rfl, rfl, by rw [PL.gr_len]; omega, by rw [PL.gr_len]; omega⟩
theorem IsPl.small {T : List (List Nat)} {V : List (List Pr)} (h : IsPl T V) : ∀ c ∈ chainsF (V.getD 0 []) (V.getD 1 []), Small c := by
  obtain ⟨h, q0, q1, P, _, rfl⟩ := h
  have l0 := P.O0.len
  have l1 := P.O1.len
  have := P.h24
  intro c hc
  have C := PL.chainsF_ok (PL.gr_nodup q0) (PL.gr_nodup q1) c hc
  have hl := PL.nodup_sub_len C.nd C.sub
  have h2 := lone_len (gr q0) (gr q1)
  rw [PL.gr_len, PL.gr_len] at h2
  refine ⟨by omega, fun x hx => ?_⟩
  have := PL.c_mem P.O0 P.O1 C hx
  have h3 := P.O0.lt' this.1
  have h4 := P.O1.lt' this.1
  refine ⟨by omega, ?_⟩
  rcases this.2.2 with e | e <;> rw [e] <;> show at' _ _ ≤ 9 <;> omega
/-! ### persons, loads, height -/
def TabE (T : List (List Nat)) : Prop := ∃ m n k, Tab k T m n
def sp_persons_of : Sp := sp1 (α := Tup (Tup Nat)) (fun T => TabE T) fun T => RF (α := Pr) (((List.range (List.length T)).map fun a => (0, a)) ++ (List.range (ncol T)).map fun b => (1, b))
theorem len_persons_of : ∀ vs H Q E, sp_persons_of vs H Q E → vs.length = 1 := sp1_len
theorem sem_persons_of : ∀ vs H Q E, sp_persons_of vs H Q E → t_persons_of K sp_firsts_of sp_seconds_of (eN Q) (start ["table", "firsts", "first", "second"] vs) H := fun vs H Q E h => by
  obtain ⟨(T : List (List Nat)), vT, rfl, rT, ⟨m, n, k, hT⟩, q⟩ := h
  have q : ∀ v H', RF (α := Pr) (((List.range T.length).map fun a => (0, a)) ++ (List.range (ncol T)).map fun b => (1, b)) H v H' → Q v H' := q
  have m6 := hT.m6
  have n6 := hT.n6
  have nc := hT.ncol
  have ml := hT.len
  refine q_set (f_lcM (α := Nat) (β := Pr) (fun a => (0, a)) (i_list (α := Nat) (f_call1 (α := Tup (Tup Nat)) (β := Nat) (f := fun T => List.range (List.length T)) (x_var rfl rT) (show T.length ≤ 6 by omega)).x) (by rw [List.length_range]; show T.length ≤ _; omega) (fun _ => rfl) fun a x H1 hm e r => x_pair (x_n (n := 0) rfl) (x_var rfl r)) fun v1 H1 r1 => ?_
  obtain ⟨p, rfl, hp, e1, ho⟩ := Own.of r1
  refine q_ret (f_cat (α := Pr) (x_var (α := Lst Pr) (i := 1) rfl ho.rp) (f_lcM (α := Nat) (β := Pr) (fun a => (1, a)) (i_list (α := Nat) (f_call1 (α := Tup (Tup Nat)) (β := Nat) (f := fun T => List.range (ncol T)) (x_var rfl (mn e1 rT)) ⟨m, n, k, hT⟩).x) (by rw [List.length_range]; omega) (fun _ => rfl) fun a x H1 hm e r => x_pair (x_n (n := 1) rfl) (x_var rfl r)).x (by rw [List.length_map, List.length_map, List.length_range, List.length_range]; show T.length + _ ≤ _; omega)) fun v H' r => q v H' (RF.bk.bk e1 r)
def loadF (T : List (List Nat)) (x : Pr) : Nat := if x.1 = 0 then (T.getD x.2 []).sum else (T.map fun r => at' r x.2).sum
def sp_load_by : Sp := sp2 (α := Tup (Tup Nat)) (β := Pr) (fun T x => ∃ m n k, Tab k T m n ∧ ((x.1 = 0 ∧ x.2 < m) ∨ (x.1 = 1 ∧ x.2 < n))) fun T x => RX (loadF T x)
theorem len_load_by : ∀ vs H Q E, sp_load_by vs H Q E → vs.length = 2 := sp2_len
theorem sem_load_by : ∀ vs H Q E, sp_load_by vs H Q E → t_load_by K (eN Q) (start ["table", "person", "side", "index", "row"] vs) H := fun vs H Q E h => by
  obtain ⟨(T : List (List Nat)), x, vT, vx, rfl, rT, rx, ⟨m, n, k, hT, hx⟩, q⟩ := h
  obtain ⟨x1, x2⟩ := x
  have q : ∀ v H', RX (loadF T (x1, x2)) H v H' → Q v H' := q
  have hx : (x1 = 0 ∧ x2 < m) ∨ (x1 = 1 ∧ x2 < n) := hx
  have ml := hT.len
  have m6 := hT.m6
  refine q_any (x_var (i := 1) rfl rx) fun v H1 ⟨e1, r1⟩ => ?_
  obtain ⟨p, a, b, hv, h1, ra, rb⟩ := r1
  subst hv
  refine ⟨p, [a, b], rfl, st_of h1, rfl, a, [b], rfl, b, [], rfl, rfl, ?_⟩
  refine q_ret (ex_is (x_if (α := Nat) (b := decide (x1 = 0)) (x := (T.getD x2 []).sum) (y := (T.map fun r => at' r x2).sum) (t_test (x_eqN (x_var (i := 2) rfl ra) (x_n (n := 0) rfl))) (fun hb => ?_) fun hb => ?_) ?_) fun v H' r => q v H' (RX.bk.bk e1 r)
  · have : x1 = 0 := of_decide_eq_true hb
    have hlt : x2 < T.length := by omega
    have hg : T[x2]? = some (T.getD x2 []) := by
      rw [List.getD_eq_getElem?_getD, List.getElem?_eq_getElem hlt]
      rfl
    exact x_sumT (bs := T.getD x2 []) (x_ixT (α := Tup Nat) (t := T) (i := x2) (x_var (α := Tup (Tup Nat)) (a := T) (i := 0) rfl (mn e1 rT)) (x_var (i := 3) rfl rb) hg)
  · have : x1 ≠ 0 := of_decide_eq_false hb
    have hn : x2 < n := by omega
    exact x_sumN (f_lcM (α := Tup Nat) (β := Nat) (xs := T) (fun r => at' r x2) (i_tup (α := Tup Nat) (x_var (α := Tup (Tup Nat)) (a := T) (i := 0) rfl (mn e1 rT))) (show List.length (α := List Nat) T ≤ 100000 by omega) (fun _ => rfl) fun (r : List Nat) y H2 hm e ry => x_ixT (α := Nat) (t := r) (x_var (α := Tup Nat) (a := r) (i := 4) rfl ry) (x_var (i := 3) rfl (mn e rb)) (BN.get_at (by rw [hT.row r hm]; exact hn))).x
  · unfold loadF
    by_cases e : x1 = 0 <;> simp [e]
theorem x_max2 {σ : L2.St} {H : Hp} {ta : TE} {as : List Nat} {c : Nat} (h : EL ta σ H as) (hn : 0 < as.length) (hc : ∀ x ∈ as, x = c) : EX (tCB (rMax K) (tCons ta tNil)) σ H c := fun H1 e Q q =>
  h H1 e _ fun v H2 ⟨e2, p, vs, hv, h1, h2⟩ => by
    rw [its_nat h2] at h1
    subst hv
    refine ⟨p, as.map fun n : Nat => (n : Int), rfl, sq_of h1, by rw [List.length_map]; exact hn, fun m hm _ => ?_⟩
    obtain ⟨y, hy, rfl⟩ := List.mem_map.mp hm
    rw [hc y hy]
    exact q _ _ ⟨e2, rfl⟩
theorem load_two {h : Nat} {p0 p1 : List Nat} (P : Two h p0 p1) {x : Pr} (hx : (x.1 = 0 ∧ x.2 < h) ∨ (x.1 = 1 ∧ x.2 < h)) : loadF (tab h p0 p1) x = 2 := by
  unfold loadF
  rcases hx with ⟨h1, h2⟩ | ⟨h1, h2⟩
  · rw [if_pos h1, List.getD_eq_getElem?_getD, tab_get h2]
    exact PL.row_two P h2
  · rw [if_neg (by omega)]
    unfold tab
    rw [List.map_map]
    refine Eq.trans (PL.sum_congr fun a ha => ?_) (PL.col_two P h2)
    exact NT.at_range h2
def sp_height_by : Sp := sp1 (α := Tup (Tup Nat)) (fun T => ∃ h p0 p1, Two h p0 p1 ∧ T = tab h p0 p1) fun _ => RX (2 : Nat)
theorem len_height_by : ∀ vs H Q E, sp_height_by vs H Q E → vs.length = 1 := sp1_len
theorem sem_height_by : ∀ vs H Q E, sp_height_by vs H Q E → t_height_by K sp_persons_of sp_load_by (eN Q) (start ["table", "person"] vs) H := fun vs H Q E h => by
  obtain ⟨(T : List (List Nat)), vT, rfl, rT, ⟨h, p0, p1, P, hT⟩, q⟩ := h
  subst hT
  have tT := tab_Tab P
  have nc := tab_ncol P
  have h24 := P.h24
  have mem : ∀ x ∈ (((List.range (tab h p0 p1).length).map fun a => ((0, a) : Pr)) ++ (List.range (ncol (tab h p0 p1))).map fun b => ((1, b) : Pr)), (x.1 = 0 ∧ x.2 < h) ∨ (x.1 = 1 ∧ x.2 < h) := fun x hx => by
    rw [nc, tab_len] at hx
    rcases List.mem_append.mp hx with hx | hx
    · obtain ⟨a, ha, rfl⟩ := List.mem_map.mp hx
      exact .inl ⟨rfl, List.mem_range.mp ha⟩
    · obtain ⟨a, ha, rfl⟩ := List.mem_map.mp hx
      exact .inr ⟨rfl, List.mem_range.mp ha⟩
  refine q_ret (x_max2 (c := 2) (f_lcM (α := Pr) (β := Nat) (fun x => loadF (tab h p0 p1) x) (i_list (α := Pr) (f_call1 (α := Tup (Tup Nat)) (β := Pr) (f := fun T => ((List.range (List.length T)).map fun a => (0, a)) ++ (List.range (ncol T)).map fun b => (1, b)) (x_var (α := Tup (Tup Nat)) (a := tab h p0 p1) rfl rT) ⟨_, _, _, tT⟩).x) ?_ (fun _ => rfl) fun x y H1 hm e r => x_call2 (α := Tup (Tup Nat)) (β := Pr) (γ := Nat) (f := fun T x => loadF T x) (x_var (α := Tup (Tup Nat)) (a := tab h p0 p1) (i := 0) rfl (mn e rT)) (x_var (i := 1) rfl r) ⟨_, _, _, tT, mem x hm⟩).x ?_ fun x hx => ?_) q
  · rw [List.length_append, List.length_map, List.length_map, List.length_range, List.length_range, nc]
    show (tab h p0 p1).length + h ≤ _
    rw [tab_len]
    omega
  · rw [List.length_map, List.length_append, List.length_map, List.length_map, List.length_range, List.length_range, nc]
    omega
  · obtain ⟨y, hy, rfl⟩ := List.mem_map.mp hx
    exact load_two P (mem y hy)
def sp_height : Sp := sp1 (α := Tup (Tup Nat)) (fun T => ∃ h p0 p1, Two h p0 p1 ∧ T = tab h p0 p1) fun _ => RX (2 : Nat)
theorem len_height : ∀ vs H Q E, sp_height vs H Q E → vs.length = 1 := sp1_len
theorem sem_height : ∀ vs H Q E, sp_height vs H Q E → t_height K sp_check_table sp_height_by (eN Q) (start ["table"] vs) H := fun vs H Q E h => by
  obtain ⟨(T : List (List Nat)), vT, rfl, rT, ⟨h, p0, p1, P, hT⟩, q⟩ := h
  subst hT
  exact q_drop (r_call1 (α := Tup (Tup Nat)) (R := fun _ => RN) (pre := fun T => Tbl T) (fun _ => RN.bk) (x_var (α := Tup (Tup Nat)) (a := tab h p0 p1) rfl rT) (tab_Tbl P)) fun v H1 r => q_ret (x_call1 (α := Tup (Tup Nat)) (β := Nat) (f := fun _ => 2) (x_var (α := Tup (Tup Nat)) (a := tab h p0 p1) rfl (mn r.1 rT)) ⟨h, p0, p1, P, rfl⟩) fun v H2 r2 => q v H2 (RX.bk.bk r.1 r2)
end K77

namespace K77
open PySem L2 DL Evl StX
open Arg (rp mn)
open Rep (mt)
open BN (Ord at')
open PL (Pr srt loneF chainF chainsF exchF gr Two tab tl)
variable {K : PySem.W.Frag}

def pairsF (m n : Nat) : List Pr := (List.range m).flatMap fun a => (List.range n).map fun b => (a, b)
theorem sum_cst {α : Type} (n : Nat) : ∀ l : List α, (l.map fun _ => n).sum = l.length * n
  | [] => by simp
  | x :: l => by
    rw [List.map_cons, List.sum_cons, sum_cst n l, List.length_cons, Nat.succ_mul]
    omega
theorem pairsF_len {m n : Nat} : (pairsF m n).length = m * n := by
  unfold pairsF
  rw [List.length_flatMap]
  simp only [List.length_map, List.length_range]
  rw [sum_cst, List.length_range]
theorem pairsF_mem {m n : Nat} {x : Pr} : x ∈ pairsF m n ↔ x.1 < m ∧ x.2 < n := by
  unfold pairsF
  rw [List.mem_flatMap]
  constructor
  · rintro ⟨a, ha, hx⟩
    obtain ⟨b, hb, rfl⟩ := List.mem_map.mp hx
    exact ⟨List.mem_range.mp ha, List.mem_range.mp hb⟩
  · rintro ⟨h1, h2⟩
    exact ⟨x.1, List.mem_range.mpr h1, List.mem_map.mpr ⟨x.2, List.mem_range.mpr h2, rfl⟩⟩
def sp_pairs_of : Sp := sp1 (α := Tup (Tup Nat)) (fun T => TabE T) fun T => RF (α := Pr) (pairsF (List.length T) (ncol T))
theorem len_pairs_of : ∀ vs H Q E, sp_pairs_of vs H Q E → vs.length = 1 := sp1_len
theorem sem_pairs_of : ∀ vs H Q E, sp_pairs_of vs H Q E → t_pairs_of K sp_firsts_of sp_seconds_of (eN Q) (start ["table", "first", "second"] vs) H := fun vs H Q E h => by
  obtain ⟨(T : List (List Nat)), vT, rfl, rT, ⟨m, n, k, hT⟩, q⟩ := h
  have q : ∀ v H', RF (α := Pr) (pairsF T.length (ncol T)) H v H' → Q v H' := q
  have m6 := hT.m6
  have n6 := hT.n6
  have nc := hT.ncol
  have ml := hT.len
  have xT : ∀ {σ : L2.St} {H' : Hp}, σ[0]? = some (some vT) → Ex H H' → EX (α := Tup (Tup Nat)) (tVar 0) σ H' T := fun hs e => x_var hs (mn e rT)
  refine q_ret (f_lc2M (α := Nat) (β := Nat) (γ := Pr) (xs := List.range T.length) (i := 1) (j := 2) (vs := [1, 2]) (vs1 := [2]) (fun _ => List.range (ncol T)) (fun a b => (a, b)) (i_list (α := Nat) (f_call1 (α := Tup (Tup Nat)) (β := Nat) (f := fun T => List.range (List.length T)) (xT rfl (Ex.refl _)) (show T.length ≤ 6 by omega)).x) ?_ (fun _ => rfl) (fun _ _ => rfl) (fun a x H1 hm e r => i2_new (α := Nat) (f_call1 (α := Tup (Tup Nat)) (β := Nat) (f := fun T => List.range (ncol T)) (xT rfl (Ex.refl _)) ⟨m, n, k, hT⟩)) fun a x b y H1 hm hb e r1 r2 => x_pair (x_var (i := 1) rfl r1) (x_var (i := 2) rfl r2)) q
  have := pairsF_len (m := T.length) (n := ncol T)
  have h2 : ((List.range T.length).flatMap fun _ => List.range (ncol T)).length = T.length * ncol T := by
    rw [List.length_flatMap]
    simp only [List.length_range]
    rw [sum_cst, List.length_range]
  rw [h2, nc, ml]
  exact Nat.le_trans (Nat.mul_le_mul m6 n6) (by decide)
/-! ### looks at pairs and rounds -/
def sp_is_tuple_of_P : Sp := sp2 (α := Pr) (β := Nat) (fun _ _ => True) fun _ n => RX (decide (2 = n))
theorem len_is_tuple_of_P : ∀ vs H Q E, sp_is_tuple_of_P vs H Q E → vs.length = 2 := sp2_len
theorem sem_is_tuple_of_P : ∀ vs H Q E, sp_is_tuple_of_P vs H Q E → t_is_tuple_of_P K (eN Q) (start ["value", "many"] vs) H := fun vs H Q E h => by
  obtain ⟨a, b, va, vb, rfl, ra, rb, hp, q⟩ := h
  exact q_ret (ex_is (x_and (x_isi (b := true) (α := Pr) (x_var rfl ra) (ty_pair (by decide +kernel))) fun _ => x_eqN (x_lenP (x_var rfl ra)) (x_var rfl rb)) (Bool.true_and _)) q
def sp_is_first : Sp := sp2 (α := Tup (Tup Nat)) (β := Nat) (fun T v => v < List.length T) fun _ _ => RX true
theorem len_is_first : ∀ vs H Q E, sp_is_first vs H Q E → vs.length = 2 := sp2_len
theorem btwN {a n : Nat} (h : a < n) : (decide ((0 : Int) ≤ (a : Int)) && decide ((a : Int) ≤ (n : Int) - 1)) = true := by
  rw [Bool.and_eq_true]
  exact ⟨decide_eq_true (by omega), decide_eq_true (by omega)⟩
theorem sem_is_first : ∀ vs H Q E, sp_is_first vs H Q E → t_is_first K sp_is_between (eN Q) (start ["table", "value"] vs) H := fun vs H Q E h => by
  obtain ⟨(T : List (List Nat)), a, vT, va, rfl, rT, ra, hp, q⟩ := h
  exact q_ret (ex_is (x_call3 (α := Int) (β := Int) (γ := Int) (pre := fun _ _ _ => True) (f := fun (v lo hi : Int) => decide (lo ≤ v) && decide (v ≤ hi)) (a := (a : Int)) (b := 0) (c := (T.length : Int) - 1) (x_ni (x_var rfl ra)) x_i (x_sub (x_ni (x_lenT (α := Tup Nat) (as := T) (x_var rfl rT))) (x_i (i := 1))) True.intro) (btwN hp)) q
def sp_is_second : Sp := sp2 (α := Tup (Tup Nat)) (β := Nat) (fun T v => ∃ m n k, Tab k T m n ∧ v < n) fun _ _ => RX true
theorem len_is_second : ∀ vs H Q E, sp_is_second vs H Q E → vs.length = 2 := sp2_len
theorem sem_is_second : ∀ vs H Q E, sp_is_second vs H Q E → t_is_second K sp_is_between (eN Q) (start ["table", "value"] vs) H := fun vs H Q E h => by
  obtain ⟨(T : List (List Nat)), a, vT, va, rfl, rT, ra, ⟨m, n, k, hT, ha⟩, q⟩ := h
  obtain ⟨r, h0, hr, hl⟩ := hT.hd
  exact q_ret (ex_is (x_call3 (α := Int) (β := Int) (γ := Int) (pre := fun _ _ _ => True) (f := fun (v lo hi : Int) => decide (lo ≤ v) && decide (v ≤ hi)) (a := (a : Int)) (b := 0) (c := (r.length : Int) - 1) (x_ni (x_var rfl ra)) x_i (x_sub (x_ni (x_lenT (α := Nat) (as := r) (x_ixT (α := Tup Nat) (t := T) (x_var rfl rT) (x_n (n := 0) rfl) h0))) (x_i (i := 1))) True.intro) (btwN (by rw [hl]; exact ha))) q
def sp_is_pair : Sp := sp2 (α := Tup (Tup Nat)) (β := Pr) (fun T x => ∃ m n k, Tab k T m n ∧ x.1 < m ∧ x.2 < n) fun _ _ => RX true
theorem len_is_pair : ∀ vs H Q E, sp_is_pair vs H Q E → vs.length = 2 := sp2_len
theorem sem_is_pair : ∀ vs H Q E, sp_is_pair vs H Q E → t_is_pair K sp_is_tuple_of_P sp_is_first sp_is_second (eN Q) (start ["table", "value"] vs) H := fun vs H Q E h => by
  obtain ⟨(T : List (List Nat)), x, vT, vx, rfl, rT, rx, ⟨m, n, k, hT, h1, h2⟩, q⟩ := h
  exact q_ret (ex_is (x_and (x_call2 (α := Pr) (β := Nat) (pre := fun _ _ => True) (f := fun _ n => decide (2 = n)) (x_var rfl rx) (x_n (n := 2) rfl) True.intro) fun _ => x_and (x_call2 (α := Tup (Tup Nat)) (β := Nat) (f := fun _ _ => true) (x_var rfl rT) (x_fst (β := Nat) (t := x) (x_var rfl rx)) (show x.1 < T.length by rw [hT.len]; exact h1)) fun _ => x_call2 (α := Tup (Tup Nat)) (β := Nat) (f := fun _ _ => true) (x_var rfl rT) (x_snd (α := Nat) (t := x) (x_var rfl rx)) ⟨m, n, k, hT, h2⟩) rfl) q
theorem x_ltP {σ : L2.St} {H : Hp} {ta tb : TE} {x y : Nat × Nat} (h1 : EX ta σ H x) (h2 : EX tb σ H y) (hlt : x.1 < y.1) : EX (tOp (rLtT K) ta tb) σ H true := fun H1 e Q q =>
  h1 H1 e _ fun v H2 ⟨e2, p, a, b, hv, g1, ga, gb⟩ => h2 H2 (e.trans e2) _ fun u H3 ⟨e3, p', a', b', hu, g1', ga', gb'⟩ => by
    have ea : a = .int (x.1 : Int) := ga
    have eb : b = .int (x.2 : Int) := gb
    have ea' : a' = .int (y.1 : Int) := ga'
    have eb' : b' = .int (y.2 : Int) := gb'
    subst ea eb ea' eb'
    refine ⟨p, p', [(x.1 : Int), (x.2 : Int)], [(y.1 : Int), (y.2 : Int)], hv, hu, st_of (e3 _ _ g1), st_of g1', ?_⟩
    have hl : HT.lexLt [(x.1 : Int), (x.2 : Int)] [(y.1 : Int), (y.2 : Int)] = true := by
      have : (x.1 : Int) < (y.1 : Int) := by omega
      rw [HT.lexLt_cons, if_neg (by omega)]
      exact decide_eq_true this
    rw [hl]
    exact q _ _ ⟨e2.trans e3, rfl⟩
def sp_are_rising : Sp := sp1 (α := Tup Pr) (fun r => (MT.keys r).Pairwise (· < ·) ∧ 1 ≤ List.length r ∧ List.length r ≤ 6) fun _ => RX true
theorem len_are_rising : ∀ vs H Q E, sp_are_rising vs H Q E → vs.length = 1 := sp1_len
theorem sem_are_rising : ∀ vs H Q E, sp_are_rising vs H Q E → t_are_rising K (eN Q) (start ["value", "index"] vs) H := fun vs H Q E h => by
  obtain ⟨(r : List Pr), vr, rfl, rr, ⟨up, h1, h6⟩, q⟩ := h
  have h1 : 1 ≤ r.length := h1
  have h6 : r.length ≤ 6 := h6
  have xr : ∀ {σ' : L2.St} {H'}, σ'[0]? = some (some vr) → Ex H H' → ET (α := Pr) (tVar 0) σ' H' r := fun hs e => x_var hs (mn e rr)
  refine q_ret (ex_is (x_all (f_lcM (α := Nat) (β := Bool) (xs := (List.range (r.length - 1)).map (1 + ·)) (fun _ => true) (i_rng2 (m := 1) (n := r.length) (x_n (n := 1) rfl) (x_lenT (xr rfl (Ex.refl _))) h1 (by omega)) (by simp; omega) (fun _ => rfl) fun a x H1 hm e ra => ?_).x) (all_true fun _ _ => rfl)) q
  obtain ⟨b, hb, rfl⟩ := List.mem_map.mp hm
  have hb := List.mem_range.mp hb
  have l1 : b < r.length := by omega
  have l2 : 1 + b < r.length := by omega
  refine x_ltP (x := r[b]) (y := r[1 + b]) (x_ixT (i := b) (xr rfl e) (ex_is (x_subN (i := 1 + b) (j := 1) (x_var rfl ra) (x_n (n := 1) rfl) (by omega)) (by omega)) (List.getElem?_eq_getElem l1)) (x_ixT (i := 1 + b) (xr rfl e) (x_var rfl ra) (List.getElem?_eq_getElem l2)) ?_
  have := List.pairwise_iff_getElem.mp up b (1 + b) (by unfold MT.keys; rw [List.length_map]; exact l1) (by unfold MT.keys; rw [List.length_map]; exact l2) (by omega)
  unfold MT.keys at this
  rw [List.getElem_map, List.getElem_map] at this
  exact this
theorem putK_new {M : List (Key × V)} {k : Key} {v : V} (h : ∀ p ∈ M, p.1 ≠ k) : putK M k v = M ++ [(k, v)] := by
  unfold putK
  rw [if_neg]
  rw [List.any_eq_true]
  rintro ⟨p, hp, e⟩
  exact h p hp (of_decide_eq_true e)
theorem dcL_nd {fv : Nat → V} : ∀ (xs : List Nat) (M : List (Key × V)), xs.Nodup → (∀ x ∈ xs, ∀ p ∈ M, p.1 ≠ (Sum.inl (x : Int) : Key)) → (xs.foldl (fun M a => putK M (.inl (a : Int)) (fv a)) M).length = M.length + xs.length
  | [], M, _, _ => rfl
  | x :: xs, M, hn, hm => by
    obtain ⟨h1, h2⟩ := List.nodup_cons.mp hn
    rw [List.foldl_cons, putK_new (hm x List.mem_cons_self), dcL_nd xs _ h2 (fun y hy p hp => ?_), List.length_append, List.length_cons, List.length_cons, List.length_nil]
    · omega
    · rcases List.mem_append.mp hp with hp | hp
      · exact hm y (List.mem_cons_of_mem _ hy) p hp
      · rw [List.mem_singleton.mp hp]
        intro e
        have : (x : Int) = (y : Int) := Sum.inl.inj e
        have : x = y := by omega
        exact h1 (this ▸ hy)
theorem x_lenRD {σ : L2.St} {H : Hp} {te : TE} {kvs : List (Key × V)} (h : EvR te σ H (RD kvs)) : EX (tCB rLenD (tCons te tNil)) σ H kvs.length := fun H1 e Q q => h H1 e _ fun v H2 ⟨e2, p, hv, hp, hk⟩ => ⟨p, kvs, by rw [hv], hk, q _ _ ⟨e2, rfl⟩⟩
def sp_are_all_unlike : Sp := sp1 (α := Lst Nat) (fun r => (r : List Nat).Nodup ∧ List.length r ≤ 6) fun _ => RX true
theorem len_are_all_unlike : ∀ vs H Q E, sp_are_all_unlike vs H Q E → vs.length = 1 := sp1_len
theorem sem_are_all_unlike : ∀ vs H Q E, sp_are_all_unlike vs H Q E → t_are_all_unlike K (eN Q) (start ["numbers", "number"] vs) H := fun vs H Q E h => by
  obtain ⟨(r : List Nat), vr, rfl, rr, ⟨nd, h6⟩, q⟩ := h
  have nd : r.Nodup := nd
  have h6 : r.length ≤ 6 := h6
  have hd : EvR (tDc (iList K (tVar 0)) (gName 1) tYes (tVar 1) (tC (.bl true)) [1]) (start ["numbers", "number"] [vr]) H (RD (dcL (fun a : Nat => a) (fun _ => V.bl true) r)) := r_dc (α := Nat) (xs := r) (fun a => a) (fun _ => .bl true) (i_list (α := Nat) (x_var (α := Lst Nat) rfl rr)) (by omega) fun a x H1 hm e ra Q1 k => k _ H1 (Ex.refl _) rfl (x_var (i := 1) rfl ra) ek_c
  have hl : EX (tCB rLenD (tCons (tDc (iList K (tVar 0)) (gName 1) tYes (tVar 1) (tC (.bl true)) [1]) tNil)) (start ["numbers", "number"] [vr]) H r.length := ex_is (x_lenRD hd) (by
    have := dcL_nd (fv := fun _ => V.bl true) r [] nd (fun _ _ p hp => by cases hp)
    unfold dcL
    rw [this, List.length_nil, Nat.zero_add])
  exact q_ret (ex_is (x_eqN hl (x_lenL (α := Nat) (as := r) (x_var (α := Lst Nat) rfl rr))) (decide_eq_true rfl)) q
def sp_is_round_by : Sp := sp2 (α := Tup (Tup Nat)) (β := Tup Pr) (fun T r => ∃ m n k, Tab k T m n ∧ GoodR r m n) fun _ _ => RX true
theorem len_is_round_by : ∀ vs H Q E, sp_is_round_by vs H Q E → vs.length = 2 := sp2_len
theorem sem_is_round_by : ∀ vs H Q E, sp_is_round_by vs H Q E → t_is_round_by K sp_is_pair sp_are_rising sp_are_all_unlike (eN Q) (start ["table", "value", "each", "first", "second"] vs) H := fun vs H Q E h => by
  obtain ⟨(T : List (List Nat)), (r : List Pr), vT, vr, rfl, rT, rr, ⟨m, n, k, hT, g⟩, q⟩ := h
  have g : GoodR r m n := g
  have le := g.le
  have xr : ∀ {σ' : L2.St} {H'}, σ'[1]? = some (some vr) → Ex H H' → ET (α := Pr) (tVar 1) σ' H' r := fun hs e => x_var hs (mn e rr)
  refine z_if (et_or (a := false) (b := false) (et_is (et_not (t_B (x_isi (b := true) (α := Tup Pr) (xr rfl (Ex.refl _)) (ty_tup (by decide +kernel))))) rfl) fun _ => et_or (a := false) (b := false) (et_is (et_not (t_B (x_all (f_lcM (α := Pr) (β := Bool) (fun _ => true) (i_tup (xr rfl (Ex.refl _))) (Nat.le_trans le (by decide)) (fun _ => rfl) fun a x H1 hm e ra => x_call2 (α := Tup (Tup Nat)) (β := Pr) (f := fun _ _ => true) (x_var (i := 0) rfl (mn e rT)) (x_var (i := 2) rfl ra) ⟨m, n, k, hT, g.lt a hm⟩).x))) (by rw [all_true fun _ _ => rfl]; rfl)) fun _ => et_is (et_not (t_B (x_call1 (α := Tup Pr) (f := fun _ => true) (xr rfl (Ex.refl _)) ⟨g.up, g.pos, le⟩))) rfl) (fun z => nomatch z) fun _ H1 e1 => z_next ?_
  have nk : (MT.keys r).Nodup := g.up.imp fun h => Nat.ne_of_lt h
  refine q_ret (ex_is (x_and (x_call1 (α := Lst Nat) (f := fun _ => true) (a := MT.keys r) (f_lcPM (α := Nat) (β := Nat) (γ := Nat) (xs := r) (fun a => a.1) (i_tup (xr rfl e1)) (Nat.le_trans le (by decide)) (fun _ _ => rfl) fun a x y H3 hm e r1 r2 => x_var rfl r1).x (show (MT.keys r).Nodup ∧ (MT.keys r).length ≤ 6 from ⟨nk, by unfold MT.keys; rw [List.length_map]; exact le⟩)) fun _ => x_call1 (α := Lst Nat) (f := fun _ => true) (a := MT.vals r) (f_lcPM (α := Nat) (β := Nat) (γ := Nat) (xs := r) (fun a => a.2) (i_tup (xr rfl e1)) (Nat.le_trans le (by decide)) (fun _ _ => rfl) fun a x y H3 hm e r1 r2 => x_var rfl r2).x (show (MT.vals r).Nodup ∧ (MT.vals r).length ≤ 6 from ⟨g.nd, by unfold MT.vals; rw [List.length_map]; exact le⟩)) rfl) fun v H' r => q v H' (RX.bk.bk e1 r)
end K77

namespace K77
open PySem L2 DL Evl StX
open Arg (rp mn)
open Rep (mt)
open BN (Ord at')
open PL (Pr srt loneF chainF chainsF exchF gr Two tab tl lpF)
variable {K : PySem.W.Frag}

def timesF (V : List (List Pr)) (x : Pr) : Nat := (V.filter fun r => decide (x ∈ r)).length
def sp_times_in : Sp := sp2 (α := Tup (Tup Pr)) (β := Pr) (fun V _ => List.length V ≤ 100) fun V x => RX (timesF V x)
theorem len_times_in : ∀ vs H Q E, sp_times_in vs H Q E → vs.length = 2 := sp2_len
theorem sem_times_in : ∀ vs H Q E, sp_times_in vs H Q E → t_times_in K (eN Q) (start ["plan", "pair", "each"] vs) H := fun vs H Q E h => by
  obtain ⟨(V : List (List Pr)), x, vV, vx, rfl, rV, rx, hl, q⟩ := h
  have hl : V.length ≤ 100 := hl
  refine q_ret (ex_is (x_lenL (α := Tup Pr) (f_lcN (α := Tup Pr) (β := Tup Pr) (xs := V) (fun (r : List Pr) => decide (x ∈ r)) (fun r => r) (i_tup (α := Tup Pr) (x_var (α := Tup (Tup Pr)) rfl rV)) (show V.length ≤ 100000 by omega) (fun _ => rfl) (fun (r : List Pr) y H1 hm e ry => t_test (p_inT (x_var (i := 1) rfl (mn e rx)) (x_var (α := Tup Pr) (i := 2) rfl ry))) fun (r : List Pr) y H1 hm e ry _ => x_var (α := Tup Pr) (i := 2) rfl ry).x) ?_) q
  show ((V.filter fun r => decide (x ∈ r)).map fun r => r).length = timesF V x
  rw [List.map_id']
  rfl
theorem times_two {h : Nat} {q0 q1 : List Nat} (P : Two h q0 q1) {x : Pr} (h1 : x.1 < h) : timesF [gr q0, gr q1] x = tl q0 q1 x.1 x.2 := by
  have l0 := P.O0.len
  have l1 := P.O1.len
  have e0 : decide (x ∈ gr q0) = decide (at' q0 x.1 = x.2) := decide_eq_decide.mpr ⟨fun z => (PL.gr_mem.mp z).2.symm, fun z => PL.gr_mem.mpr ⟨by omega, z.symm⟩⟩
  have e1 : decide (x ∈ gr q1) = decide (at' q1 x.1 = x.2) := decide_eq_decide.mpr ⟨fun z => (PL.gr_mem.mp z).2.symm, fun z => PL.gr_mem.mpr ⟨by omega, z.symm⟩⟩
  unfold timesF tl
  rw [List.filter_cons, List.filter_cons, e0, e1]
  by_cases z0 : at' q0 x.1 = x.2 <;> by_cases z1 : at' q1 x.1 = x.2 <;> simp [z0, z1]
theorem IsPl.rounds {h : Nat} {q0 q1 : List Nat} (P : Two h q0 q1) : ∀ r ∈ [gr q0, gr q1], GoodR r h h := fun r hr => by
  simp only [List.mem_cons, List.not_mem_nil, or_false] at hr
  rcases hr with rfl | rfl
  · exact gr_good P.O0 P.h24
  · exact gr_good P.O1 P.h24
def sp_is_plan_by : Sp := sp2 (α := Tup (Tup Nat)) (β := Tup (Tup Pr)) (fun T V => IsPl T V) fun _ _ => RX true
theorem len_is_plan_by : ∀ vs H Q E, sp_is_plan_by vs H Q E → vs.length = 2 := sp2_len
theorem sem_is_plan_by : ∀ vs H Q E, sp_is_plan_by vs H Q E → t_is_plan_by K sp_is_round_by sp_pairs_of sp_times_in (eN Q) (start ["table", "value", "each", "first", "second"] vs) H := fun vs H Q E hh => by
  obtain ⟨(T : List (List Nat)), (V : List (List Pr)), vT, vV, rfl, rT, rV, ⟨h, q0, q1, P, hT, hV⟩, q⟩ := hh
  have tT := tab_Tab P
  rw [← hT] at tT
  have nc := tab_ncol P
  rw [← hT] at nc
  have tl' : T.length = h := by rw [hT, tab_len]
  have h24 := P.h24
  have vl : V.length = 2 := by rw [hV]; rfl
  have xT : ∀ {σ : L2.St} {H' : Hp}, σ[0]? = some (some vT) → Ex H H' → EX (α := Tup (Tup Nat)) (tVar 0) σ H' T := fun hs e => x_var hs (mn e rT)
  have xV : ∀ {σ : L2.St} {H' : Hp}, σ[1]? = some (some vV) → Ex H H' → EX (α := Tup (Tup Pr)) (tVar 1) σ H' V := fun hs e => x_var hs (mn e rV)
  refine z_if (et_or (a := false) (b := false) (et_is (et_not (t_B (x_isi (b := true) (α := Tup (Tup Pr)) (xV rfl (Ex.refl _)) (ty_tup (α := Tup Pr) (by decide +kernel))))) rfl) fun _ => et_is (et_not (t_B (x_all (f_lcM (α := Tup Pr) (β := Bool) (xs := V) (fun _ => true) (i_tup (α := Tup Pr) (xV rfl (Ex.refl _))) (show V.length ≤ 100000 by omega) (fun _ => rfl) fun (r : List Pr) y H1 hm e ra => x_call2 (α := Tup (Tup Nat)) (β := Tup Pr) (f := fun _ _ => true) (xT rfl e) (x_var (α := Tup Pr) (i := 2) rfl ra) ⟨h, h, 9, tT, IsPl.rounds P r (by rw [← hV]; exact hm)⟩).x))) (congrArg (!·) (all_true (l := V) (f := fun _ => true) fun _ _ => rfl))) (fun z => nomatch z) fun _ H1 e1 => z_next ?_
  refine q_ret (ex_is (x_all (f_lcPM (α := Nat) (β := Nat) (γ := Bool) (xs := pairsF T.length (ncol T)) (fun _ => true) (i_list (α := Pr) (f_call1 (α := Tup (Tup Nat)) (β := Pr) (f := fun T => pairsF (List.length T) (ncol T)) (xT rfl e1) ⟨h, h, 9, tT⟩).x) (by rw [pairsF_len, tl', nc]; rcases h24 with rfl | rfl <;> decide) (fun _ _ => rfl) fun a x y H2 hm e ra rb => ?_).x) (all_true fun _ _ => rfl)) fun v H' r => q v H' (RX.bk.bk e1 r)
  obtain ⟨a1, a2⟩ := a
  obtain ⟨h1, h2⟩ := pairsF_mem.mp hm
  rw [tl'] at h1
  rw [nc] at h2
  have h1 : a1 < h := h1
  have h2 : a2 < h := h2
  have hr : T[a1]? = some ((List.range h).map fun b => tl q0 q1 a1 b) := by rw [hT, tab_get h1]
  have ht : timesF V (a1, a2) = tl q0 q1 a1 a2 := by rw [hV, times_two P h1]
  refine ex_is (x_eqN (i := timesF V (a1, a2)) (j := tl q0 q1 a1 a2) (x_call2 (α := Tup (Tup Pr)) (β := Pr) (γ := Nat) (f := fun V x => timesF V x) (xV rfl (e1.trans e)) (x_pair (α := Nat) (β := Nat) (x_var (a := a1) (i := 3) rfl ra) (x_var (a := a2) (i := 4) rfl rb)) (show V.length ≤ 100 by omega)) (x_ixT (α := Nat) (t := (List.range h).map fun b => tl q0 q1 a1 b) (i := a2) (x_ixT (α := Tup Nat) (t := T) (i := a1) (xT rfl (e1.trans e)) (x_var (i := 3) rfl ra) hr) (x_var (i := 4) rfl rb) (tab_at h2))) (decide_eq_true ht)
def sp_check_plan : Sp := sp2 (α := Tup (Tup Nat)) (β := Tup (Tup Pr)) (fun T V => IsPl T V) fun _ _ => RN
theorem len_check_plan : ∀ vs H Q E, sp_check_plan vs H Q E → vs.length = 2 := sp2_len
theorem sem_check_plan : ∀ vs H Q E, sp_check_plan vs H Q E → t_check_plan K sp_is_plan_by (eN Q) (start ["table", "value"] vs) H := fun vs H Q E hh => by
  obtain ⟨T, V, vT, vV, rfl, rT, rV, hp, q⟩ := hh
  exact z_if (et_is (et_not (t_B (x_call2 (f := fun _ _ => true) (x_var rfl rT) (x_var rfl rV) hp))) rfl) (fun z => nomatch z) fun _ H1 e1 => z_next (q _ H1 ⟨e1, rfl⟩)
def sp_check_times : Sp := sp3 (α := Int) (β := Int) (γ := Int) (fun v lo hi => lo ≤ v ∧ v ≤ hi) fun _ _ _ => RN
theorem len_check_times : ∀ vs H Q E, sp_check_times vs H Q E → vs.length = 3 := sp3_len
theorem sem_check_times : ∀ vs H Q E, sp_check_times vs H Q E → t_check_times K sp_is_between (eN Q) (start ["value", "low", "high"] vs) H := fun vs H Q E hh => by
  obtain ⟨v, lo, hi, vv, vl, vh, rfl, rv, rl, rh, ⟨h1, h2⟩, q⟩ := hh
  exact z_if (b := false) (et_is (et_not (t_B (x_call3 (α := Int) (β := Int) (γ := Int) (pre := fun _ _ _ => True) (f := fun (v lo hi : Int) => decide (lo ≤ v) && decide (v ≤ hi)) (x_var rfl rv) (x_var rfl rl) (x_var rfl rh) True.intro))) (by rw [decide_eq_true h1, decide_eq_true h2]; rfl)) (fun z => nomatch z) fun _ H1 e1 => z_next (q _ H1 ⟨e1, rfl⟩)
theorem IsPl.tbl {T : List (List Nat)} {V : List (List Pr)} (h : IsPl T V) : Tbl T := by
  obtain ⟨h, q0, q1, P, rfl, _⟩ := h
  exact tab_Tbl P
def sp_is_plan : Sp := sp2 (α := Tup (Tup Nat)) (β := Tup (Tup Pr)) (fun T V => IsPl T V) fun _ _ => RX true
theorem len_is_plan : ∀ vs H Q E, sp_is_plan vs H Q E → vs.length = 2 := sp2_len
theorem sem_is_plan : ∀ vs H Q E, sp_is_plan vs H Q E → t_is_plan K sp_check_table sp_is_plan_by (eN Q) (start ["table", "value"] vs) H := fun vs H Q E hh => by
  obtain ⟨T, V, vT, vV, rfl, rT, rV, hp, q⟩ := hh
  exact q_drop (r_call1 (α := Tup (Tup Nat)) (R := fun _ => RN) (pre := fun T => Tbl T) (fun _ => RN.bk) (x_var rfl rT) (IsPl.tbl hp)) fun v H1 r => q_ret (x_call2 (f := fun _ _ => true) (x_var rfl (mn r.1 rT)) (x_var rfl (mn r.1 rV)) hp) fun v H2 r2 => q v H2 (RX.bk.bk r.1 r2)
def sp_check_planned : Sp := sp2 (α := Tup (Tup Nat)) (β := Tup (Tup Pr)) (fun T V => IsPl T V) fun _ _ => RN
theorem len_check_planned : ∀ vs H Q E, sp_check_planned vs H Q E → vs.length = 2 := sp2_len
theorem sem_check_planned : ∀ vs H Q E, sp_check_planned vs H Q E → t_check_planned K sp_check_table sp_check_plan (eN Q) (start ["table", "plan"] vs) H := fun vs H Q E hh => by
  obtain ⟨T, V, vT, vV, rfl, rT, rV, hp, q⟩ := hh
  exact q_drop (r_call1 (α := Tup (Tup Nat)) (R := fun _ => RN) (pre := fun T => Tbl T) (fun _ => RN.bk) (x_var rfl rT) (IsPl.tbl hp)) fun v H1 r => q_drop (r_call2 (R := fun _ _ => RN) (fun _ _ => RN.bk) (x_var rfl (mn r.1 rT)) (x_var rfl (mn r.1 rV)) hp) fun v H2 r2 => q _ H2 ⟨r.1.trans r2.1, rfl⟩
def sp_check_two : Sp := sp4 (α := Tup (Tup Nat)) (β := Tup (Tup Pr)) (γ := Nat) (δ := Nat) (fun T V i j => IsPl T V ∧ i = 0 ∧ j = 1) fun _ _ _ _ => RN
theorem len_check_two : ∀ vs H Q E, sp_check_two vs H Q E → vs.length = 4 := sp4_len
theorem IsPl.vlen {T : List (List Nat)} {V : List (List Pr)} (h : IsPl T V) : V.length = 2 := by
  obtain ⟨h, q0, q1, P, _, rfl⟩ := h
  rfl
theorem sem_check_two : ∀ vs H Q E, sp_check_two vs H Q E → t_check_two K sp_check_planned sp_check_times (eN Q) (start ["table", "plan", "one", "two"] vs) H := fun vs H Q E hh => by
  obtain ⟨T, (V : List (List Pr)), i, j, vT, vV, vi, vj, rfl, rT, rV, ri, rj, ⟨hp, rfl, rfl⟩, q⟩ := hh
  have vl := IsPl.vlen hp
  refine q_drop (r_call2 (R := fun _ _ => RN) (fun _ _ => RN.bk) (x_var rfl rT) (x_var rfl rV) hp) fun v H1 r1 => ?_
  refine q_drop (r_call3 (α := Int) (β := Int) (γ := Int) (R := fun _ _ _ => RN) (pre := fun v lo hi => lo ≤ v ∧ v ≤ hi) (fun _ _ _ => RN.bk) (a := ((0 : Nat) : Int)) (b := 0) (c := (V.length : Int) - 1) (x_ni (x_var (i := 2) rfl (mn r1.1 ri))) x_i (x_sub (x_ni (x_lenT (α := Tup Pr) (as := V) (x_var (i := 1) rfl (mn r1.1 rV)))) (x_i (i := 1))) ⟨by omega, by omega⟩) fun v H2 r2 => ?_
  have e2 := r1.1.trans r2.1
  refine q_drop (r_call3 (α := Int) (β := Int) (γ := Int) (R := fun _ _ _ => RN) (pre := fun v lo hi => lo ≤ v ∧ v ≤ hi) (fun _ _ _ => RN.bk) (a := ((1 : Nat) : Int)) (b := 0) (c := (V.length : Int) - 1) (x_ni (x_var (i := 3) rfl (mn e2 rj))) x_i (x_sub (x_ni (x_lenT (α := Tup Pr) (as := V) (x_var (i := 1) rfl (mn e2 rV)))) (x_i (i := 1))) ⟨by omega, by omega⟩) fun v H3 r3 => ?_
  have e3 := e2.trans r3.1
  exact z_if (t_test (x_eqN (i := 0) (j := 1) (x_var (i := 2) rfl (mn e3 ri)) (x_var (i := 3) rfl (mn e3 rj)))) (fun z => nomatch z) fun _ H4 e4 => z_next (q _ H4 ⟨e3.trans e4, rfl⟩)
def sp_chains : Sp := sp4 (α := Tup (Tup Nat)) (β := Tup (Tup Pr)) (γ := Nat) (δ := Nat) (fun T V i j => IsPl T V ∧ i = 0 ∧ j = 1) fun _ (V : List (List Pr)) _ _ => RX (α := Tup (Tup Pr)) (chainsF (V.getD 0 []) (V.getD 1 []))
theorem len_chains : ∀ vs H Q E, sp_chains vs H Q E → vs.length = 4 := sp4_len
theorem sem_chains : ∀ vs H Q E, sp_chains vs H Q E → t_chains K sp_check_two sp_chains_by (eN Q) (start ["table", "plan", "one", "two"] vs) H := fun vs H Q E hh => by
  obtain ⟨T, (V : List (List Pr)), i, j, vT, vV, vi, vj, rfl, rT, rV, ri, rj, ⟨hp, rfl, rfl⟩, q⟩ := hh
  exact q_drop (r_call4 (R := fun _ _ _ _ => RN) (fun _ _ _ _ => RN.bk) (x_var rfl rT) (x_var rfl rV) (x_var rfl ri) (x_var rfl rj) ⟨hp, rfl, rfl⟩) fun v H1 r1 => q_ret (x_call3 (α := Tup (Tup Pr)) (β := Nat) (γ := Nat) (δ := Tup (Tup Pr)) (f := fun (V : List (List Pr)) _ _ => chainsF (V.getD 0 []) (V.getD 1 [])) (x_var rfl (mn r1.1 rV)) (x_var rfl (mn r1.1 ri)) (x_var rfl (mn r1.1 rj)) (IsPl.ok hp)) fun v H2 r2 => q v H2 (RX.bk.bk r1.1 r2)
def sp5 {α β γ δ ε : Type} [Arg α] [Arg β] [Arg γ] [Arg δ] [Arg ε] (pre : α → β → γ → δ → ε → Prop) (R : α → β → γ → δ → ε → Res) : Sp := fun vs H Q _ => ∃ (a : α) (b : β) (c : γ) (d : δ) (f : ε) (va vb vc vd vf : L2.V), vs = [va, vb, vc, vd, vf] ∧ rp a va H ∧ rp b vb H ∧ rp c vc H ∧ rp d vd H ∧ rp f vf H ∧ pre a b c d f ∧ ∀ v H', R a b c d f H v H' → Q v H'
theorem sp5_len {α β γ δ ε : Type} [Arg α] [Arg β] [Arg γ] [Arg δ] [Arg ε] {pre : α → β → γ → δ → ε → Prop} {R : α → β → γ → δ → ε → Res} : ∀ vs H Q E, sp5 pre R vs H Q E → vs.length = 5 := fun vs H Q E ⟨a, b, c, d, f, va, vb, vc, vd, vf, e, _⟩ => by rw [e]; rfl
theorem r_call5 {α β γ δ ε : Type} [Arg α] [Arg β] [Arg γ] [Arg δ] [Arg ε] {σ : L2.St} {H : Hp} {ta tb tc td tf : TE} {E : XK} {pre : α → β → γ → δ → ε → Prop} {R : α → β → γ → δ → ε → Res} (bk : ∀ a b c d f, Bk (R a b c d f)) {a : α} {b : β} {c : γ} {d : δ} {f : ε} (ha : EX ta σ H a) (hb : EX tb σ H b) (hc : EX tc σ H c) (hd : EX td σ H d) (hf : EX tf σ H f) (hp : pre a b c d f) : EvR (tCall (sp5 pre R) [] E (tCons ta (tCons tb (tCons tc (tCons td (tCons tf tNil)))))) σ H (R a b c d f) := fun H1 e Q q =>
  ha H1 e _ fun v H2 ⟨e2, r2⟩ => hb H2 (e.trans e2) _ fun u H3 ⟨e3, r3⟩ => hc H3 ((e.trans e2).trans e3) _ fun w H4 ⟨e4, r4⟩ => hd H4 (((e.trans e2).trans e3).trans e4) _ fun x H5 ⟨e5, r5⟩ => hf H5 ((((e.trans e2).trans e3).trans e4).trans e5) _ fun y H6 ⟨e6, r6⟩ => ⟨a, b, c, d, f, v, u, w, x, y, rfl, mn (((e3.trans e4).trans e5).trans e6) r2, mn ((e4.trans e5).trans e6) r3, mn (e5.trans e6) r4, mn e6 r5, r6, hp, fun v' H' z => q v' H' ((bk a b c d f).bk ((((e2.trans e3).trans e4).trans e5).trans e6) z)⟩
def sp_exchanged : Sp := sp5 (α := Tup (Tup Nat)) (β := Tup (Tup Pr)) (γ := Nat) (δ := Nat) (ε := Tup Pr) (fun T (V : List (List Pr)) i j (c : List Pr) => IsPl T V ∧ i = 0 ∧ j = 1 ∧ c ∈ chainsF (V.getD 0 []) (V.getD 1 [])) fun _ (V : List (List Pr)) _ _ c => RX (α := Tup (Tup Pr)) ([exchF (V.getD 0 []) c, exchF (V.getD 1 []) c] : List (List Pr))
theorem len_exchanged : ∀ vs H Q E, sp_exchanged vs H Q E → vs.length = 5 := sp5_len
theorem sem_exchanged : ∀ vs H Q E, sp_exchanged vs H Q E → t_exchanged K sp_check_two sp_is_chain sp_exchanged_by (eN Q) (start ["table", "plan", "one", "two", "chain"] vs) H := fun vs H Q E hh => by
  obtain ⟨T, (V : List (List Pr)), i, j, (c : List Pr), vT, vV, vi, vj, vc, rfl, rT, rV, ri, rj, rc, ⟨hp, rfl, rfl, hc⟩, q⟩ := hh
  have sm := IsPl.small hp
  refine q_drop (r_call4 (R := fun _ _ _ _ => RN) (fun _ _ _ _ => RN.bk) (x_var rfl rT) (x_var rfl rV) (x_var rfl ri) (x_var rfl rj) ⟨hp, rfl, rfl⟩) fun v H1 r1 => ?_
  refine z_if (et_is (et_not (t_B (r_call4 (α := Tup (Tup Pr)) (β := Nat) (γ := Nat) (δ := Tup Pr) (R := fun _ _ _ _ => RX true) (fun _ _ _ _ => RX.bk) (x_var (α := Tup (Tup Pr)) (a := V) (i := 1) rfl (mn r1.1 rV)) (x_var (i := 2) rfl (mn r1.1 ri)) (x_var (i := 3) rfl (mn r1.1 rj)) (x_var (α := Tup Pr) (a := c) (i := 4) rfl (mn r1.1 rc)) ⟨IsPl.ok hp, hc, sm⟩))) rfl) (fun z => nomatch z) fun _ H2 e2 => z_next ?_
  have e := r1.1.trans e2
  exact q_ret (r_call4 (α := Tup (Tup Pr)) (β := Nat) (γ := Nat) (δ := Tup Pr) (R := fun (V : List (List Pr)) _ _ c => RX (α := Tup (Tup Pr)) ([exchF (V.getD 0 []) c, exchF (V.getD 1 []) c] : List (List Pr))) (fun _ _ _ _ => RX.bk) (x_var (α := Tup (Tup Pr)) (a := V) (i := 1) rfl (mn e rV)) (x_var (i := 2) rfl (mn e ri)) (x_var (i := 3) rfl (mn e rj)) (x_var (α := Tup Pr) (a := c) (i := 4) rfl (mn e rc)) ⟨IsPl.ok hp, (sm c hc).1⟩) fun v H3 r3 => q v H3 (RX.bk.bk e r3)
/-! ### the law's plans -/
theorem flat_le {α β : Type} {g : α → List β} {c : Nat} : ∀ (l : List α), (∀ x ∈ l, (g x).length ≤ c) → (l.flatMap g).length ≤ l.length * c
  | [], _ => Nat.zero_le _
  | x :: l, h => by
    rw [List.flatMap_cons, List.length_append, List.length_cons, Nat.succ_mul]
    have := flat_le l fun y hy => h y (List.mem_cons_of_mem _ hy)
    have := h x List.mem_cons_self
    omega
def sp__law_pairs : Sp := sp1 (α := Tup (Tup Nat)) (fun T => ∃ h p0 p1, Two h p0 p1 ∧ T = tab h p0 p1) fun T H v H' => ∃ h p0 p1, T = tab h p0 p1 ∧ RF (α := Pr) (lpF h (tl p0 p1)) H v H'
theorem len__law_pairs : ∀ vs H Q E, sp__law_pairs vs H Q E → vs.length = 1 := sp1_len
theorem flat_snoc {β : Type} (g : Nat → List β) (i : Nat) : (List.range (i + 1)).flatMap g = (List.range i).flatMap g ++ g i := by
  rw [List.range_succ, List.flatMap_append]
  simp
theorem sem__law_pairs : ∀ vs H Q E, sp__law_pairs vs H Q E → t__law_pairs K (eN Q) (start ["table", "found", "i", "j"] vs) H := fun vs H Q E hh => by
  obtain ⟨(T : List (List Nat)), vT, rfl, rT, ⟨h, p0, p1, P, hT⟩, q⟩ := hh
  have h24 := P.h24
  have tl' : T.length = h := by rw [hT, tab_len]
  have xT : ∀ {σ : L2.St} {H' : Hp}, σ[0]? = some (some vT) → Ex H H' → EX (α := Tup (Tup Nat)) (tVar 0) σ H' T := fun hs e => x_var hs (mn e rT)
  have hr : ∀ {a : Nat}, a < h → T[a]? = some ((List.range h).map fun b => tl p0 p1 a b) := fun ha => by rw [hT, tab_get ha]
  have rl : ∀ a n, ((List.range n).flatMap fun b => List.replicate (tl p0 p1 a b) (a, b)).length ≤ n * 2 := fun a n => by
    have := flat_le (g := fun b => List.replicate (tl p0 p1 a b) (a, b)) (c := 2) (List.range n) fun b _ => by
      rw [List.length_replicate]
      exact PL.tl_le p0 p1 a b
    rwa [List.length_range] at this
  have rl2 : ∀ n, n ≤ h → ((List.range n).flatMap fun a => (List.range h).flatMap fun b => List.replicate (tl p0 p1 a b) (a, b)).length ≤ 32 := fun n hn => by
    have := flat_le (g := fun a => (List.range h).flatMap fun b => List.replicate (tl p0 p1 a b) (a, b)) (c := 8) (List.range n) fun a _ => Nat.le_trans (rl a h) (by omega)
    rw [List.length_range] at this
    omega
  refine q_set (f_lst (α := Pr) (as := []) xs_nil (Nat.zero_le _)) fun v H1 r1 => ?_
  obtain ⟨p, rfl, hp, e1, ho⟩ := Own.of r1
  refine z_for (α := Nat) (xs := List.range h) (i_rng (ex_is (x_lenT (α := Tup Nat) (as := T) (xT rfl e1)) tl') (by omega)) (fun i σ' H' => ∃ p y2 y3, σ' = [some vT, some (.ref p), y2, y3] ∧ H p = none ∧ Ex H H' ∧ Own (α := Pr) p ((List.range i).flatMap fun a => (List.range h).flatMap fun b => List.replicate (tl p0 p1 a b) (a, b)) H') (fun H2 e2 => ⟨p, none, none, rfl, hp, e1.trans e2, ho.ex e2⟩) (fun i a x σ' H0 H' hi e2 hP e3 ra N hN => ?_) fun σ' H' e2 hP => ?_
  · obtain ⟨p, y2, y3, rfl, hp, e0, ho⟩ := hP
    have hih : i < h := by
      have := (List.getElem?_eq_some_iff.mp hi).1
      rwa [List.length_range] at this
    have ea : a = i := by
      rw [List.getElem?_range hih] at hi
      exact (Option.some.inj hi).symm
    subst ea
    have E0 := e0.trans e3
    refine z_for (α := Nat) (xs := List.range h) (i_rng (ex_is (x_lenT (α := Nat) (as := (List.range h).map fun b => tl p0 p1 0 b) (x_ixT (α := Tup Nat) (t := T) (i := 0) (xT rfl E0) (x_n (n := 0) rfl) (hr (by omega)))) (by rw [List.length_map, List.length_range])) (by omega)) (fun j σ' H' => ∃ p y3, σ' = [some vT, some (.ref p), some x, y3] ∧ H p = none ∧ Ex H H' ∧ Own (α := Pr) p (((List.range a).flatMap fun a => (List.range h).flatMap fun b => List.replicate (tl p0 p1 a b) (a, b)) ++ (List.range j).flatMap fun b => List.replicate (tl p0 p1 a b) (a, b)) H') (fun H2 e4 => ⟨p, y3, rfl, hp, E0.trans e4, by
      rw [List.range_zero, List.flatMap_nil, List.append_nil]
      exact ho.ex (e3.trans e4)⟩) (fun j b y σ3 H3 H4 hj e4 hP e5 rb N2 hN2 => ?_) fun σ3 H3 e4 hP => ?_
    · obtain ⟨p, y3, rfl, hp, e6, ho⟩ := hP
      have hjh : j < h := by
        have := (List.getElem?_eq_some_iff.mp hj).1
        rwa [List.length_range] at this
      have eb : b = j := by
        rw [List.getElem?_range hjh] at hj
        exact (Option.some.inj hj).symm
      subst eb
      have E6 := e6.trans e5
      have ra6 := mn (e4.trans e5) ra
      have ll := rl2 a (Nat.le_of_lt hih)
      have l2 := rl a b
      have tle := PL.tl_le p0 p1 a b
      refine q_set (f_cat (α := Pr) (x_var (α := Lst Pr) (i := 1) rfl (ho.ex e5).rp) (f_rep1 (α := Pr) (a := (a, b)) (n := tl p0 p1 a b) (x_pair (α := Nat) (β := Nat) (x_var (a := a) (i := 2) rfl ra6) (x_var (a := b) (i := 3) rfl rb)) (x_ixT (α := Nat) (t := (List.range h).map fun b => tl p0 p1 a b) (i := b) (x_ixT (α := Tup Nat) (t := T) (i := a) (xT rfl E6) (x_var (i := 2) rfl ra6) (hr hih)) (x_var (i := 3) rfl rb) (tab_at hjh)) (by omega)).x (by rw [List.length_append, List.length_replicate]; omega)) fun v5 H5 r5 => ?_
      obtain ⟨p5, rfl, hp5, e7, ho5⟩ := Own.of r5
      refine hN2 _ _ e7 ⟨p5, _, rfl, fresh_back E6 hp5, E6.trans e7, ?_⟩
      rw [flat_snoc (fun b => List.replicate (tl p0 p1 a b) (a, b)) b, ← List.append_assoc]
      exact ho5
    · obtain ⟨p, y3, rfl, hp, e6, ho⟩ := hP
      rw [List.length_range] at ho
      refine hN _ _ e4 ⟨p, _, _, rfl, hp, e6, ?_⟩
      rw [flat_snoc (fun a => (List.range h).flatMap fun b => List.replicate (tl p0 p1 a b) (a, b)) a]
      exact ho
  · obtain ⟨p, y2, y3, rfl, hp, e0, ho⟩ := hP
    rw [List.length_range] at ho
    obtain ⟨us, g1, g2⟩ := ho
    exact ⟨.ref p, rfl, q _ H' ⟨h, p0, p1, hT, e0, p, us, rfl, hp, g1, g2⟩⟩
end K77

/-! DlB: dicts whose keys are tuples of numbers; bits; sorted numbers; locks around loops. -/
namespace DL
open PySem L2 Evl StX PyProof.Rows
open Arg (rp mn)
open Rep (mt)
def WD := List (List Nat × Nat)
def keyT (k : List Nat) : List Key := k.map fun n : Nat => (Sum.inl (n : Int) : Key)
def dtt (W : List (List Nat × Nat)) : List (List Key × V) := W.map fun p => (keyT p.1, V.int (p.2 : Int))
instance argWD : Arg WD := ⟨fun W v H => ∃ a, v = .ref a ∧ H a = some (.dT (dtt W)), fun e h => let ⟨a, h1, h2⟩ := h; ⟨a, h1, e _ _ h2⟩⟩
theorem keyT_kV (k : List Nat) : (keyT k).map kV = (k.map fun n : Nat => (n : Int)).map V.int := by
  unfold keyT
  rw [List.map_map, List.map_map]
  rfl
theorem keyT_inj {k l : List Nat} : keyT k = keyT l ↔ k = l := by
  constructor
  · intro h
    induction k generalizing l with
    | nil =>
      cases l with
      | nil => rfl
      | cons b l => cases h
    | cons a k ih =>
      cases l with
      | nil => cases h
      | cons b l =>
        have h1 := List.cons.inj h
        have h2 : (a : Int) = (b : Int) := Sum.inl.inj h1.1
        rw [ih h1.2, show a = b by omega]
  · intro h
    rw [h]
def getT (W : List (List Nat × Nat)) (k : List Nat) : Option Nat := (W.find? fun p => decide (p.1 = k)).map (·.2)
def putT (W : List (List Nat × Nat)) (k : List Nat) (v : Nat) : List (List Nat × Nat) := if (W.any fun p => decide (p.1 = k)) = true then W.map (fun p => if p.1 = k then (p.1, v) else p) else W ++ [(k, v)]
theorem dtt_val (W : List (List Nat × Nat)) (k : List Nat) : valV (dtt W) (keyT k) = (getT W k).map fun n : Nat => V.int (n : Int) := by
  induction W with
  | nil => rfl
  | cons p W ih =>
    show valV ((keyT p.1, V.int (p.2 : Int)) :: dtt W) (keyT k) = _
    unfold getT
    rw [List.find?_cons]
    by_cases e : p.1 = k
    · rw [valV_pos (keyT_inj.mpr e)]
      simp [e]
    · rw [valV_neg (fun z => e (keyT_inj.mp z)), ih]
      simp [e, getT]
theorem dtt_put (W : List (List Nat × Nat)) (k : List Nat) (v : Nat) : putK (dtt W) (keyT k) (V.int (v : Int)) = dtt (putT W k v) := by
  have h1 : ((dtt W).any fun kv => decide (kv.1 = keyT k)) = W.any fun p => decide (p.1 = k) := by
    unfold dtt
    rw [List.any_map]
    congr 1
    funext p
    exact decide_eq_decide.mpr keyT_inj
  unfold putK putT
  rw [h1]
  split
  · unfold dtt
    rw [List.map_map, List.map_map]
    refine List.map_congr_left fun p _ => ?_
    show (if keyT p.1 = keyT k then _ else _) = (fun p : List Nat × Nat => (keyT p.1, V.int (p.2 : Int))) (if p.1 = k then (p.1, v) else p)
    by_cases e : p.1 = k
    · rw [if_pos (keyT_inj.mpr e), if_pos e]
    · rw [if_neg (fun z => e (keyT_inj.mp z)), if_neg e]
  · simp [dtt]
theorem dtt_len (W : List (List Nat × Nat)) : (dtt W).length = W.length := List.length_map ..
theorem putT_len (W : List (List Nat × Nat)) (k : List Nat) (v : Nat) : (putT W k v).length ≤ W.length + 1 := by
  unfold putT
  split
  · rw [List.length_map]; omega
  · rw [List.length_append]; exact Nat.le_refl _
/-- a key's tuple -/
theorem rp_key {k : List Nat} {v : V} {H : Hp} (r : rp (α := Tup Nat) k v H) : ∃ b, v = .ref b ∧ H b = some (.tup ((keyT k).map kV)) := by
  obtain ⟨b, vs, h1, h2, h3⟩ := r
  rw [its_nat h3] at h2
  exact ⟨b, h1, by rw [keyT_kV]; exact h2⟩
theorem key_rp {k : List Nat} {b : Addr} {H : Hp} (h : H b = some (.tup ((keyT k).map kV))) : rp (α := Tup Nat) k (.ref b) H := ⟨b, _, rfl, by rw [← keyT_kV]; exact h, of_nats k⟩
section
variable {K : PySem.W.Frag} {σ : L2.St} {H H' : Hp} {ta tb te tc td ty tv : TE} {α β : Type} {nx bk ct : L2.St → Hp → Prop} {rt : VK}
theorem x_dget2T {i : Nat} {d : Addr} {F : List (List Nat × Nat)} {k : List Nat} (hv : σ[i]? = some (some (.ref d))) (hd : H d = some (.dT (dtt F))) (hk : ET (α := Nat) ty σ H k) : EX (tDGet2 (tVar i) ty (tC (.int 0))) σ H ((getT F k).getD 0) := fun H1 e Q q =>
  ⟨.ref d, hv, d, rfl, .inr ⟨_, .inl (e _ _ hd)⟩, hk H1 e _ fun v H2 ⟨e2, r2⟩ => by
    obtain ⟨b, rfl, hb⟩ := rp_key r2
    refine ⟨_, DGet.t ((e.trans e2) _ _ hd) hb, q _ _ ⟨e2, ?_⟩⟩
    rw [dtt_val]
    cases getT F k <;> rfl⟩
theorem z_dputT {i : Nat} {d : Addr} {F : List (List Nat × Nat)} {k : List Nat} {n : Nat} (hv : σ[i]? = some (some (.ref d))) (hd : H d = some (.dT (dtt F))) (hn : EX tv σ H n) (hk : ET (α := Nat) ty σ H k) (hl : F.length < 1000) (q : ∀ H1, Ex H H1 → nx σ (upd H1 d (.dT (dtt (putT F k n))))) : sDPut (tVar i) ty tv ⟨nx, rt, bk, ct⟩ σ H :=
  hn H (Ex.refl H) _ fun v H1 ⟨e1, r1⟩ => ⟨.ref d, hv, hk H1 e1 _ fun u H2 ⟨e2, r2⟩ => by
    obtain ⟨b, rfl, hb⟩ := rp_key r2
    have r1 : v = .int (n : Int) := r1
    subst r1
    refine ⟨d, _, rfl, DPut.t ((e1.trans e2) _ _ hd) hb (sz_lt (by rw [dtt_len]; omega)), ?_⟩
    rw [dtt_put]
    exact q H2 (e1.trans e2)⟩
/-- a new dict with one pair -/
def EW (te : TE) (σ : L2.St) (H : Hp) (W : List (List Nat × Nat)) : Prop := EvR te σ H fun H v H' => Ex H H' ∧ ∃ p, v = .ref p ∧ H p = none ∧ H' p = some (.dT (dtt W))
theorem w_new : EW tDNewT σ H [] := fun H1 e Q q p hp => q _ _ ⟨Ex.new hp, p, rfl, hp, upd_same⟩
theorem w_disp1 {k : List Nat} {n : Nat} (hk : ∀ H1, Ex H H1 → ET (α := Nat) ta σ H1 k) (hn : ∀ H1, Ex H H1 → EX tb σ H1 n) : EW (tDisp1T ta tb) σ H [(k, n)] := fun H1 e Q q p hp =>
  hk _ (e.trans (Ex.new hp)) _ (Ex.refl _) _ fun v H2 ⟨e2, r2⟩ => hn _ ((e.trans (Ex.new hp)).trans e2) _ (Ex.refl _) _ fun u H3 ⟨e3, r3⟩ => by
    obtain ⟨b, rfl, hb⟩ := rp_key (mn e3 r2)
    have r3 : u = .int (n : Int) := r3
    subst r3
    refine ⟨b, keyT k, rfl, hb, (e2.trans e3) _ _ upd_same, q _ _ ⟨?_, p, rfl, hp, upd_same⟩⟩
    exact Ex.mut ((Ex.new hp).trans (e2.trans e3)) hp
theorem dtt_vals (W : List (List Nat × Nat)) : (dtt W).map (·.2) = ((W.map (·.2)).map fun n : Nat => (n : Int)).map V.int := by
  unfold dtt
  rw [List.map_map, List.map_map, List.map_map]
  rfl
theorem sum_castT (l : List Nat) : (l.map fun n : Nat => (n : Int)).sum = ((l.sum : Nat) : Int) := by
  induction l with
  | nil => rfl
  | cons a l ih =>
    rw [List.map_cons, List.sum_cons, ih, List.sum_cons]
    omega
theorem x_sumVals {W : WD} (h : EX ta σ H W) : EX (tSumValsT ta) σ H (List.map (·.2) (W : List (List Nat × Nat))).sum := fun H1 e Q q => h H1 e _ fun v H2 ⟨e2, a, hv, ha⟩ =>
  ⟨a, dtt W, (List.map (·.2) (W : List (List Nat × Nat))).map fun n : Nat => (n : Int), hv, ha, dtt_vals W, q _ _ ⟨e2, congrArg V.int (sum_castT _)⟩⟩
/-- the pairs of a locked dict -/
theorem is_itemsT {d : Addr} {od : Obj} {W : List (List Nat × Nat)} {i : Nat} {ps : List Addr} (hv : σ[i]? = some (some (.ref d))) (hd : H d = some (.frz od (.dT (dtt W)))) (hn : d ∉ ps) (hp : ∀ p ∈ ps, ∃ o, H p = some o ∧ ∀ xs, o ≠ .tup xs) : EvIs (α := Tup Nat × Nat) (iItemsT (tVar i)) σ H ps W := fun H1 e R q => by
  refine ⟨.ref d, hv, d, od, dtt W, rfl, e _ _ hd, q _ _ (Ex.refl _) ⟨fun j H3 e3 hj => ⟨e3 _ _ (by rw [mks_out hn]; exact e _ _ hd), by rw [dtt_len]; exact hj⟩, fun H3 e3 => ⟨e3 _ _ (by rw [mks_out hn]; exact e _ _ hd), Nat.le_of_eq (dtt_len W)⟩, fun j H3 x H4 e3 hj y => ?_⟩⟩
  obtain ⟨T, k, v, b, h1, rfl, hb, hT, rfl⟩ := y
  have hj' : j < List.length (α := List Nat × Nat) W := hj
  have h1 : (dtt W)[j]? = some (k, v) := h1
  unfold dtt at h1
  rw [List.getElem?_map, List.getElem?_eq_getElem hj'] at h1
  obtain ⟨k1, k2⟩ := Prod.mk.inj (Option.some.inj h1)
  subst k1 k2
  exact ⟨Ex.new hT, _, List.getElem?_eq_getElem hj', T, .ref b, _, rfl, upd_same, key_rp (Ex.new hT _ _ hb), rfl⟩
/-! ### bits -/
theorem x_andN {i j : Nat} (ha : EX ta σ H i) (hb : EX tb σ H j) : EX (tOp oAnd ta tb) σ H (i &&& j) := x_I0 (i := (i : Int)) (j := (j : Int)) ha hb fun _ => (show V.int (Builtin.bitAnd (i : Int) (j : Int)) = V.int ((i &&& j : Nat) : Int) by
  rw [bitAnd_pp (by omega) (by omega)]
  rfl)
theorem x_orN {i j : Nat} (ha : EX ta σ H i) (hb : EX tb σ H j) : EX (tOp oOr ta tb) σ H (i ||| j) := x_I0 (i := (i : Int)) (j := (j : Int)) ha hb fun _ => (show V.int (Builtin.bitOr (i : Int) (j : Int)) = V.int ((i ||| j : Nat) : Int) by
  rw [Bits.bitOr_pp (by omega) (by omega)]
  rfl)
theorem x_shl1 {j : Nat} (ha : EX ta σ H (1 : Nat)) (hb : EX tb σ H j) (hj : j ≤ 100) : EX (tOp oShl ta tb) σ H (1 <<< j) := x_I (i := ((1 : Nat) : Int)) (j := (j : Int)) (C := CPow) ha hb ⟨by omega, by omega, by decide⟩ fun _ => (show V.int (((1 : Nat) : Int) * 2 ^ ((j : Int)).toNat) = V.int ((1 <<< j : Nat) : Int) by
  rw [Int.toNat_natCast, Nat.shiftLeft_eq]
  simp)
/-! ### sorted numbers -/
def insN (x : Nat) : List Nat → List Nat
  | [] => [x]
  | y :: l => if x ≤ y then x :: y :: l else y :: insN x l
def srtN : List Nat → List Nat
  | [] => []
  | x :: l => insN x (srtN l)
theorem insN_perm (x : Nat) : ∀ l, (insN x l).Perm (x :: l)
  | [] => List.Perm.refl _
  | y :: l => by
    unfold insN
    split
    · exact List.Perm.refl _
    · exact ((insN_perm x l).cons y).trans (List.Perm.swap x y l)
theorem srtN_perm : ∀ l, (srtN l).Perm l
  | [] => List.Perm.refl _
  | x :: l => (insN_perm x _).trans ((srtN_perm l).cons x)
theorem insN_pw (x : Nat) : ∀ l, l.Pairwise (· ≤ ·) → (insN x l).Pairwise (· ≤ ·)
  | [], _ => by simp [insN]
  | y :: l, h => by
    obtain ⟨h1, h2⟩ := List.pairwise_cons.mp h
    unfold insN
    split
    · refine List.pairwise_cons.mpr ⟨fun z hz => ?_, h⟩
      rcases List.mem_cons.mp hz with rfl | hz
      · assumption
      · exact Nat.le_trans (by assumption) (h1 z hz)
    · refine List.pairwise_cons.mpr ⟨fun z hz => ?_, insN_pw x l h2⟩
      rcases List.mem_cons.mp ((insN_perm x l).mem_iff.mp hz) with rfl | hz
      · omega
      · exact h1 z hz
theorem srtN_pw : ∀ l, (srtN l).Pairwise (· ≤ ·)
  | [] => .nil
  | x :: l => insN_pw x _ (srtN_pw l)
theorem srtN_uniq {l m : List Nat} (hp : m.Perm l) (hm : m.Pairwise (· ≤ ·)) : m = srtN l := List.Perm.eq_of_pairwise (fun a b _ _ h1 h2 => Nat.le_antisymm h1 h2) hm (srtN_pw l) (hp.trans (srtN_perm l).symm)
theorem srtN_len (l : List Nat) : (srtN l).length = l.length := (srtN_perm l).length_eq
theorem f_sortN {as : List Nat} (h : EL ta σ H as) : EF (tCB (rSortedI K) (tCons ta tNil)) σ H (srtN as) := fun H1 e Q q => h H1 e _ fun v H2 ⟨e2, p, vs, h1, h2, h3⟩ => by
  rw [its_nat h3] at h2
  refine ⟨p, as.map fun n : Nat => (n : Int), by rw [h1], sq_of h2, fun ns' l hpm hpw hl => ?_⟩
  obtain ⟨m, rfl⟩ : ∃ m : List Nat, ns' = m.map fun n : Nat => (n : Int) := by
    refine ⟨ns'.map Int.toNat, ?_⟩
    rw [List.map_map]
    have : ∀ x ∈ ns', (((x.toNat : Nat) : Int)) = x := fun x hx => by
      obtain ⟨n, _, rfl⟩ := List.mem_map.mp (hpm.mem_iff.mp hx)
      simp
    exact ((List.map_congr_left (f := ((fun n : Nat => (n : Int)) ∘ Int.toNat)) (g := fun x => x) this).trans (List.map_id' _)).symm
  have hm : m.Perm as := by
    have := hpm.map Int.toNat
    rw [List.map_map, List.map_map] at this
    have e : ∀ l : List Nat, l.map (Int.toNat ∘ fun n : Nat => (n : Int)) = l := fun l => (List.map_congr_left (g := fun x => x) fun x _ => Int.toNat_natCast x).trans (List.map_id' _)
    rwa [e, e] at this
  have hw : m.Pairwise (· ≤ ·) := (List.pairwise_map.mp hpw).imp fun h => by omega
  rw [srtN_uniq hm hw]
  exact q _ _ ⟨e2.trans (Ex.new hl), l, _, rfl, fresh_back e2 hl, upd_same, of_nats _⟩
end
end DL

namespace K77
open PySem L2 DL Evl StX
open Arg (rp mn)
open Rep (mt)
open BN (Ord at')
open PL (Pr Two tab tl gr)
variable {K : PySem.W.Frag}

theorem ex_back {H H' : Hp} {d : Addr} {u : HO} (h : H d = some u) (e : Ex (Mk d H) H') : Ex H (upd H' d u) := fun a o ha => by
  by_cases z : a = d
  · subst z
    rw [h] at ha
    cases ha
    exact upd_same
  · rw [upd_ne z]
    exact e a o (by rw [mk_ne z]; exact ha)
theorem ex_frz {H H1 : Hp} {d : Addr} {x : HO} (e : Ex H H1) : Ex (Mk d H) (upd H1 d x) := Ex.mut (ex_mk.trans e) mk_p
theorem rp_mkd {α : Type} [Rep α] {H : Hp} {d : Addr} {u : HO} {a : α} {v : V} (h : H d = some u) (hu : ∀ xs, u ≠ .tup xs) (r : rp a v H) : rp a v (Mk d H) := mt (fun b xs hb => by
  rw [mk_ne (fun z => by
    rw [z, h] at hb
    exact hu xs (Option.some.inj hb))]
  exact hb) r
theorem is_enumT {α : Type} [Rep α] {σ : L2.St} {H : Hp} {te : TE} {ps : List Addr} {xs : List α} (h : ET te σ H xs) (hp : ∀ p ∈ ps, ∃ o, H p = some o ∧ ∀ xs, o ≠ .tup xs) : EvIs (iEnumT K (tCons te tNil)) σ H ps (enumL xs) := fun H1 e R q =>
  h H1 e _ fun v H2 ⟨e2, p, vs, h1, h2, h3⟩ => by
    have nt : NoT ps H2 := fun p hm xs z => by
      obtain ⟨o, ho, hn⟩ := hp p hm
      rw [(e.trans e2) _ _ ho] at z
      exact hn xs (Option.some.inj z)
    have h2' := nt.t _ _ h2
    have h3' := Its.mt nt.t h3
    exact ⟨p, vs, by rw [h1], st_of h2, q _ _ e2
      ⟨fun i H3 e3 hi => by
        rw [enumL_len, Its.len h3] at hi
        exact ⟨vs, vs[i], st_of (e3 _ _ h2'), List.getElem?_eq_getElem hi⟩,
       fun H3 e3 => ⟨vs, st_of (e3 _ _ h2'), by rw [enumL_len, Its.len h3]; exact Nat.le_refl _⟩,
       fun i H3 x H4 e3 hi y => by
        obtain ⟨T, u, rfl, hT, rfl, hu⟩ := y
        obtain ⟨a, ha, ra⟩ := Its.back h3' (hu vs (st_of (e3 _ _ h2')))
        exact ⟨Ex.new hT, (i, a), enumL_get ha, T, _, u, rfl, upd_same, rfl, mn (e3.trans (Ex.new hT)) ra⟩⟩⟩
/-! ### the three tables -/
def tabs3 : List (List (List Nat)) := [[[2, 0], [0, 2]], [[1, 1], [1, 1]], [[0, 2], [2, 0]]]
def cell (T : List (List Nat)) (x : Pr) : Nat := at' (T.getD x.1 []) x.2
theorem t3_tab : ∀ T ∈ tabs3, Tab 9 T 2 2 ∧ Tbl T := fun T hT => by
  have two : Two 2 [0, 1] [0, 1] ∧ Two 2 [0, 1] [1, 0] ∧ Two 2 [1, 0] [1, 0] := ⟨⟨.inl rfl, ⟨rfl, by decide, by decide⟩, ⟨rfl, by decide, by decide⟩⟩, ⟨.inl rfl, ⟨rfl, by decide, by decide⟩, ⟨rfl, by decide, by decide⟩⟩, ⟨.inl rfl, ⟨rfl, by decide, by decide⟩, ⟨rfl, by decide, by decide⟩⟩⟩
  have e0 : ([[2, 0], [0, 2]] : List (List Nat)) = tab 2 [0, 1] [0, 1] := by decide
  have e1 : ([[1, 1], [1, 1]] : List (List Nat)) = tab 2 [0, 1] [1, 0] := by decide
  have e2 : ([[0, 2], [2, 0]] : List (List Nat)) = tab 2 [1, 0] [1, 0] := by decide
  unfold tabs3 at hT
  simp only [List.mem_cons, List.not_mem_nil, or_false] at hT
  rcases hT with rfl | rfl | rfl
  · rw [e0]; exact ⟨tab_Tab two.1, tab_Tbl two.1⟩
  · rw [e1]; exact ⟨tab_Tab two.2.1, tab_Tbl two.2.1⟩
  · rw [e2]; exact ⟨tab_Tab two.2.2, tab_Tbl two.2.2⟩
theorem t3_cell : ∀ T ∈ tabs3, ∀ x ∈ pairsF 2 2, T[x.1]? = some (T.getD x.1 []) ∧ (T.getD x.1 [])[x.2]? = some (cell T x) ∧ cell T x ≤ 2 ∧ x.1 < 2 ∧ x.2 < 2 := by decide
theorem x_cell {σ : L2.St} {H : Hp} {ta tb tc : TE} {T : List (List Nat)} {x : Pr} (hT : T ∈ tabs3) (hx : x ∈ pairsF 2 2) (h : EX (α := Tup (Tup Nat)) ta σ H T) (h1 : EX tb σ H x.1) (h2 : EX tc σ H x.2) : EX (tOp (rIxT K) (tOp (rIxT K) ta tb) tc) σ H (cell T x) := by
  obtain ⟨g1, g2, _⟩ := t3_cell T hT x hx
  exact x_ixT (α := Nat) (t := T.getD x.1 []) (i := x.2) (x_ixT (α := Tup Nat) (t := T) (i := x.1) h h1 g1) h2 g2
theorem f_pairs3 {σ : L2.St} {H : Hp} {te : TE} {T : List (List Nat)} (hT : T ∈ tabs3) (h : EX (α := Tup (Tup Nat)) te σ H T) : EF (α := Pr) (tCall sp_pairs_of [] E0 (tCons te tNil)) σ H (pairsF 2 2) := by
  obtain ⟨t, _⟩ := t3_tab T hT
  have := f_call1 (E := E0) (α := Tup (Tup Nat)) (β := Pr) (f := fun T => pairsF (List.length T) (ncol T)) (pre := fun T => TabE T) h ⟨2, 2, 9, t⟩
  have e1 : T.length = 2 := t.len
  have e2 : ncol T = 2 := t.ncol
  rw [show pairsF (List.length (α := Tup Nat) T) (ncol T) = pairsF 2 2 by rw [e2]; congr 1] at this
  exact this
def meetF (T : List (List Nat)) : List Pr := (pairsF 2 2).flatMap fun x => List.replicate (cell T x) x
def sp_meetings_by : Sp := sp1 (α := Tup (Tup Nat)) (fun T => T ∈ tabs3) fun T => RX (α := Tup Pr) (meetF T)
theorem len_meetings_by : ∀ vs H Q E, sp_meetings_by vs H Q E → vs.length = 1 := sp1_len
theorem sem_meetings_by : ∀ vs H Q E, sp_meetings_by vs H Q E → t_meetings_by K sp_pairs_of (eN Q) (start ["table", "found", "first", "second"] vs) H := fun vs H Q E hh => by
  obtain ⟨(T : List (List Nat)), vT, rfl, rT, hT, q⟩ := hh
  refine q_set (f_lst (α := Pr) (as := []) xs_nil (Nat.zero_le _)) fun v H1 r1 => ?_
  obtain ⟨p, rfl, hp, e1, ho⟩ := Own.of r1
  refine z_forO (α := Pr) (xs := pairsF 2 2) [p] (is_new (α := Pr) (f_pairs3 hT (x_var (α := Tup (Tup Nat)) (a := T) (i := 0) rfl (mn e1 rT))) (fun z hz => ?_)) (fun i σ' H' => ∃ (y2 y3 : Option L2.V), σ' = [some vT, some (.ref p), y2, y3] ∧ Ex H H' ∧ Own (α := Pr) p (((pairsF 2 2).take i).flatMap fun x => List.replicate (cell T x) x) H') (fun H2 e2 => ⟨none, none, rfl, e1.trans e2, ho.ex e2⟩) (fun i a x σ' H0 H' hi hP e3 ra N hN => ?_) fun σ' H' hP => ?_
  · rw [List.mem_singleton.mp hz]
    obtain ⟨us, g, _⟩ := ho
    exact ⟨_, g, fun xs z => by cases z⟩
  · obtain ⟨y2, y3, rfl, e0, ho⟩ := hP
    have hm := List.mem_of_getElem? hi
    have tk : (pairsF 2 2).take (i + 1) = (pairsF 2 2).take i ++ [a] := by rw [List.take_add_one, hi]; rfl
    obtain ⟨_, _, c2, _⟩ := t3_cell T hT a hm
    obtain ⟨b, u, w, rfl, g, ru, rw'⟩ := ra
    refine ⟨b, [u, w], rfl, st_of g, rfl, u, [w], rfl, w, [], rfl, rfl, ?_⟩
    have E0 := e0.trans e3
    have fl : (((pairsF 2 2).take i).flatMap fun x => List.replicate (cell T x) x).length ≤ 8 := by
      have h1 := flat_le (g := fun x : Pr => List.replicate (cell T x) x) (c := 2) ((pairsF 2 2).take i) fun x hx => by
        rw [List.length_replicate]
        exact (t3_cell T hT x (List.mem_of_mem_take hx)).2.2.1
      have h2 : ((pairsF 2 2).take i).length ≤ 4 := by
        rw [List.length_take]
        exact Nat.le_trans (Nat.min_le_right _ _) (by decide)
      omega
    refine z_ext (α := Pr) (i := 1) (p := p) (as := ((pairsF 2 2).take i).flatMap fun x => List.replicate (cell T x) x) (bs := List.replicate (cell T a) a) rfl (ho.ex e3) (by rw [List.length_replicate]; omega) (f_rep1 (α := Pr) (a := a) (x_pair (α := Nat) (β := Nat) (x_var (a := a.1) (i := 2) rfl ru) (x_var (a := a.2) (i := 3) rfl rw')) (x_cell hT hm (x_var (α := Tup (Tup Nat)) (a := T) (i := 0) rfl (mn E0 rT)) (x_var (a := a.1) (i := 2) rfl ru) (x_var (a := a.2) (i := 3) rfl rw')) (by omega)).x fun H5 us5 ws5 e5 g5 q5 => ?_
    refine hN _ _ (mks_step (mks_of e5) (mks_upd (by simp))) ⟨_, _, rfl, Ex.mut (E0.trans e5) hp, ?_⟩
    rw [tk, List.flatMap_append]
    simpa using q5
  · obtain ⟨y2, y3, rfl, e0, ho⟩ := hP
    rw [List.take_length] at ho
    exact q_ret (x_tupleOf (α := Pr) (x_var (α := Lst Pr) (i := 1) rfl ho.rp)) fun v H2 r => q v H2 (RX.bk.bk e0 r)
def ordF (T : List (List Nat)) (i : Nat) : Nat := ((pairsF 2 2).take i).foldl (fun f x => f * factN (cell T x)) 1
theorem ord_le : ∀ T ∈ tabs3, ∀ i < 5, ordF T i ≤ 1000 ∧ 0 < ordF T i := by decide
def sp_orders_of : Sp := sp1 (α := Tup (Tup Nat)) (fun T => T ∈ tabs3) fun T => RX (ordF T 4)
theorem len_orders_of : ∀ vs H Q E, sp_orders_of vs H Q E → vs.length = 1 := sp1_len
theorem sem_orders_of : ∀ vs H Q E, sp_orders_of vs H Q E → t_orders_of K sp_pairs_of (eN Q) (start ["table", "found", "first", "second"] vs) H := fun vs H Q E hh => by
  obtain ⟨(T : List (List Nat)), vT, rfl, rT, hT, q⟩ := hh
  have q : ∀ v H', RX (ordF T 4) H v H' → Q v H' := q
  refine q_set (x_n (n := 1) rfl) fun v0 H1 ⟨e1, r1⟩ => ?_
  have r1 : v0 = .int ((1 : Nat) : Int) := r1
  subst r1
  refine z_for (α := Pr) (xs := pairsF 2 2) (i_list (α := Pr) (f_pairs3 hT (x_var (α := Tup (Tup Nat)) (a := T) (i := 0) rfl (mn e1 rT))).x) (fun i σ' H' => ∃ (f : Nat) (y2 y3 : Option L2.V), σ' = [some vT, some (.int (f : Int)), y2, y3] ∧ f = ordF T i) (fun H2 e2 => ⟨1, none, none, rfl, rfl⟩) (fun i a x σ' H0 H' hi e2 hP e3 ra N hN => ?_) fun σ' H' e2 hP => ?_
  · obtain ⟨f, y2, y3, rfl, hf⟩ := hP
    have hm := List.mem_of_getElem? hi
    have hi4 : i < 4 := (List.getElem?_eq_some_iff.mp hi).1
    have tk : (pairsF 2 2).take (i + 1) = (pairsF 2 2).take i ++ [a] := by rw [List.take_add_one, hi]; rfl
    obtain ⟨_, _, c2, _⟩ := t3_cell T hT a hm
    obtain ⟨b, u, w, rfl, g, ru, rw'⟩ := ra
    refine ⟨b, [u, w], rfl, st_of g, rfl, u, [w], rfl, w, [], rfl, rfl, ?_⟩
    have E0 := (e1.trans e2).trans e3
    have fb := (ord_le T hT i (by omega)).1
    have xf : EX (tFact (tOp (rIxT K) (tOp (rIxT K) (tVar 0) (tVar 2)) (tVar 3))) [some vT, some (.int (f : Int)), some u, some w] H' (factN (cell T a)) := fun H1 e Q q => (x_cell hT hm (x_var (α := Tup (Tup Nat)) (a := T) (i := 0) rfl (mn E0 rT)) (x_var (a := a.1) (i := 2) rfl ru) (x_var (a := a.2) (i := 3) rfl rw')) H1 e _ fun v H2 ⟨e2, r2⟩ => ⟨cell T a, by rw [show v = V.int ((cell T a : Nat) : Int) from r2], by omega, q _ _ ⟨e2, rfl⟩⟩
    refine q_set (x_mulN (x_var (a := f) (i := 1) rfl rfl) xf (by rw [hf]; omega)) fun v5 H5 ⟨e5, r5⟩ => ?_
    have r5 : v5 = .int ((f * factN (cell T a) : Nat) : Int) := r5
    subst r5
    refine hN _ _ e5 ⟨_, _, _, rfl, ?_⟩
    unfold ordF
    rw [tk, List.foldl_append, hf]
    rfl
  · obtain ⟨f, y2, y3, rfl, hf⟩ := hP
    have hf : f = ordF T 4 := hf
    exact q_ret (x_var (a := f) (i := 1) rfl rfl) fun v H2 r => q v H2 (hf ▸ RX.bk.bk (e1.trans e2) r)
/-! ### ways, by marks -/
def clrF (m : List Nat) : List Nat := srtN (m.map fun x => x &&& 63)
def addT (F : List (List Nat × Nat)) (k : List Nat) (n : Nat) : List (List Nat × Nat) := putT F k ((getT F k).getD 0 + n)
def withoutF (W : List (List Nat × Nat)) : List (List Nat × Nat) := W.foldl (fun F p => addT F (clrF p.1) p.2) []
def laidF (m : List Nat) (i s : Nat) : List Nat := srtN (m.take i ++ ((m.getD i 0 ||| 1 <<< s) ||| 64) :: (m.drop (i + 1) ++ []))
def freeF (x s : Nat) : Bool := decide (x &&& (1 <<< s ||| 64) = 0)
def inF (m : List Nat) (s n : Nat) (F : List (List Nat × Nat)) (q : Nat × Nat) : List (List Nat × Nat) := if freeF q.2 s then addT F (laidF m q.1 s) n else F
def withF (W : List (List Nat × Nat)) (s : Nat) : List (List Nat × Nat) := W.foldl (fun F p => (enumL p.1).foldl (inF p.1 s p.2) F) []
def okW (W : List (List Nat × Nat)) : Bool := decide (W.length ≤ 20) && W.all fun p => decide (p.1.length ≤ 8)
theorem okW_iff {W : List (List Nat × Nat)} (h : okW W = true) : W.length ≤ 20 ∧ ∀ p ∈ W, p.1.length ≤ 8 := by
  unfold okW at h
  rw [Bool.and_eq_true, decide_eq_true_iff, List.all_eq_true] at h
  exact ⟨h.1, fun p hp => of_decide_eq_true (h.2 p hp)⟩
theorem addT_len (F : List (List Nat × Nat)) (k : List Nat) (n : Nat) : (addT F k n).length ≤ F.length + 1 := putT_len ..
theorem fold_len {α : Type} {f : List (List Nat × Nat) → α → List (List Nat × Nat)} (c : Nat) (hf : ∀ F a, (f F a).length ≤ F.length + c) : ∀ (xs : List α) (F : List (List Nat × Nat)), (xs.foldl f F).length ≤ F.length + xs.length * c
  | [], F => by simp
  | x :: xs, F => by
    have h1 := fold_len c hf xs (f F x)
    have h2 := hf F x
    rw [List.foldl_cons, List.length_cons, Nat.succ_mul]
    omega
def sp_without_own : Sp := sp1 (α := WD) (fun W => okW W = true) fun W => RX (α := WD) (withoutF W)
theorem len_without_own : ∀ vs H Q E, sp_without_own vs H Q E → vs.length = 1 := sp1_len
theorem sem_without_own : ∀ vs H Q E, sp_without_own vs H Q E → t_without_own K (eN Q) (start ["ways", "found", "marks", "many", "cleared", "mark"] vs) H := fun vs H Q E hh => by
  obtain ⟨(W : List (List Nat × Nat)), vW, rfl, ⟨d, rfl, hd⟩, hW, q⟩ := hh
  obtain ⟨wl, wk⟩ := okW_iff hW
  have hd : H d = some (.dT (dtt W)) := hd
  refine q_set (w_new (H := H)) fun v H1 ⟨e1, pf, hv, hpf, gf⟩ => ?_
  subst hv
  have ndf : d ≠ pf := fun z => by rw [z, hpf] at hd; cases hd
  have hd1 := e1 _ _ hd
  refine ⟨d, _, hd1, True.intro, fun od => ?_⟩
  have mkf : Mk d H pf = none := by rw [mk_ne ndf.symm]; exact hpf
  refine z_forO (α := Tup Nat × Nat) (xs := W) [pf] (is_itemsT (i := 0) rfl upd_same (by simp [ndf]) (fun z hz => ?_)) (fun i σ' H' => ∃ (y2 y3 y4 : Option L2.V), σ' = [some (.ref d), some (.ref pf), y2, y3, y4, none] ∧ Ex (Mk d H) H' ∧ H' d = some (.frz od (.dT (dtt W))) ∧ H' pf = some (.dT (dtt ((W.take i).foldl (fun F p => addT F (clrF p.1) p.2) [])))) (fun H2 e2 => ⟨none, none, none, rfl, (ex_frz e1).trans e2, e2 _ _ upd_same, e2 _ _ (by rw [upd_ne ndf.symm]; exact gf)⟩) (fun i (a : List Nat × Nat) x σ' H0 H' hi hP e3 ra N hN => ?_) fun σ' H' hP => ?_
  · rw [List.mem_singleton.mp hz]
    exact ⟨_, by rw [upd_ne ndf.symm]; exact gf, fun xs z => by cases z⟩
  · obtain ⟨y2, y3, y4, rfl, e0, gd, gf⟩ := hP
    have hi : W[i]? = some a := hi
    have hm := List.mem_of_getElem? hi
    have tk : W.take (i + 1) = W.take i ++ [a] := by rw [List.take_add_one, hi]; rfl
    obtain ⟨b, u, w, rfl, g, ru, rw'⟩ := ra
    refine ⟨b, [u, w], rfl, st_of g, rfl, u, [w], rfl, w, [], rfl, rfl, ?_⟩
    have al := wk a hm
    have ru : rp (α := Tup Nat) a.1 u H' := ru
    have rw' : rp a.2 w H' := rw'
    refine q_set (x_tupleOf (α := Nat) (f_sortN (f_lcM (α := Nat) (β := Nat) (xs := a.1) (fun x => x &&& 63) (i_tup (α := Nat) (x_var (α := Tup Nat) (i := 2) rfl ru)) (by omega) (fun _ => rfl) fun y z H5 hm e ry => x_andN (x_var (i := 5) rfl ry) (ex_is (x_subN (x_n (n := 64) rfl) (x_n (n := 1) rfl) (by decide)) rfl)).x).x) fun vc H5 ⟨e5, rc⟩ => ?_
    have gf5 := (e3.trans e5) _ _ gf
    have Fl := fold_len (f := fun F (p : List Nat × Nat) => addT F (clrF p.1) p.2) 1 (fun F p => addT_len F _ _) (W.take i) []
    have tl : (W.take i).length ≤ 20 := by rw [List.length_take]; omega
    rw [List.length_nil] at Fl
    refine z_dputT (i := 1) (d := pf) (k := clrF a.1) rfl gf5 (x_addN (x_dget2T (i := 1) (k := clrF a.1) rfl gf5 (x_var (α := Tup Nat) (i := 4) rfl rc)) (x_var (a := a.2) (i := 3) rfl (mn e5 rw'))) (x_var (α := Tup Nat) (i := 4) rfl rc) (by omega) fun H6 e6 => ?_
    refine hN _ _ (mks_step (mks_of (e5.trans e6)) (mks_upd (by simp))) ⟨_, _, _, rfl, Ex.mut (((e0.trans e3).trans e5).trans e6) mkf, ?_, ?_⟩
    · rw [upd_ne ndf]
      exact ((e3.trans e5).trans e6) _ _ gd
    · rw [upd_same, tk, List.foldl_append]
      rfl
  · obtain ⟨y2, y3, y4, rfl, e0, gd, gf⟩ := hP
    have gf : H' pf = some (.dT (dtt ((W.take W.length).foldl (fun F p => addT F (clrF p.1) p.2) []))) := gf
    rw [List.take_length] at gf
    refine ⟨gd, q_ret (x_var (α := WD) (a := withoutF W) (i := 1) rfl ⟨pf, rfl, by rw [upd_ne ndf.symm]; exact gf⟩) fun v H2 r => q v H2 (RX.bk.bk (ex_back hd e0) r)⟩
end K77

namespace K77
open PySem L2 DL Evl StX
open Arg (rp mn)
open Rep (mt)
open BN (Ord at')
open PL (Pr Two tab tl gr)
variable {K : PySem.W.Frag}

def sp_laid_into : Sp := sp3 (α := Tup Nat) (β := Nat) (γ := Nat) (fun m i s => List.length m ≤ 8 ∧ i < List.length m ∧ s ≤ 6) fun m i s => RX (α := Tup Nat) (laidF m i s)
theorem len_laid_into : ∀ vs H Q E, sp_laid_into vs H Q E → vs.length = 3 := sp3_len
theorem sem_laid_into : ∀ vs H Q E, sp_laid_into vs H Q E → t_laid_into K (eN Q) (start ["marks", "index", "second"] vs) H := fun vs H Q E hh => by
  obtain ⟨(m : List Nat), i, s, vm, vi, vs', rfl, rm, ri, rs, ⟨hm, hi, hs⟩, q⟩ := hh
  have hm : m.length ≤ 8 := hm
  have hi : i < m.length := hi
  have xm : EX (α := Tup Nat) (tVar 0) (start ["marks", "index", "second"] [vm, vi, vs']) H m := x_var rfl rm
  have xi : EX (tVar 1) (start ["marks", "index", "second"] [vm, vi, vs']) H i := x_var rfl ri
  have xs' : EX (tVar 2) (start ["marks", "index", "second"] [vm, vi, vs']) H s := x_var rfl rs
  have hg : m[i]? = some (m.getD i 0) := BN.get_at hi
  refine q_ret (x_tupleOf (α := Nat) (f_sortN (f_lst (α := Nat) (as := m.take i ++ ((m.getD i 0 ||| 1 <<< s) ||| 64) :: (m.drop (i + 1) ++ [])) (xs_starT (α := Nat) (x_to xm xi) (xs_cons (x_orN (x_orN (x_ixT (α := Nat) (t := m) xm xi hg) (x_shl1 (x_n (n := 1) rfl) xs' (by omega))) (x_n (n := 64) rfl)) (xs_starT (α := Nat) (x_from xm (x_addN xi (x_n (n := 1) rfl))) xs_nil))) (by simp; omega)).x).x) q
theorem with_len (W : List (List Nat × Nat)) (s : Nat) (hk : ∀ p ∈ W, p.1.length ≤ 8) (F : List (List Nat × Nat)) : (W.foldl (fun F p => (enumL p.1).foldl (inF p.1 s p.2) F) F).length ≤ F.length + W.length * 8 := by
  induction W generalizing F with
  | nil => simp
  | cons p W ih =>
    rw [List.foldl_cons, List.length_cons, Nat.succ_mul]
    have h1 := ih (fun q hq => hk q (List.mem_cons_of_mem _ hq)) ((enumL p.1).foldl (inF p.1 s p.2) F)
    have h2 := fold_len (f := inF p.1 s p.2) 1 (fun F q => by
      unfold inF
      split
      · exact addT_len ..
      · omega) (enumL p.1) F
    rw [enumL_len] at h2
    have := hk p List.mem_cons_self
    omega
def sp_with_second : Sp := sp2 (α := WD) (β := Nat) (fun W s => okW W = true ∧ s ≤ 5) fun W s => RX (α := WD) (withF W s)
theorem len_with_second : ∀ vs H Q E, sp_with_second vs H Q E → vs.length = 2 := sp2_len
theorem sem_with_second : ∀ vs H Q E, sp_with_second vs H Q E → t_with_second K sp_laid_into (eN Q) (start ["ways", "second", "found", "marks", "many", "index", "mark", "more"] vs) H := fun vs H Q E hh => by
  obtain ⟨(W : List (List Nat × Nat)), s, vW, vs', rfl, ⟨d, rfl, hd⟩, rs, ⟨hW, hs⟩, q⟩ := hh
  obtain ⟨wl, wk⟩ := okW_iff hW
  have hd : H d = some (.dT (dtt W)) := hd
  have es : vs' = .int (s : Int) := rs
  subst es
  refine q_set (w_new (H := H)) fun v H1 ⟨e1, pf, hv, hpf, gf⟩ => ?_
  subst hv
  have ndf : d ≠ pf := fun z => by rw [z, hpf] at hd; cases hd
  have hd1 := e1 _ _ hd
  refine ⟨d, _, hd1, True.intro, fun od => ?_⟩
  have mkf : Mk d H pf = none := by rw [mk_ne ndf.symm]; exact hpf
  refine z_forO (α := Tup Nat × Nat) (xs := W) [pf] (is_itemsT (i := 0) rfl upd_same (by simp [ndf]) (fun z hz => ?_)) (fun i σ' H' => ∃ (y3 y4 y5 y6 y7 : Option L2.V), σ' = [some (.ref d), some (.int (s : Int)), some (.ref pf), y3, y4, y5, y6, y7] ∧ Ex (Mk d H) H' ∧ H' d = some (.frz od (.dT (dtt W))) ∧ H' pf = some (.dT (dtt ((W.take i).foldl (fun F p => (enumL p.1).foldl (inF p.1 s p.2) F) [])))) (fun H2 e2 => ⟨none, none, none, none, none, rfl, (ex_frz e1).trans e2, e2 _ _ upd_same, e2 _ _ (by rw [upd_ne ndf.symm]; exact gf)⟩) (fun i (a : List Nat × Nat) x σ' H0 H' hi hP e3 ra N hN => ?_) fun σ' H' hP => ?_
  · rw [List.mem_singleton.mp hz]
    exact ⟨_, by rw [upd_ne ndf.symm]; exact gf, fun xs z => by cases z⟩
  · obtain ⟨y3, y4, y5, y6, y7, rfl, e0, gd, gf⟩ := hP
    have hi : W[i]? = some a := hi
    have hm := List.mem_of_getElem? hi
    have tk : W.take (i + 1) = W.take i ++ [a] := by rw [List.take_add_one, hi]; rfl
    obtain ⟨b, u, w, rfl, g, ru, rw'⟩ := ra
    refine ⟨b, [u, w], rfl, st_of g, rfl, u, [w], rfl, w, [], rfl, rfl, ?_⟩
    have al := wk a hm
    have ru : rp (α := Tup Nat) a.1 u H' := ru
    have rw' : rp a.2 w H' := rw'
    have Fl := with_len (W.take i) s (fun p hp => wk p (List.mem_of_mem_take hp)) []
    have tl : (W.take i).length ≤ 20 := by rw [List.length_take]; omega
    rw [List.length_nil] at Fl
    generalize hF0 : (W.take i).foldl (fun F p => (enumL p.1).foldl (inF p.1 s p.2) F) [] = F0 at gf Fl
    refine z_forO (α := Nat × Nat) (xs := enumL a.1) [pf] (is_enumT (α := Nat) (x_var (α := Tup Nat) (i := 3) rfl ru) (fun z hz => ?_)) (fun j σ3 H3 => ∃ (y5 y6 y7 : Option L2.V), σ3 = [some (.ref d), some (.int (s : Int)), some (.ref pf), some u, some w, y5, y6, y7] ∧ Ex (Mk d H) H3 ∧ Ex (Mks [pf] H') H3 ∧ H3 d = some (.frz od (.dT (dtt W))) ∧ rp (α := Tup Nat) a.1 u H3 ∧ rp a.2 w H3 ∧ H3 pf = some (.dT (dtt (((enumL a.1).take j).foldl (inF a.1 s a.2) F0)))) (fun H3 e4 => ⟨y5, y6, y7, rfl, (e0.trans e3).trans e4, mks_of e4, (e3.trans e4) _ _ gd, mn e4 ru, mn e4 rw', (e3.trans e4) _ _ gf⟩) (fun j (c : Nat × Nat) y σ3 H3 H4 hj hP e4 rc N2 hN2 => ?_) fun σ3 H3 hP => ?_
    · rw [List.mem_singleton.mp hz]
      exact ⟨_, e3 _ _ gf, fun xs z => by cases z⟩
    · obtain ⟨y5, y6, y7, rfl, E3, M3, gd3, ru3, rw3, gf3⟩ := hP
      have hj' := hj
      have hj : (enumL a.1)[j]? = some c := hj
      have hmc := List.mem_of_getElem? hj
      have hcg := mem_enumL hmc
      have hcl : c.1 < a.1.length := (List.getElem?_eq_some_iff.mp hcg).1
      have tk2 : (enumL a.1).take (j + 1) = (enumL a.1).take j ++ [c] := by rw [List.take_add_one, hj]; rfl
      obtain ⟨b2, u2, w2, rfl, g2, ru2, rw2⟩ := rc
      refine ⟨b2, [u2, w2], rfl, st_of g2, rfl, u2, [w2], rfl, w2, [], rfl, rfl, ?_⟩
      have ru2 : rp c.1 u2 H4 := ru2
      have rw2 : rp c.2 w2 H4 := rw2
      have Fl2 := fold_len (f := inF a.1 s a.2) 1 (fun F q => by
        unfold inF
        split
        · exact addT_len ..
        · omega) ((enumL a.1).take j) F0
      have tl2 : ((enumL a.1).take j).length ≤ 8 := by
        rw [List.length_take, enumL_len]
        omega
      generalize hF : ((enumL a.1).take j).foldl (inF a.1 s a.2) F0 = F1 at gf3 Fl2
      have gf4 := e4 _ _ gf3
      refine z_if (b := freeF c.2 s) (t_test (x_eqN (x_andN (x_var (a := c.2) (i := 6) rfl rw2) (x_orN (x_shl1 (x_n (n := 1) rfl) (x_var (a := s) (i := 1) rfl rfl) (by omega)) (x_n (n := 64) rfl))) (x_n (n := 0) rfl))) (fun hb H5 e5 => ?_) fun hb H5 e5 => ?_
      · refine q_set (x_call3 (α := Tup Nat) (β := Nat) (γ := Nat) (δ := Tup Nat) (f := fun m i s => laidF m i s) (x_var (α := Tup Nat) (a := a.1) (i := 3) rfl (mn (e4.trans e5) ru3)) (x_var (a := c.1) (i := 5) rfl (mn e5 ru2)) (x_var (a := s) (i := 1) rfl rfl) ⟨al, hcl, by omega⟩) fun vm H6 ⟨e6, rm⟩ => ?_
        have gf6 := (e5.trans e6) _ _ gf4
        refine z_dputT (i := 2) (d := pf) (k := laidF a.1 c.1 s) rfl gf6 (x_addN (x_dget2T (i := 2) (k := laidF a.1 c.1 s) rfl gf6 (x_var (α := Tup Nat) (i := 7) rfl rm)) (x_var (a := a.2) (i := 4) rfl (mn ((e4.trans e5).trans e6) rw3))) (x_var (α := Tup Nat) (i := 7) rfl rm) (by omega) fun H7 e7 => ?_
        have ee := ((e4.trans e5).trans e6).trans e7
        have xt : ExT H7 (upd H7 pf (.dT (dtt (addT F1 (laidF a.1 c.1 s) a.2)))) := exT_upd fun xs z => by
          rw [e7 _ _ gf6] at z
          cases z
        refine hN2 _ _ (mks_step (mks_of (((e5.trans e6).trans e7))) (mks_upd (by simp))) ⟨_, _, _, rfl, Ex.mut (E3.trans ee) mkf, Ex.mut (M3.trans ee) (mks_in (by simp)), ?_, mt xt (mn ee ru3), mt xt (mn ee rw3), ?_⟩
        · rw [upd_ne ndf]
          exact ee _ _ gd3
        · rw [upd_same, tk2, List.foldl_append, hF]
          show some (HO.dT (dtt (addT F1 (laidF a.1 c.1 s) a.2))) = some (HO.dT (dtt (inF a.1 s a.2 F1 c)))
          unfold inF
          rw [if_pos hb]
      · have ee := e4.trans e5
        refine hN2 _ _ (mks_of e5) ⟨_, _, _, rfl, E3.trans ee, M3.trans ee, ee _ _ gd3, mn ee ru3, mn ee rw3, ?_⟩
        rw [tk2, List.foldl_append, hF]
        show H5 pf = some (HO.dT (dtt (inF a.1 s a.2 F1 c)))
        unfold inF
        rw [if_neg (by rw [hb]; exact Bool.false_ne_true)]
        exact ee _ _ gf3
    · obtain ⟨y5, y6, y7, rfl, E3, M3, gd3, ru3, rw3, gf3⟩ := hP
      rw [List.take_length] at gf3
      refine hN _ _ M3 ⟨_, _, _, _, _, rfl, E3, gd3, ?_⟩
      rw [gf3, tk, List.foldl_append, hF0]
      rfl
  · obtain ⟨y3, y4, y5, y6, y7, rfl, e0, gd, gf⟩ := hP
    have gf : H' pf = some (.dT (dtt ((W.take W.length).foldl (fun F p => (enumL p.1).foldl (inF p.1 s p.2) F) []))) := gf
    rw [List.take_length] at gf
    refine ⟨gd, q_ret (x_var (α := WD) (a := withF W s) (i := 2) rfl ⟨pf, rfl, by rw [upd_ne ndf.symm]; exact gf⟩) fun v H2 r => q v H2 (RX.bk.bk (ex_back hd e0) r)⟩
/-! ### how many plans -/
def stp (st : List (List Nat × Nat) × Nat) (x : Pr) : List (List Nat × Nat) × Nat := (withF (if x.1 ≠ st.2 then withoutF st.1 else st.1) x.2, if x.1 ≠ st.2 then x.1 else st.2)
def stW (T : List (List Nat)) (i : Nat) : List (List Nat × Nat) × Nat := ((meetF T).take i).foldl stp ([([0, 0], 1)], 0)
theorem stW_ok : ∀ T ∈ tabs3, ∀ i < 5, okW (stW T i).1 = true ∧ okW (withoutF (stW T i).1) = true := by decide +kernel
theorem meet_ok : ∀ T ∈ tabs3, (meetF T).length = 4 ∧ ∀ x ∈ meetF T, x.1 < 2 ∧ x.2 < 2 := by decide +kernel
def cntF (T : List (List Nat)) : Nat := ((stW T 4).1.map (·.2)).sum / ordF T 4
theorem cnt_is : cntF [[2, 0], [0, 2]] = 1 ∧ cntF [[1, 1], [1, 1]] = 2 ∧ cntF [[0, 2], [2, 0]] = 1 := by decide +kernel
def sp_plan_count_by : Sp := sp2 (α := Tup (Tup Nat)) (β := Nat) (fun T n => T ∈ tabs3 ∧ n = 2) fun T _ => RX (cntF T)
theorem len_plan_count_by : ∀ vs H Q E, sp_plan_count_by vs H Q E → vs.length = 2 := sp2_len
theorem sem_plan_count_by : ∀ vs H Q E, sp_plan_count_by vs H Q E → t_plan_count_by K sp_meetings_by sp_without_own sp_with_second sp_orders_of (eN Q) (start ["table", "times", "ways", "last", "first", "second"] vs) H := fun vs H Q E hh => by
  obtain ⟨(T : List (List Nat)), n, vT, vn, rfl, rT, rn, ⟨hT, rfl⟩, q⟩ := hh
  have q : ∀ v H', RX (cntF T) H v H' → Q v H' := q
  obtain ⟨ml, mb⟩ := meet_ok T hT
  refine z_par2 (w_disp1 (k := [0, 0]) (n := 1) (fun H1 e => x_repT1 (α := Nat) (a := 0) (n := 2) (x_n (n := 0) rfl) (x_var (i := 1) rfl (mn e rn)) (by decide) (by decide)) fun H1 e => x_n (n := 1) rfl) (x_n (n := 0) rfl) (fun v1 v2 H1 H2 r1 r2 => ?_) (fun r => r.1)
  obtain ⟨e1, p1, rfl, hp1, g1⟩ := r1
  obtain ⟨e2, r2⟩ := r2
  have r2 : v2 = .int ((0 : Nat) : Int) := r2
  subst r2
  have E2 := e1.trans e2
  refine z_for (α := Pr) (xs := meetF T) (i_tup (α := Pr) (x_call1 (α := Tup (Tup Nat)) (β := Tup Pr) (f := fun T => meetF T) (x_var (α := Tup (Tup Nat)) (a := T) (i := 0) rfl (mn E2 rT)) hT)) (fun i σ' H' => ∃ (l : Nat) (vw : L2.V) (y4 y5 : Option L2.V), σ' = [some vT, some vn, some vw, some (.int (l : Int)), y4, y5] ∧ rp (α := WD) (stW T i).1 vw H' ∧ l = (stW T i).2) (fun H3 e3 => ⟨0, _, none, none, rfl, ⟨p1, rfl, (e2.trans e3) _ _ g1⟩, rfl⟩) (fun i a x σ' H0 H' hi e3 hP e4 ra N hN => ?_) fun σ' H' e3 hP => ?_
  · obtain ⟨l, vw, y4, y5, rfl, rw', hl⟩ := hP
    have hm := List.mem_of_getElem? hi
    have hi4 : i < 4 := by
      have := (List.getElem?_eq_some_iff.mp hi).1
      rwa [ml] at this
    have tk : (meetF T).take (i + 1) = (meetF T).take i ++ [a] := by rw [List.take_add_one, hi]; rfl
    have st : stW T (i + 1) = stp (stW T i) a := by
      unfold stW
      rw [tk, List.foldl_append]
      rfl
    obtain ⟨ok1, ok2⟩ := stW_ok T hT i (by omega)
    obtain ⟨a1, a2⟩ := mb a hm
    obtain ⟨b, u, w, rfl, g, ru, rw2⟩ := ra
    refine ⟨b, [u, w], rfl, st_of g, rfl, u, [w], rfl, w, [], rfl, rfl, ?_⟩
    have ru : rp a.1 u H' := ru
    have rw2 : rp a.2 w H' := rw2
    have rw4 := mn e4 rw'
    have last : ∀ (vw2 : L2.V) (W2 : List (List Nat × Nat)) (l2 : Nat) (H5 : Hp), Ex H' H5 → rp (α := WD) W2 vw2 H5 → okW W2 = true → stW T (i + 1) = (withF W2 a.2, l2) → tAsg (tCall sp_with_second [] E0 (tCons (tVar 2) (tCons (tVar 5) tNil))) (gName 2) ⟨N, (eN Q).rt, fun σ' H' => tRet (tOp oDiv (tSumValsT (tVar 2)) (tCall sp_orders_of [] E0 (tCons (tVar 0) tNil))) (eN Q) σ' H', N⟩ [some vT, some vn, some vw2, some (.int (l2 : Int)), some u, some w] H5 := fun vw2 W2 l2 H5 e5 r5 ok h => by
      refine q_set (x_call2 (α := WD) (β := Nat) (γ := WD) (f := fun W s => withF W s) (x_var (α := WD) (a := W2) (i := 2) rfl r5) (x_var (a := a.2) (i := 5) rfl (mn e5 rw2)) ⟨ok, by omega⟩) fun v6 H6 ⟨e6, r6⟩ => hN _ _ (e5.trans e6) ⟨l2, v6, _, _, rfl, by rw [h]; exact r6, by rw [h]⟩
    refine z_if (t_test (x_neS (a := a.1) (b := l) (x_var (i := 4) rfl ru) (x_var (a := l) (i := 3) rfl rfl) sc_nat)) (fun hb H5 e5 => ?_) fun hb H5 e5 => ?_
    · have hne : a.1 ≠ l := by simpa using hb
      refine z_par2 (x_call1 (α := WD) (β := WD) (f := fun W => withoutF W) (x_var (α := WD) (a := (stW T i).1) (i := 2) rfl (mn e5 rw4)) ok1) (x_var (a := a.1) (i := 4) rfl (mn e5 ru)) (fun v6 v7 H6 H7 r6 r7 => ?_) (fun r => r.1)
      have r7' : v7 = .int ((a.1 : Nat) : Int) := r7.2
      subst r7'
      refine last v6 (withoutF (stW T i).1) a.1 H7 ((e5.trans r6.1).trans r7.1) (mn r7.1 r6.2) ok2 ?_
      rw [st]
      unfold stp
      rw [← hl, if_pos hne, if_pos hne]
    · have he : a.1 = l := by simpa using hb
      refine last vw (stW T i).1 l H5 e5 (mn e5 rw4) ok1 ?_
      rw [st]
      unfold stp
      rw [← hl, if_neg (by simp [he]), if_neg (by simp [he])]
  · obtain ⟨l, vw, y4, y5, rfl, rw', hl⟩ := hP
    rw [ml] at rw'
    obtain ⟨_, op⟩ := ord_le T hT 4 (by decide)
    have ob := (ord_le T hT 4 (by decide)).1
    exact q_ret (x_divN (x_sumVals (W := (stW T 4).1) (x_var (α := WD) (a := (stW T 4).1) (i := 2) rfl rw')) (x_call1 (α := Tup (Tup Nat)) (β := Nat) (f := fun T => ordF T 4) (x_var (α := Tup (Tup Nat)) (a := T) (i := 0) rfl (mn (E2.trans e3) rT)) hT) op (by omega)) fun v H2 r => q v H2 (RX.bk.bk (E2.trans e3) r)
def sp_check_few : Sp := sp1 (α := Tup (Tup Nat)) (fun T => T ∈ tabs3) fun _ => RN
theorem len_check_few : ∀ vs H Q E, sp_check_few vs H Q E → vs.length = 1 := sp1_len
theorem t3_sum : ∀ T ∈ tabs3, (List.map List.sum T).sum = 4 ∧ T.length = 2 := by decide
theorem sem_check_few : ∀ vs H Q E, sp_check_few vs H Q E → t_check_few K sp_total_by (eN Q) (start ["table"] vs) H := fun vs H Q E hh => by
  obtain ⟨(T : List (List Nat)), vT, rfl, rT, hT, q⟩ := hh
  obtain ⟨s4, l2⟩ := t3_sum T hT
  exact z_if (b := false) (t_test (ex_is (x_gtN (i := (List.map List.sum T).sum) (j := 12) (x_call1 (α := Tup (Tup Nat)) (f := fun T => (List.map List.sum T).sum) (x_var (α := Tup (Tup Nat)) (a := T) rfl rT) (show T.length ≤ 6 by omega)) (x_n (n := 12) rfl)) (by rw [s4]; rfl))) (fun z => nomatch z) fun _ H1 e1 => z_next (q _ H1 ⟨e1, rfl⟩)
def sp_plan_count : Sp := sp2 (α := Tup (Tup Nat)) (β := Nat) (fun T n => T ∈ tabs3 ∧ n = 2) fun T _ => RX (cntF T)
theorem len_plan_count : ∀ vs H Q E, sp_plan_count vs H Q E → vs.length = 2 := sp2_len
theorem sem_plan_count : ∀ vs H Q E, sp_plan_count vs H Q E → t_plan_count K sp_check_table sp_check_times sp_check_few sp_plan_count_by (eN Q) (start ["table", "times"] vs) H := fun vs H Q E hh => by
  obtain ⟨(T : List (List Nat)), n, vT, vn, rfl, rT, rn, ⟨hT, rfl⟩, q⟩ := hh
  refine q_drop (r_call1 (α := Tup (Tup Nat)) (R := fun _ => RN) (pre := fun T => Tbl T) (fun _ => RN.bk) (x_var (α := Tup (Tup Nat)) (a := T) rfl rT) (t3_tab T hT).2) fun v H1 r1 => ?_
  refine q_drop (r_call3 (α := Int) (β := Int) (γ := Int) (R := fun _ _ _ => RN) (pre := fun v lo hi => lo ≤ v ∧ v ≤ hi) (fun _ _ _ => RN.bk) (a := ((2 : Nat) : Int)) (b := 0) (c := 8) (x_ni (x_var (i := 1) rfl (mn r1.1 rn))) x_i x_i ⟨by omega, by omega⟩) fun v H2 r2 => ?_
  have e2 := r1.1.trans r2.1
  refine q_drop (r_call1 (α := Tup (Tup Nat)) (R := fun _ => RN) (pre := fun T => T ∈ tabs3) (fun _ => RN.bk) (x_var (α := Tup (Tup Nat)) (a := T) rfl (mn e2 rT)) hT) fun v H3 r3 => ?_
  have e3 := e2.trans r3.1
  exact q_ret (x_call2 (α := Tup (Tup Nat)) (β := Nat) (γ := Nat) (f := fun T _ => cntF T) (x_var (α := Tup (Tup Nat)) (a := T) (i := 0) rfl (mn e3 rT)) (x_var (i := 1) rfl (mn e3 rn)) ⟨hT, rfl⟩) fun v H4 r4 => q v H4 (RX.bk.bk e3 r4)
end K77

namespace K77
open PySem L2 DL Evl StX
open Arg (rp mn)
open Rep (mt)
open BN (Ord at')
open PL (Pr Two tab tl gr share)
variable {K : PySem.W.Frag}

abbrev Pln := List (List Pr)
def sp_has_person : Sp := sp2 (α := Tup Pr) (β := Pr) (fun R _ => List.length R ≤ 12) fun (R : List Pr) x => RX (R.any (share x))
theorem len_has_person : ∀ vs H Q E, sp_has_person vs H Q E → vs.length = 2 := sp2_len
theorem sem_has_person : ∀ vs H Q E, sp_has_person vs H Q E → t_has_person K (eN Q) (start ["each", "pair", "first", "second"] vs) H := fun vs H Q E hh => by
  obtain ⟨(R : List Pr), x, vR, vx, rfl, rR, rx, hl, q⟩ := hh
  have hl : R.length ≤ 12 := hl
  refine q_ret (ex_is (x_any (f_lcPM (α := Nat) (β := Nat) (γ := Bool) (xs := R) (fun y => share x y) (i_tup (α := Pr) (x_var (α := Tup Pr) (i := 0) rfl rR)) (by omega) (fun _ _ => rfl) fun a u w H1 hm e r1 r2 => x_or (x_eqN (x_fst (β := Nat) (t := x) (x_var (i := 1) rfl (mn e rx))) (x_var (a := a.1) (i := 2) rfl r1)) fun _ => x_eqN (x_snd (α := Nat) (t := x) (x_var (i := 1) rfl (mn e rx))) (x_var (a := a.2) (i := 3) rfl r2)).x) ?_) q
  rw [List.any_map]
  rfl
def layF (P : Pln) (i : Nat) (x : Pr) : Pln := P.take i ++ [P.getD i [] ++ [x]] ++ P.drop (i + 1)
def okR (P : Pln) : Bool := decide (P.length = 2) && P.all fun r => decide (r.length ≤ 6)
theorem okR_iff {P : Pln} (h : okR P = true) : P.length = 2 ∧ ∀ r ∈ P, r.length ≤ 6 := by
  unfold okR at h
  rw [Bool.and_eq_true, decide_eq_true_iff, List.all_eq_true] at h
  exact ⟨h.1, fun p hp => of_decide_eq_true (h.2 p hp)⟩
def sp_laid_plan : Sp := sp3 (α := Tup (Tup Pr)) (β := Nat) (γ := Pr) (fun P i _ => okR P = true ∧ i < 2) fun P i x => RX (α := Tup (Tup Pr)) (layF P i x)
theorem len_laid_plan : ∀ vs H Q E, sp_laid_plan vs H Q E → vs.length = 3 := sp3_len
theorem sem_laid_plan : ∀ vs H Q E, sp_laid_plan vs H Q E → t_laid_plan K (eN Q) (start ["plan", "index", "pair"] vs) H := fun vs H Q E hh => by
  obtain ⟨(P : Pln), i, x, vP, vi, vx, rfl, rP, ri, rx, ⟨ok, hi⟩, q⟩ := hh
  obtain ⟨pl, pr⟩ := okR_iff ok
  have xP : EX (α := Tup (Tup Pr)) (tVar 0) (start ["plan", "index", "pair"] [vP, vi, vx]) H P := x_var rfl rP
  have xi : EX (tVar 1) (start ["plan", "index", "pair"] [vP, vi, vx]) H i := x_var rfl ri
  have xx : EX (tVar 2) (start ["plan", "index", "pair"] [vP, vi, vx]) H x := x_var rfl rx
  have hg : P[i]? = some (P.getD i []) := by
    rw [List.getD_eq_getElem?_getD, List.getElem?_eq_getElem (by omega)]
    rfl
  have hr := pr _ (List.mem_of_getElem? hg)
  exact q_ret (x_catT (α := Tup Pr) (as := P.take i ++ [P.getD i [] ++ [x]]) (bs := P.drop (i + 1)) (x_catT (α := Tup Pr) (as := P.take i) (bs := [P.getD i [] ++ [x]]) (x_to (α := Tup Pr) (as := P) xP xi) (x_tup (α := Tup Pr) (as := [P.getD i [] ++ [x]]) (xs_cons (x_catT (α := Pr) (as := P.getD i []) (bs := [x]) (x_ixT (α := Tup Pr) (t := P) xP xi hg) (x_tup (α := Pr) (as := [x]) (xs_cons xx xs_nil) (show 1 ≤ 100000 by decide)) (by simp only [List.length_cons, List.length_nil]; omega)) xs_nil) (show 1 ≤ 100000 by decide)) (show (P.take i).length + 1 ≤ 100000 by rw [List.length_take]; omega)) (x_from (α := Tup Pr) (as := P) xP (x_addN xi (x_n (n := 1) rfl))) (show (P.take i ++ [P.getD i [] ++ [x]]).length + (P.drop (i + 1)).length ≤ 100000 by rw [List.length_append, List.length_take, List.length_drop, List.length_cons, List.length_nil]; omega)) q
/-! ### plans that go on -/
def okP (L : List (Pln × Int)) : Bool := decide (L.length ≤ 10) && L.all fun q => okR q.1 && (decide (-1 ≤ q.2) && decide (q.2 < 2))
theorem okP_iff {L : List (Pln × Int)} (h : okP L = true) : L.length ≤ 10 ∧ ∀ q ∈ L, okR q.1 = true ∧ -1 ≤ q.2 ∧ q.2 < 2 := by
  unfold okP at h
  rw [Bool.and_eq_true, decide_eq_true_iff, List.all_eq_true] at h
  refine ⟨h.1, fun q hq => ?_⟩
  have := h.2 q hq
  rw [Bool.and_eq_true, Bool.and_eq_true, decide_eq_true_iff, decide_eq_true_iff] at this
  exact ⟨this.1, this.2.1, this.2.2⟩
def plcF (P : Pln) (l : Int) (x : Pr) : List Nat := (((List.range (P.length - (l + 1).toNat)).map ((l + 1).toNat + ·)).filter fun i => !(P.getD i []).any (share x))
def goF (x : Pr) (q : Pln × Int) : List (Pln × Int) := (plcF q.1 q.2 x).map fun i => (layF q.1 i x, (i : Int))
def pwF (L : List (Pln × Int)) (x : Pr) : List (Pln × Int) := L.flatMap (goF x)
abbrev TPI := Tup (Tup Pr) × Int
theorem plc_len (P : Pln) (l : Int) (x : Pr) : (plcF P l x).length ≤ P.length := by
  unfold plcF
  refine Nat.le_trans (List.length_filter_le _ _) ?_
  rw [List.length_map, List.length_range]
  omega
def sp_plans_with : Sp := sp2 (α := Lst TPI) (β := Pr) (fun L _ => okP L = true) fun L x => RX (α := Lst TPI) (pwF L x)
theorem len_plans_with : ∀ vs H Q E, sp_plans_with vs H Q E → vs.length = 2 := sp2_len
theorem sem_plans_with : ∀ vs H Q E, sp_plans_with vs H Q E → t_plans_with K sp_has_person sp_laid_plan (eN Q) (start ["found", "pair", "longer", "plan", "last", "places", "index"] vs) H := fun vs H Q E hh => by
  obtain ⟨(L : List (Pln × Int)), x, vL, vx, rfl, rL, rx, ok, q⟩ := hh
  obtain ⟨ll, lq⟩ := okP_iff ok
  have q : ∀ v H', RX (α := Lst TPI) (pwF L x) H v H' → Q v H' := q
  obtain ⟨a, us, rfl, ha, its⟩ := rL
  refine q_set (f_lst (α := TPI) (as := []) xs_nil (Nat.zero_le _)) fun v H1 r1 => ?_
  obtain ⟨pf, rfl, hpf, e1, ho⟩ := Own.of r1
  have haf : a ≠ pf := fun z => by rw [z, hpf] at ha; cases ha
  refine z_forO (α := TPI) (xs := L) [pf] (is_list (i := 0) rfl (e1 _ _ ha) (its.mono e1) (by simp [haf]) (fun z hz => ?_)) (fun i σ' H' => ∃ (y3 y4 y5 : Option L2.V), σ' = [some (.ref a), some vx, some (.ref pf), y3, y4, y5, none] ∧ Ex H H' ∧ Own (α := TPI) pf ((L.take i).flatMap (goF x)) H') (fun H2 e2 => ⟨none, none, none, rfl, e1.trans e2, ho.ex e2⟩) (fun i (b : Pln × Int) y σ' H0 H' hi hP e3 ra N hN => ?_) fun σ' H' hP => ?_
  · rw [List.mem_singleton.mp hz]
    obtain ⟨us, g, _⟩ := ho
    exact ⟨_, g, fun xs z => by cases z⟩
  · obtain ⟨y3, y4, y5, rfl, e0, ho⟩ := hP
    have hi : L[i]? = some b := hi
    have hm := List.mem_of_getElem? hi
    have tk : L.take (i + 1) = L.take i ++ [b] := by rw [List.take_add_one, hi]; rfl
    obtain ⟨okb, b1, b2⟩ := lq b hm
    obtain ⟨pl, pr⟩ := okR_iff okb
    have E0 := e0.trans e3
    obtain ⟨c, u, w, rfl, g, ru, rw'⟩ := ra
    refine ⟨c, [u, w], rfl, st_of g, rfl, u, [w], rfl, w, [], rfl, rfl, ?_⟩
    have ru : rp (α := Tup (Tup Pr)) b.1 u H' := ru
    have rw' : rp b.2 w H' := rw'
    have nb : ((b.2 + 1).toNat : Int) = b.2 + 1 := by omega
    have xp : ∀ {σ : L2.St} {H5 : Hp}, σ[3]? = some (some u) → Ex H' H5 → EX (α := Tup (Tup Pr)) (tVar 3) σ H5 b.1 := fun hs e => x_var hs (mn e ru)
    refine q_set (ef_is (α := Nat) (f_lcN (α := Nat) (β := Nat) (xs := (List.range (b.1.length - (b.2 + 1).toNat)).map ((b.2 + 1).toNat + ·)) (fun i => !(b.1.getD i []).any (share x)) (fun i => i) (i_rng2 (m := (b.2 + 1).toNat) (n := b.1.length) (x_in (x_add (x_var (a := b.2) (i := 4) rfl rw') (x_i (i := 1))) nb.symm) (x_lenT (α := Tup Pr) (as := b.1) (xp rfl (Ex.refl _))) (by omega) (by omega)) (by rw [List.length_map, List.length_range]; omega) (fun _ => rfl) (fun k z H5 hk e rk => et_not (t_B (x_call2 (α := Tup Pr) (β := Pr) (f := fun (R : List Pr) x => R.any (share x)) (x_ixT (α := Tup Pr) (t := b.1) (i := k) (xp rfl e) (x_var (i := 6) rfl rk) ?_) (x_var (i := 1) rfl (mn (E0.trans e) rx)) ?_))) fun k z H5 hk e rk _ => x_var (i := 6) rfl rk) (List.map_id' _)) fun v5 H5 r5 => ?_
    · have hk2 : k < b.1.length := by
        obtain ⟨j, hj, rfl⟩ := List.mem_map.mp hk
        have := List.mem_range.mp hj
        omega
      show b.1[k]? = some (b.1.getD k [])
      rw [List.getD_eq_getElem?_getD, List.getElem?_eq_getElem hk2]
      rfl
    · have hk2 : k < b.1.length := by
        obtain ⟨j, hj, rfl⟩ := List.mem_map.mp hk
        have := List.mem_range.mp hj
        omega
      have : b.1[k]? = some (b.1.getD k []) := by
        rw [List.getD_eq_getElem?_getD, List.getElem?_eq_getElem hk2]
        rfl
      have := pr _ (List.mem_of_getElem? this)
      show (b.1.getD k []).length ≤ 12
      omega
    obtain ⟨p5, rfl, hp5, e5, o5⟩ := Own.of r5
    have o5 : Own (α := Nat) p5 (plcF b.1 b.2 x) H5 := o5
    have pll := plc_len b.1 b.2 x
    have gl : (goF x b).length ≤ 2 := by
      unfold goF
      rw [List.length_map]
      omega
    have fl : ((L.take i).flatMap (goF x)).length ≤ 20 := by
      have h1 := flat_le (g := goF x) (c := 2) (L.take i) fun z hz => by
        have hz' := List.mem_of_mem_take hz
        have := (okR_iff (lq z hz').1).1
        have h2 := plc_len z.1 z.2 x
        unfold goF
        rw [List.length_map]
        omega
      have h2 : (L.take i).length ≤ 10 := by rw [List.length_take]; omega
      omega
    refine z_ext (α := TPI) (i := 2) (p := pf) (as := (L.take i).flatMap (goF x)) (bs := goF x b) rfl (ho.ex (e3.trans e5)) (show ((L.take i).flatMap (goF x)).length + (goF x b).length ≤ 100000 by omega) (f_lcM (α := Nat) (β := TPI) (xs := plcF b.1 b.2 x) (fun k => (layF b.1 k x, (k : Int))) (i_list (α := Nat) (x_var (α := Lst Nat) (i := 5) rfl o5.rp)) (by omega) (fun _ => rfl) fun k z H6 hk e rk => x_pair (α := Tup (Tup Pr)) (β := Int) (x_call3 (α := Tup (Tup Pr)) (β := Nat) (γ := Pr) (δ := Tup (Tup Pr)) (f := fun P i x => layF P i x) (xp rfl (e5.trans e)) (x_var (i := 6) rfl rk) (x_var (i := 1) rfl (mn ((E0.trans e5).trans e) rx)) ⟨okb, ?_⟩) (x_ni (x_var (i := 6) rfl rk))).x fun H7 us7 ws7 e7 g7 q7 => ?_
    · refine hN _ _ (mks_step (mks_of (e5.trans e7)) (mks_upd (by simp))) ⟨_, _, _, rfl, Ex.mut ((E0.trans e5).trans e7) hpf, ?_⟩
      have e : (L.take (i + 1)).flatMap (goF x) = (L.take i).flatMap (goF x) ++ goF x b := by
        rw [tk, List.flatMap_append]
        simp
      exact (congrArg (fun l => Own (α := TPI) pf l (upd H7 pf (.lst (us7 ++ ws7)))) e).mpr q7
    · obtain ⟨hk, _⟩ := List.mem_filter.mp hk
      obtain ⟨j, hj, rfl⟩ := List.mem_map.mp hk
      have := List.mem_range.mp hj
      omega
  · obtain ⟨y3, y4, y5, rfl, e0, ho⟩ := hP
    have e : (L.take L.length).flatMap (goF x) = pwF L x := by
      rw [List.take_length]
      rfl
    have ho : Own (α := TPI) pf (pwF L x) H' := (congrArg (fun l => Own (α := TPI) pf l H') e).mp ho
    exact q_ret (x_var (α := Lst TPI) (a := pwF L x) (i := 2) rfl ho.rp) fun v H2 r => q v H2 (RX.bk.bk e0 r)
end K77

namespace K77
open PySem L2 DL Evl StX
open Arg (rp mn)
open Rep (mt)
open BN (Ord at')
open PL (Pr Two tab tl gr share)
variable {K : PySem.W.Frag}

def itP (x : Pr) : Nat → List (Pln × Int) → List (Pln × Int)
  | 0, L => L
  | n + 1, L => pwF (itP x n L) x
def lay0 (F : List Pln) : List (Pln × Int) := F.map fun p => (p, -1)
def stP (T : List (List Nat)) (i : Nat) : List Pln := ((pairsF 2 2).take i).foldl (fun F x => (itP x (cell T x) (lay0 F)).map (·.1)) [[[], []]]
theorem stP_ok : ∀ T ∈ tabs3, ∀ i < 4, (stP T i).length ≤ 10 ∧ ∀ x ∈ (pairsF 2 2)[i]?, ∀ j ≤ cell T x, okP (itP x j (lay0 (stP T i))) = true := by
  have : ∀ T ∈ tabs3, ∀ i < 4, (stP T i).length ≤ 10 ∧ ∀ j < 3, okP (itP ((pairsF 2 2).getD i (0, 0)) j (lay0 (stP T i))) = true ∨ cell T ((pairsF 2 2).getD i (0, 0)) < j := by decide +kernel
  intro T hT i hi
  obtain ⟨h1, h2⟩ := this T hT i hi
  refine ⟨h1, fun x hx j hj => ?_⟩
  have hx : (pairsF 2 2)[i]? = some x := hx
  have e : (pairsF 2 2).getD i (0, 0) = x := by
    rw [List.getD_eq_getElem?_getD, hx]
    rfl
  rw [e] at h2
  have c2 := (t3_cell T hT x (List.mem_of_getElem? hx)).2.2.1
  rcases h2 j (by omega) with h | h
  · exact h
  · omega
theorem stP_end : ∀ T ∈ tabs3, (stP T 4).length ≤ 10 ∧ (stP T 4).length = cntF T ∧ ∀ P ∈ stP T 4, P.length = 2 := by decide +kernel
theorem alikeAll_of : ∀ (xs ys : List PyData), (∀ x ∈ xs, ∀ y ∈ ys, PySem.W.alike x y = true) → PySem.W.alikeAll xs ys = true
  | [], _, _ => by simp [PySem.W.alikeAll]
  | _ :: _, [], _ => by simp [PySem.W.alikeAll]
  | x :: xs, y :: ys, h => by
    rw [PySem.W.alikeAll, h x List.mem_cons_self y List.mem_cons_self, alikeAll_of xs ys fun a ha b hb => h a (List.mem_cons_of_mem _ ha) b (List.mem_cons_of_mem _ hb)]
    rfl
theorem alike_plan (P Q : Pln) : PySem.W.alike (Pd.pd (α := Tup (Tup Pr)) P) (Pd.pd (α := Tup (Tup Pr)) Q) = true := by
  show PySem.W.alike (.tuple (List.map (Pd.pd (α := Tup Pr)) P)) (.tuple (List.map (Pd.pd (α := Tup Pr)) Q)) = true
  rw [PySem.W.alike]
  refine alikeAll_of _ _ fun a ha b hb => ?_
  obtain ⟨r, _, rfl⟩ := List.mem_map.mp ha
  obtain ⟨t, _, rfl⟩ := List.mem_map.mp hb
  show PySem.W.alike (.tuple (List.map (Pd.pd (α := Pr)) r)) (.tuple (List.map (Pd.pd (α := Pr)) t)) = true
  rw [PySem.W.alike]
  refine alikeAll_of _ _ fun a ha b hb => ?_
  obtain ⟨r, _, rfl⟩ := List.mem_map.mp ha
  obtain ⟨t, _, rfl⟩ := List.mem_map.mp hb
  exact alike_pr r t
def RAll (T : List (List Nat)) : Res := fun H v H' => ∃ Ps : List Pln, Ps.Perm (stP T 4) ∧ RX (α := Tup (Tup (Tup Pr))) Ps H v H'
theorem RAll.bk {T : List (List Nat)} : Bk (RAll T) := ⟨fun e ⟨P, h1, h2⟩ => ⟨P, h1, RX.bk.bk e h2⟩⟩
def sp_all_plans_by : Sp := sp2 (α := Tup (Tup Nat)) (β := Nat) (fun T n => T ∈ tabs3 ∧ n = 2) fun T _ => RAll T
theorem len_all_plans_by : ∀ vs H Q E, sp_all_plans_by vs H Q E → vs.length = 2 := sp2_len
theorem x_m1 {σ : L2.St} {H : Hp} : EX (tUn oNeg (tC (.int 1))) σ H (-1 : Int) := fun H1 e Q q => ⟨1, rfl, q _ _ ⟨Ex.refl _, rfl⟩⟩
theorem sem_all_plans_by : ∀ vs H Q E, sp_all_plans_by vs H Q E → t_all_plans_by K sp_pairs_of sp_plans_with (eN Q) (start ["table", "times", "found", "first", "second", "laid", "plan", "_"] vs) H := fun vs H Q E hh => by
  obtain ⟨(T : List (List Nat)), n, vT, vn, rfl, rT, rn, ⟨hT, rfl⟩, q⟩ := hh
  have q : ∀ v H', RAll T H v H' → Q v H' := q
  refine q_set (f_lst (α := Tup (Tup Pr)) (as := [[[], []]]) (xs_cons (x_repT1 (α := Tup Pr) (a := []) (n := 2) (x_tup (α := Pr) (as := []) xs_nil (Nat.zero_le _)) (x_var (i := 1) rfl rn) (by decide) (by decide)) xs_nil) (show 1 ≤ 100000 by decide)) fun v1 H1 r1 => ?_
  obtain ⟨p1, rfl, hp1, e1, o1⟩ := Own.of r1
  refine z_for (α := Pr) (xs := pairsF 2 2) (i_list (α := Pr) (f_pairs3 hT (x_var (α := Tup (Tup Nat)) (a := T) (i := 0) rfl (mn e1 rT))).x) (fun i σ' H' => ∃ (vf : L2.V) (y3 y4 y5 y7 : Option L2.V), σ' = [some vT, some vn, some vf, y3, y4, y5, none, y7] ∧ rp (α := Lst (Tup (Tup Pr))) (stP T i) vf H') (fun H2 e2 => ⟨_, none, none, none, none, rfl, (o1.ex e2).rp⟩) (fun i a x σ' H0 H' hi e2 hP e3 ra N hN => ?_) fun σ' H' e2 hP => ?_
  · obtain ⟨vf, y3, y4, y5, y7, rfl, rf⟩ := hP
    have hm := List.mem_of_getElem? hi
    have hi4 : i < 4 := (List.getElem?_eq_some_iff.mp hi).1
    have tk : (pairsF 2 2).take (i + 1) = (pairsF 2 2).take i ++ [a] := by rw [List.take_add_one, hi]; rfl
    have st : stP T (i + 1) = (itP a (cell T a) (lay0 (stP T i))).map (·.1) := by
      unfold stP
      rw [tk, List.foldl_append]
      rfl
    obtain ⟨l10, okj⟩ := stP_ok T hT i hi4
    have okj := okj a hi
    obtain ⟨_, _, c2, _⟩ := t3_cell T hT a hm
    obtain ⟨b, u, w, rfl, g, ru, rw'⟩ := ra
    refine ⟨b, [u, w], rfl, st_of g, rfl, u, [w], rfl, w, [], rfl, rfl, ?_⟩
    have ru : rp a.1 u H' := ru
    have rw' : rp a.2 w H' := rw'
    have E0 := (e1.trans e2).trans e3
    have rf3 := mn e3 rf
    refine q_set (f_lcM (α := Tup (Tup Pr)) (β := TPI) (xs := stP T i) (fun p => (p, -1)) (i_list (α := Tup (Tup Pr)) (x_var (α := Lst (Tup (Tup Pr))) (a := stP T i) (i := 2) rfl rf3)) (show (stP T i).length ≤ 100000 by omega) (fun _ => rfl) fun (P : Pln) z H5 hm e rz => x_pair (α := Tup (Tup Pr)) (β := Int) (x_var (α := Tup (Tup Pr)) (a := P) (i := 6) rfl rz) x_m1) fun v5 H5 r5 => ?_
    have r5' : RX (α := Lst TPI) (lay0 (stP T i)) H' v5 H5 := let ⟨e, p, vs, h1, h2, h3, h4⟩ := r5; ⟨e, p, vs, h1, h3, h4⟩
    have e5 := r5'.1
    refine z_for (α := Nat) (xs := List.range (cell T a)) (i_rng (x_cell hT hm (x_var (α := Tup (Tup Nat)) (a := T) (i := 0) rfl (mn (E0.trans e5) rT)) (x_var (a := a.1) (i := 3) rfl (mn e5 ru)) (x_var (a := a.2) (i := 4) rfl (mn e5 rw'))) (by omega)) (fun j σ3 H3 => ∃ (vl : L2.V) (y7 : Option L2.V), σ3 = [some vT, some vn, some vf, some u, some w, some vl, none, y7] ∧ rp (α := Lst TPI) (itP a j (lay0 (stP T i))) vl H3) (fun H6 e6 => ⟨v5, y7, rfl, mn e6 r5'.2⟩) (fun j c z σ3 H6 H7 hj e6 hP e7 rc N2 hN2 => ?_) fun σ3 H6 e6 hP => ?_
    · obtain ⟨vl, y7, rfl, rl⟩ := hP
      have hjc : j < cell T a := by
        have := (List.getElem?_eq_some_iff.mp hj).1
        rwa [List.length_range] at this
      have ee := (e5.trans e6).trans e7
      exact q_set (x_call2 (α := Lst TPI) (β := Pr) (γ := Lst TPI) (f := fun L x => pwF L x) (x_var (α := Lst TPI) (a := itP a j (lay0 (stP T i))) (i := 5) rfl (mn e7 rl)) (x_pair (α := Nat) (β := Nat) (x_var (a := a.1) (i := 3) rfl (mn ee ru)) (x_var (a := a.2) (i := 4) rfl (mn ee rw'))) (okj j (Nat.le_of_lt hjc))) fun v8 H8 ⟨e8, r8⟩ => hN2 _ _ e8 ⟨v8, _, rfl, r8⟩
    · obtain ⟨vl, y7, rfl, rl⟩ := hP
      rw [List.length_range] at rl
      have lb := (okP_iff (okj _ (Nat.le_refl _))).1
      refine q_set (f_lcPM (α := Tup (Tup Pr)) (β := Int) (γ := Tup (Tup Pr)) (xs := itP a (cell T a) (lay0 (stP T i))) (fun p => p.1) (i_list (α := TPI) (x_var (α := Lst TPI) (i := 5) rfl rl)) (show (itP a (cell T a) (lay0 (stP T i))).length ≤ 100000 by omega) (fun _ _ => rfl) fun p y z H7 hm e r1 r2 => x_var (α := Tup (Tup Pr)) (a := p.1) (i := 6) rfl r1) fun v8 H8 r8 => ?_
      have r8' : RX (α := Lst (Tup (Tup Pr))) ((itP a (cell T a) (lay0 (stP T i))).map (·.1)) H6 v8 H8 := let ⟨e, p, vs, h1, h2, h3, h4⟩ := r8; ⟨e, p, vs, h1, h3, h4⟩
      exact hN _ _ ((e5.trans e6).trans r8'.1) ⟨v8, _, _, _, _, rfl, (congrArg (fun l => rp (α := Lst (Tup (Tup Pr))) l v8 H8) st).mpr r8'.2⟩
  · obtain ⟨vf, y3, y4, y5, y7, rfl, rf⟩ := hP
    have rf : rp (α := Lst (Tup (Tup Pr))) (stP T 4) vf H' := rf
    obtain ⟨_, _, p2⟩ := stP_end T hT
    refine q_ret (x_tupleOf (α := Tup (Tup Pr)) (f_sortD (α := Tup (Tup Pr)) (as := stP T 4) (x_var (α := Lst (Tup (Tup Pr))) (i := 2) rfl rf) (fun a _ b _ => alike_plan a b) (fun (P : Pln) hP => ?_) (by decide)).x) fun v H2 r => q v H2 ⟨_, List.mergeSort_perm _ _, RX.bk.bk (e1.trans e2) r⟩
    have := p2 P hP
    cases P with
    | nil => cases this
    | cons r P => exact ⟨_, _, rfl⟩
def sp_all_plans : Sp := sp2 (α := Tup (Tup Nat)) (β := Nat) (fun T n => T ∈ tabs3 ∧ n = 2) fun T _ => RAll T
theorem len_all_plans : ∀ vs H Q E, sp_all_plans vs H Q E → vs.length = 2 := sp2_len
theorem sem_all_plans : ∀ vs H Q E, sp_all_plans vs H Q E → t_all_plans K sp_plan_count sp_all_plans_by (eN Q) (start ["table", "times"] vs) H := fun vs H Q E hh => by
  obtain ⟨(T : List (List Nat)), n, vT, vn, rfl, rT, rn, ⟨hT, rfl⟩, q⟩ := hh
  obtain ⟨l10, lc, _⟩ := stP_end T hT
  refine z_if (b := false) (t_test (ex_is (x_gtN (i := cntF T) (j := 200) (x_call2 (α := Tup (Tup Nat)) (β := Nat) (γ := Nat) (f := fun T _ => cntF T) (x_var (α := Tup (Tup Nat)) (a := T) (i := 0) rfl rT) (x_var (i := 1) rfl rn) ⟨hT, rfl⟩) (x_n (n := 200) rfl)) (decide_eq_false (by omega)))) (fun z => nomatch z) fun _ H1 e1 => z_next ?_
  exact q_ret (r_call2 (α := Tup (Tup Nat)) (β := Nat) (R := fun T _ => RAll T) (fun _ _ => RAll.bk) (x_var (α := Tup (Tup Nat)) (a := T) (i := 0) rfl (mn e1 rT)) (x_var (i := 1) rfl (mn e1 rn)) ⟨hT, rfl⟩) fun v H2 r => q v H2 (RAll.bk.bk e1 r)
/-- tables of two by two, plans of them -/
theorem two2 {p0 p1 : List Nat} (P : Two 2 p0 p1) : tab 2 p0 p1 ∈ tabs3 ∧ [gr p0, gr p1] ∈ stP (tab 2 p0 p1) 4 := by
  have e : ∀ {p : List Nat}, Ord 2 p → p = [0, 1] ∨ p = [1, 0] := fun {p} O => by
    have := ord2 O
    have h0 := O.lt' (i := 0) (by decide)
    have h : at' p 0 = 0 ∨ at' p 0 = 1 := by omega
    rcases h with h | h <;> rw [h] at this
    · exact .inl this
    · exact .inr this
  rcases e P.O0 with rfl | rfl <;> rcases e P.O1 with rfl | rfl <;> decide +kernel
end K77

namespace K77
open PySem L2 DL Evl StX
open Arg (rp mn)
open Rep (mt)
open BN (Ord at')
open PL (Pr srt loneF chainF chainsF exchF gr Two tab tl lpF Led)
open NT (Col Setg four eight inn2 inn4 up lo)
variable {K : PySem.W.Frag}

theorem lpF_eq {h h' : Nat} {p0 p1 q0 q1 : List Nat} (e : tab h q0 q1 = tab h' p0 p1) : lpF h' (tl p0 p1) = lpF h (tl q0 q1) := by
  have hh : h = h' := by
    have := congrArg List.length e
    rwa [tab_len, tab_len] at this
  subst hh
  unfold lpF
  have fm : ∀ {α β : Type} {f g : α → List β} (l : List α), (∀ x ∈ l, f x = g x) → l.flatMap f = l.flatMap g := by
    intro α β f g l
    induction l with
    | nil => intro _; rfl
    | cons x l ih =>
      intro hx
      rw [List.flatMap_cons, List.flatMap_cons, hx x List.mem_cons_self, ih fun y hy => hx y (List.mem_cons_of_mem _ hy)]
  refine fm _ fun a ha => fm _ fun b hb => ?_
  rw [PL.tab_eq e (List.mem_range.mp ha) (List.mem_range.mp hb)]
def sp__law_is_plan : Sp := sp3 (α := Tup (Tup Nat)) (β := Tup (Tup Pr)) (γ := Nat) (fun T V r => IsPl T V ∧ r = 2) fun _ _ _ => RX true
theorem len__law_is_plan : ∀ vs H Q E, sp__law_is_plan vs H Q E → vs.length = 3 := sp3_len
theorem sem__law_is_plan : ∀ vs H Q E, sp__law_is_plan vs H Q E → t__law_is_plan K sp__law_is_round sp__law_pairs (eN Q) (start ["table", "value", "rounds", "each", "found"] vs) H := fun vs H Q E hh => by
  obtain ⟨(T : List (List Nat)), (V : List (List Pr)), r, vT, vV, vr, rfl, rT, rV, rr, ⟨⟨h, q0, q1, P, hT, hV⟩, rfl⟩, q⟩ := hh
  have h24 := P.h24
  have tl' : T.length = h := by rw [hT, tab_len]
  have vl : V.length = 2 := by rw [hV]; rfl
  have l0 := P.O0.len
  have l1 := P.O1.len
  have hr0 : T[0]? = some ((List.range h).map fun b => tl q0 q1 0 b) := by rw [hT, tab_get (by omega)]
  have xT : ∀ {σ : L2.St} {H' : Hp}, σ[0]? = some (some vT) → Ex H H' → EX (α := Tup (Tup Nat)) (tVar 0) σ H' T := fun hs e => x_var hs (mn e rT)
  have xV : ∀ {σ : L2.St} {H' : Hp}, σ[1]? = some (some vV) → Ex H H' → EX (α := Tup (Tup Pr)) (tVar 1) σ H' V := fun hs e => x_var hs (mn e rV)
  refine z_if (b := false) (et_or (a := false) (b := false) (et_is (et_not (t_B (x_isi (b := true) (α := Tup (Tup Pr)) (xV rfl (Ex.refl _)) (ty_tup (α := Tup Pr) (by decide +kernel))))) rfl) fun _ => et_or (a := false) (b := false) (t_test (ex_is (x_neS (a := V.length) (b := 2) (x_lenT (α := Tup Pr) (as := V) (xV rfl (Ex.refl _))) (x_var (i := 2) rfl rr) sc_nat) (by rw [vl]; rfl))) fun _ => et_is (et_not (t_B (x_all (f_lcM (α := Tup Pr) (β := Bool) (xs := V) (fun _ => true) (i_tup (α := Tup Pr) (xV rfl (Ex.refl _))) (show V.length ≤ 100000 by omega) (fun _ => rfl) fun (r : List Pr) y H1 hm e ra => x_call3 (α := Tup Pr) (β := Nat) (γ := Nat) (f := fun _ _ _ => true) (a := r) (b := h) (c := h) (x_var (α := Tup Pr) (i := 3) rfl ra) (ex_is (x_lenT (α := Tup Nat) (as := T) (xT rfl e)) tl') (ex_is (x_lenT (α := Nat) (as := (List.range h).map fun b => tl q0 q1 0 b) (x_ixT (α := Tup Nat) (t := T) (i := 0) (xT rfl e) (x_n (n := 0) rfl) hr0)) (by rw [List.length_map, List.length_range])) (IsPl.rounds P r (by rw [← hV]; exact hm))).x))) (congrArg (!·) (all_true (l := V) (f := fun _ => true) fun _ _ => rfl))) (fun z => nomatch z) fun _ H1 e1 => z_next ?_
  refine q_set (f_lst (α := Pr) (as := []) xs_nil (Nat.zero_le _)) fun v H2 r2 => ?_
  obtain ⟨p, rfl, hp, e2, ho⟩ := Own.of r2
  have E2 := e1.trans e2
  refine z_for (α := Tup Pr) (xs := V) (i_tup (α := Tup Pr) (xV rfl E2)) (fun i σ' H' => ∃ p y3, σ' = [some vT, some vV, some vr, y3, some (.ref p)] ∧ H p = none ∧ Ex H H' ∧ Own (α := Pr) p (List.flatten (α := Pr) (V.take i)) H') (fun H3 e3 => ⟨p, none, rfl, fresh_back e1 hp, E2.trans e3, ho.ex e3⟩) (fun i (R : List Pr) x σ' H0 H' hi e3 hP e4 ra N hN => ?_) fun σ' H' e3 hP => ?_
  · obtain ⟨p, y3, rfl, hp, e0, ho⟩ := hP
    have hi : V[i]? = some R := hi
    have tk : V.take (i + 1) = V.take i ++ [R] := by rw [List.take_add_one, hi]; rfl
    have bR : ∀ R ∈ V, R.length ≤ 6 := fun R hR => (IsPl.rounds P R (by rw [← hV]; exact hR)).le
    have hRl := bR R (List.mem_of_getElem? hi)
    have hfl : (V.take i).flatten.length ≤ 12 := by
      have h1 := flat_le (g := fun R : List Pr => R) (c := 6) (V.take i) fun R hR => bR R (List.mem_of_mem_take hR)
      have h2 : (V.take i).length ≤ 2 := by rw [List.length_take]; omega
      rw [show (V.take i).flatMap (fun R : List Pr => R) = (V.take i).flatten from by simp [List.flatMap_def]] at h1
      omega
    refine q_set (f_cat (α := Pr) (x_var (α := Lst Pr) (i := 4) rfl (ho.ex e4).rp) (f_listOfT (α := Pr) (as := R) (x_var (α := Tup Pr) (i := 3) rfl ra)).x (by omega)) fun v5 H5 r5 => ?_
    obtain ⟨p5, rfl, hp5, e5, ho5⟩ := Own.of r5
    refine hN _ _ e5 ⟨p5, _, rfl, fresh_back (e0.trans e4) hp5, (e0.trans e4).trans e5, ?_⟩
    rw [tk, List.flatten_append]
    simpa using ho5
  · obtain ⟨p, y3, rfl, hp, e0, ho⟩ := hP
    have hfl : (List.flatten (α := Pr) (V.take V.length)) = gr q0 ++ gr q1 := by
      rw [List.take_length, hV]
      simp
    have ho : Own (α := Pr) p (List.flatten (α := Pr) (V.take V.length)) H' := ho
    rw [hfl] at ho
    have lp : EF (α := Pr) (tCall sp__law_pairs [] E0 (tCons (tVar 0) tNil)) [some vT, some vV, some vr, y3, some (.ref p)] H' (lpF h (tl q0 q1)) := (r_call1 (α := Tup (Tup Nat)) (R := fun T H v H' => ∃ h p0 p1, T = tab h p0 p1 ∧ RF (α := Pr) (lpF h (tl p0 p1)) H v H') (fun _ => ⟨fun e ⟨h, p0, p1, h1, h2⟩ => ⟨h, p0, p1, h1, RF.bk.bk e h2⟩⟩) (x_var (α := Tup (Tup Nat)) (a := T) (i := 0) rfl (mn e0 rT)) ⟨h, q0, q1, P, hT⟩).to fun H1 v H2 ⟨h', p0, p1, hT', r⟩ => by
      rw [lpF_eq (hT.symm.trans hT')] at r
      exact r
    exact q_ret (ex_is (x_eqP (α := Lst Pr) (a := srt (gr q0 ++ gr q1)) (b := lpF h (tl q0 q1)) (f_srt (K := K) (x_var (α := Lst Pr) (i := 4) rfl ho.rp)).x lp.x (by decide)) (decide_eq_true (p := (srt (gr q0 ++ gr q1) : Lst Pr) = lpF h (tl q0 q1)) (PL.lp_two P))) fun v H3 r => q v H3 (RX.bk.bk e0 r)
/-! ### tables of orders, rounds of settings -/
def IsLed (S : List (List Nat)) (o : List Nat) : Prop := ∃ h p0 p1, Led h S o p0 p1
def RRnds (S : List (List Nat)) (o : List Nat) : Res := fun H v H' => ∃ h p0 p1, Led h S o p0 p1 ∧ RX (α := Tup (Tup Pr)) ([gr p0, gr p1] : List (List Pr)) H v H'
theorem RRnds.bk {S : List (List Nat)} {o : List Nat} : Bk (RRnds S o) := ⟨fun e ⟨h, p0, p1, h1, h2⟩ => ⟨h, p0, p1, h1, RX.bk.bk e h2⟩⟩
def sp__law_rounds_of : Sp := sp2 (α := Tup (Tup Nat)) (β := Tup Nat) (fun S o => IsLed S o) fun S o => RRnds S o
theorem len__law_rounds_of : ∀ vs H Q E, sp__law_rounds_of vs H Q E → vs.length = 2 := sp2_len
/-- the side of a line -/
def sideF (c : List Nat) (l : Nat) : Nat := (l + at' c (l / 2)) % 2
theorem side_lines {c : List Nat} {h s : Nat} (hs : s ≤ 1) : ((List.range (2 * h)).filter fun i => decide (sideF c i = s)) = (List.range h).map fun a => 2 * a + (s + at' c a) % 2 := by
  rw [SD.filter_lines hs h fun k _ => ?_]
  · refine List.map_congr_left fun a _ => ?_
    unfold BN.lineOf sideF
    have : 2 * a / 2 = a := by omega
    rw [this]
    split <;> omega
  · unfold sideF
    have h1 : 2 * k / 2 = k := by omega
    have h2 : (2 * k + 1) / 2 = k := by omega
    rw [h1, h2]
    omega
theorem rnd_of {h : Nat} {S : List (List Nat)} {o p0 p1 c : List Nat} {r : List (List Nat)} (L : Led h S o p0 p1) (hS : S = c :: r) {s : Nat} (hs : s ≤ 1) : (((List.range (2 * h)).filter fun i => decide (sideF c i = s)).map fun l => (l / 2, at' o l / 2)) = gr (if s = 0 then p0 else p1) := by
  have l0 := L.P.O0.len
  have l1 := L.P.O1.len
  rw [side_lines hs, List.map_map]
  have hl : (if s = 0 then p0 else p1).length = h := by split <;> assumption
  unfold gr
  rw [hl]
  refine List.map_congr_left fun a ha => ?_
  have ha := List.mem_range.mp ha
  show ((2 * a + (s + at' c a) % 2) / 2, at' o (2 * a + (s + at' c a) % 2) / 2) = _
  have h1 := L.led a ha s hs
  rw [hS] at h1
  have h1 : at' o (2 * a + (s + at' c a) % 2) / 2 = at' (if s = 0 then p0 else p1) a := h1
  rw [h1]
  congr 1
  omega
theorem z_appG {α : Type} [Rep α] {σ : L2.St} {H : Hp} {to te : TE} {nx bk ct : L2.St → Hp → Prop} {rt : VK} {p : Addr} {as : List α} {a : α} (hto : ∀ Q : VK, Q (.ref p) H → to σ H Q) (ho : Own p as H) (hz : as.length < 100000) (h : EX te σ H a) (k : ∀ H1 v us, Ex H H1 → rp a v H1 → H1 p = some (.lst us) → Own p (as ++ [a]) (upd H1 p (.lst (us ++ [v]))) → nx σ (upd H1 p (.lst (us ++ [v])))) :
    tDrop (tBM K "list" rAppend to (tCons te tNil)) ⟨nx, rt, bk, ct⟩ σ H := by
  obtain ⟨vs, h1, h2⟩ := ho
  refine hto _ ⟨.inl ⟨rfl, vs, sq_of h1⟩, h H (Ex.refl _) _ fun v H1 ⟨e1, r1⟩ => ?_⟩
  refine ⟨p, vs, v, rfl, rfl, e1 _ _ h1, sz_lt (by rw [← h2.len]; exact hz), k H1 v vs e1 r1 (e1 _ _ h1) ⟨_, upd_same, its_snoc (Its.mt (ext_lst (e1 _ _ h1)) (h2.mono e1)) (mt (ext_lst (e1 _ _ h1)) r1)⟩⟩
theorem srt_gr_id (p : List Nat) : srt (gr p) = gr p := PL.srt_gr (List.Perm.refl _)
theorem sem__law_rounds_of : ∀ vs H Q E, sp__law_rounds_of vs H Q E → t__law_rounds_of K (eN Q) (start ["setting", "order", "found", "line", "side"] vs) H := fun vs H Q E hh => by
  obtain ⟨(S : List (List Nat)), (o : List Nat), vS, vo, rfl, rS, ro, ⟨h, p0, p1, L⟩, q⟩ := hh
  obtain ⟨c, r, hS, hc⟩ := L.hd
  have h24 := L.P.h24
  have ol := L.olen
  have cl := hc.len
  have xS : ∀ {σ : L2.St} {H' : Hp}, σ[0]? = some (some vS) → rp (α := Tup (Tup Nat)) S vS H' → EX (α := Tup (Tup Nat)) (tVar 0) σ H' S := fun hs e => x_var hs e
  have xo : ∀ {σ : L2.St} {H' : Hp}, σ[1]? = some (some vo) → rp (α := Tup Nat) o vo H' → EX (α := Tup Nat) (tVar 1) σ H' o := fun hs e => x_var hs e
  -- two own lists
  let F : Nat → Nat → List Pr := fun i s => ((List.range i).filter fun l => decide (sideF c l = s)).map fun l => (l / 2, at' o l / 2)
  have Fz : ∀ s, F 0 s = [] := fun s => rfl
  have Fs : ∀ i s, F (i + 1) s = if sideF c i = s then F i s ++ [(i / 2, at' o i / 2)] else F i s := fun i s => by
    show ((List.range (i + 1)).filter _).map _ = _
    rw [List.range_succ, List.filter_append, List.map_append]
    by_cases e : sideF c i = s
    · rw [if_pos e]
      simp [F, e]
    · rw [if_neg e]
      simp [F, e]
  have Fl : ∀ i s, i ≤ 8 → (F i s).length ≤ 8 := fun i s hi => by
    show (List.map _ _).length ≤ _
    rw [List.length_map]
    have := List.length_filter_le (fun l => decide (sideF c l = s)) (List.range i)
    rw [List.length_range] at this
    omega
  have Fe : ∀ s ≤ 1, F (2 * h) s = gr (if s = 0 then p0 else p1) := fun s hs => rnd_of L hS hs
  clear_value F
  refine q_set (R := fun H v H' => Ex H H' ∧ ∃ f x0 x1, v = .ref f ∧ H f = none ∧ H x0 = none ∧ H x1 = none ∧ f ≠ x0 ∧ f ≠ x1 ∧ x0 ≠ x1 ∧ H' f = some (.lst [.ref x0, .ref x1]) ∧ Own (α := Pr) x0 [] H' ∧ Own (α := Pr) x1 [] H') (fun H1 e Q1 q1 => ?_) fun v H1 ⟨e1, f, x0, x1, hv, hf, h0, h1, nf0, nf1, n01, gf, o0, o1⟩ => ?_
  · refine ⟨sz_of (Nat.zero_le _), fun x0 hx0 => ⟨sz_of (Nat.zero_le _), fun x1 hx1 => ⟨sz_of (show 2 ≤ 100000 by decide), fun f hf => ?_⟩⟩⟩
    have n01 : x0 ≠ x1 := fun z => by
      rw [← z, upd_same] at hx1
      cases hx1
    have g1 : (upd (upd H1 x0 (.lst [])) x1 (.lst [])) x1 = some (.lst []) := upd_same
    have g0 : (upd (upd H1 x0 (.lst [])) x1 (.lst [])) x0 = some (.lst []) := by rw [upd_ne n01, upd_same]
    have nf0 : f ≠ x0 := fun z => by rw [z, g0] at hf; cases hf
    have nf1 : f ≠ x1 := fun z => by rw [z, g1] at hf; cases hf
    have e2 : Ex H1 (upd (upd H1 x0 (.lst [])) x1 (.lst [])) := (Ex.new hx0).trans (Ex.new hx1)
    exact q1 _ _ ⟨e2.trans (Ex.new hf), f, x0, x1, rfl, fresh_back e2 hf, hx0, fresh_back (Ex.new hx0) hx1, nf0, nf1, n01, upd_same, ⟨[], Ex.new hf _ _ g0, .nil⟩, ⟨[], Ex.new hf _ _ g1, .nil⟩⟩
  subst hv
  refine z_forO (α := Nat) (xs := List.range (2 * h)) [x0, x1] (is_rng (ex_is (x_lenT (α := Nat) (as := o) (xo rfl (mn e1 ro))) ol) (by omega)) (fun i σ' H' => ∃ y3 y4, σ' = [some vS, some vo, some (.ref f), y3, y4] ∧ Ex H H' ∧ H' f = some (.lst [.ref x0, .ref x1]) ∧ Own (α := Pr) x0 (F i 0) H' ∧ Own (α := Pr) x1 (F i 1) H') (fun H2 e2 => ⟨none, none, rfl, e1.trans e2, e2 _ _ gf, by rw [Fz]; exact o0.ex e2, by rw [Fz]; exact o1.ex e2⟩) (fun i a x σ' H0' H' hi hP e3 ra N hN => ?_) fun σ' H' hP => ?_
  · obtain ⟨y3, y4, rfl, e0, gf', o0', o1'⟩ := hP
    have hih : i < 2 * h := by
      have := (List.getElem?_eq_some_iff.mp hi).1
      rwa [List.length_range] at this
    have ea : a = i := by
      rw [List.getElem?_range hih] at hi
      exact (Option.some.inj hi).symm
    subst ea
    have E0 := e0.trans e3
    have hg0 : S[0]? = some c := by rw [hS]; rfl
    have hgc : c[a / 2]? = some (at' c (a / 2)) := BN.get_at (by omega)
    have hgo : o[a]? = some (at' o a) := BN.get_at (by omega)
    refine q_set (x_modN (i := a + at' c (a / 2)) (j := 2) (x_intN (x_addN (x_var (a := a) (i := 3) rfl ra) (x_ixT (α := Nat) (t := c) (i := a / 2) (x_ixT (α := Tup Nat) (t := S) (i := 0) (xS rfl (mn E0 rS)) (x_n (n := 0) rfl) hg0) (x_divN (x_var (a := a) (i := 3) rfl ra) (x_n (n := 2) rfl) (by decide) (by decide)) hgc))) (x_n (n := 2) rfl) (by decide)) fun vs H2 ⟨e2, rs⟩ => ?_
    have E2 := E0.trans e2
    have rs : vs = .int ((sideF c a : Nat) : Int) := rs
    subst rs
    have hs2 : sideF c a < 2 := Nat.mod_lt _ (by decide)
    have gf2 := (e3.trans e2) _ _ gf'
    have pr : EX (α := Pr) (tTup (tCons (tOp oDiv (tVar 3) (tC (.int 2))) (tCons (tOp oDiv (tOp (rIxT K) (tVar 1) (tVar 3)) (tC (.int 2))) tNil))) [some vS, some vo, some (.ref f), some x, some (.int ((sideF c a : Nat) : Int))] H2 (a / 2, at' o a / 2) := x_pair (α := Nat) (β := Nat) (x_divN (x_var (a := a) (i := 3) rfl (mn e2 ra)) (x_n (n := 2) rfl) (by decide) (by decide)) (x_divN (x_ixT (α := Nat) (t := o) (i := a) (xo rfl (mn E2 ro)) (x_var (a := a) (i := 3) rfl (mn e2 ra)) hgo) (x_n (n := 2) rfl) (by decide) (by decide))
    have lf0 := Fl a 0 (by omega)
    have lf1 := Fl a 1 (by omega)
    have hside : sideF c a = 0 ∨ sideF c a = 1 := by omega
    rcases hside with z | z
    · refine z_appG (α := Pr) (p := x0) (as := F a 0) (a := (a / 2, at' o a / 2)) (fun Q hq => ⟨.ref f, rfl, .int ((sideF c a : Nat) : Int), rfl, f, [.ref x0, .ref x1], ((sideF c a : Nat) : Int), .ref x0, rfl, rfl, sq_of gf2, by rw [z]; rfl, hq⟩) (o0'.ex (e3.trans e2)) (by omega) pr fun H5 v5 us5 e5 r5 g5 q5 => ?_
      refine hN _ _ (mks_step (mks_of (e2.trans e5)) (mks_upd (by simp))) ⟨_, _, rfl, Ex.mut (E2.trans e5) h0, ?_, ?_, ?_⟩
      · rw [upd_ne nf0]
        exact e5 _ _ gf2
      · rw [Fs, if_pos z]
        exact q5
      · rw [Fs, if_neg (by omega)]
        exact (o1'.ex ((e3.trans e2).trans e5)).upd (ws := us5 ++ [v5]) g5 n01.symm
    · refine z_appG (α := Pr) (p := x1) (as := F a 1) (a := (a / 2, at' o a / 2)) (fun Q hq => ⟨.ref f, rfl, .int ((sideF c a : Nat) : Int), rfl, f, [.ref x0, .ref x1], ((sideF c a : Nat) : Int), .ref x1, rfl, rfl, sq_of gf2, by rw [z]; rfl, hq⟩) (o1'.ex (e3.trans e2)) (by omega) pr fun H5 v5 us5 e5 r5 g5 q5 => ?_
      refine hN _ _ (mks_step (mks_of (e2.trans e5)) (mks_upd (by simp))) ⟨_, _, rfl, Ex.mut (E2.trans e5) h1, ?_, ?_, ?_⟩
      · rw [upd_ne nf1]
        exact e5 _ _ gf2
      · rw [Fs, if_neg (by omega)]
        exact (o0'.ex ((e3.trans e2).trans e5)).upd (ws := us5 ++ [v5]) g5 n01
      · rw [Fs, if_pos z]
        exact q5
  · obtain ⟨y3, y4, rfl, e0, gf', o0', o1'⟩ := hP
    rw [List.length_range] at o0' o1'
    rw [Fe 0 (by decide)] at o0'
    rw [Fe 1 (by decide)] at o1'
    have o0' : Own (α := Pr) x0 (gr p0) H' := o0'
    have o1' : Own (α := Pr) x1 (gr p1) H' := o1'
    have xl : ∀ (k : Nat) (xk : Addr), (k = 0 ∧ xk = x0) ∨ (k = 1 ∧ xk = x1) → ∀ g, Own (α := Pr) xk g H' → EL (α := Pr) (tOp (rIxL K) (tVar 2) (tC (.int (k : Int)))) [some vS, some vo, some (.ref f), y3, y4] H' g := fun k xk hk g og H1 e Q1 q1 => ⟨.ref f, rfl, f, [.ref x0, .ref x1], (k : Int), .ref xk, rfl, rfl, sq_of (e _ _ gf'), by rcases hk with ⟨rfl, rfl⟩ | ⟨rfl, rfl⟩ <;> rfl, q1 _ _ ⟨Ex.refl _, (og.ex e).rp⟩⟩
    have t0 : ET (α := Pr) (tCB (rTupQ K) (tCons (tCB (rSortD K) (tCons (tOp (rIxL K) (tVar 2) (tC (.int 0))) tNil)) tNil)) [some vS, some vo, some (.ref f), y3, y4] H' (gr p0) := ex_is (α := Tup Pr) (x_tupleOf (α := Pr) (f_srt (K := K) (xl 0 x0 (.inl ⟨rfl, rfl⟩) _ o0')).x) (srt_gr_id p0)
    have t1 : ET (α := Pr) (tCB (rTupQ K) (tCons (tCB (rSortD K) (tCons (tOp (rIxL K) (tVar 2) (tC (.int 1))) tNil)) tNil)) [some vS, some vo, some (.ref f), y3, y4] H' (gr p1) := ex_is (α := Tup Pr) (x_tupleOf (α := Pr) (f_srt (K := K) (xl 1 x1 (.inr ⟨rfl, rfl⟩) _ o1')).x) (srt_gr_id p1)
    exact q_ret (x_tup (α := Tup Pr) (as := [gr p0, gr p1]) (xs_cons t0 (xs_cons t1 xs_nil)) (show 2 ≤ 100000 by decide)) fun v H3 r3 => q v H3 ⟨h, p0, p1, L, RX.bk.bk e0 r3⟩
end K77

namespace K77
open PySem L2 DL Evl StX
open Arg (rp mn)
open Rep (mt)
open BN (Ord at')
open PL (Pr srt gr Two tab tl Led)
open NT (Col Setg four eight inn2 inn4 up lo)
variable {K : PySem.W.Frag}

/-! ### lists of lists of numbers -/
structure Grd (D : Addr) (ps : List Addr) (M : Nat → List Nat) (H' : Hp) : Prop where
  d : H' D = some (.lst (ps.map V.ref))
  own : ∀ k p, ps[k]? = some p → Own (α := Nat) p (M k) H'
structure GrdS (H : Hp) (D : Addr) (ps : List Addr) (n : Nat) : Prop where
  hD : H D = none
  hp : ∀ p ∈ ps, H p = none
  nd : ps.Nodup
  dn : D ∉ ps
  len : ps.length = n
def RGrd (n : Nat) (row : List Nat) : Res := fun H v H' => Ex H H' ∧ ∃ D ps, v = .ref D ∧ GrdS H D ps n ∧ Grd D ps (fun _ => row) H'
theorem f_rows {σ : L2.St} {H : Hp} {tn te : TE} {j n : Nat} {vs : List Nat} {row : List Nat} (hn : EX tn σ H n) (hz : n ≤ 1000) (hw : ∀ x, wipe ((wipe σ vs).set j (some x)) vs = wipe σ vs) (he : ∀ x H1, Ex H H1 → EF (α := Nat) te ((wipe σ vs).set j (some x)) H1 row) :
    EvR (tLc (iRng1 (tCons tn tNil)) (gName j) tYes te vs) σ H (RGrd n row) := fun H1 e Q q => (i_rng hn (by omega)) H1 e _ fun J H2 e2 s D hD => by
  refine ⟨fun i m H' => m = n - i ∧ i ≤ n ∧ Ex H2 H' ∧ ∃ ps, GrdS H2 D ps i ∧ Grd D ps (fun _ => row) H', ⟨n, by simp, Nat.zero_le _, Ex.new hD, [], ⟨hD, (fun p h => nomatch h), List.nodup_nil, (fun h => nomatch h), rfl⟩, upd_same, (fun k p h => nomatch h)⟩, ?_⟩
  rintro i m H' ⟨rfl, hi, p2, ps, G, g⟩
  by_cases hlt : i < n
  · refine .inr ⟨s.go i H' p2 (by rw [List.length_range]; exact hlt), fun H'' => Ex H2 H'' ∧ ∃ ps, GrdS H2 D ps (i + 1) ∧ Grd D ps (fun _ => row) H'', fun H'' p' => ⟨n - (i + 1), by omega, rfl, hlt, p'⟩, fun x H3 y => ?_⟩
    obtain ⟨e3, a, ha, ra⟩ := s.yld i H' x H3 p2 (by rw [List.length_range]; exact hlt) y
    have e03 : Ex H H3 := ((e.trans e2).trans p2).trans e3
    refine ⟨hw x, (t_yes (σ := (wipe σ vs).set j (some x)) (H := H3)) H3 (Ex.refl _) _ fun H4 e4 => ?_⟩
    show te ((wipe σ vs).set j (some x)) H4 fun y H5 => ∃ acc, H5 D = some (.lst acc) ∧ acc.length < sizeLine ∧ (Ex H2 (upd H5 D (.lst (acc ++ [y]))) ∧ ∃ ps, GrdS H2 D ps (i + 1) ∧ Grd D ps (fun _ => row) (upd H5 D (.lst (acc ++ [y]))))
    refine he x H4 (e03.trans e4) H4 (Ex.refl _) _ fun y H5 r5 => ?_
    obtain ⟨p, rfl, hp, e5, ho⟩ := Own.of r5
    have gD := ((e3.trans e4).trans e5) _ _ g.d
    have hp4 : H2 p = none := fresh_back ((p2.trans e3).trans e4) hp
    have hpD : p ≠ D := fun z => by
      have := (e3.trans e4) _ _ g.d
      rw [← z, hp] at this
      cases this
    have hpn : p ∉ ps := fun z => by
      obtain ⟨k, hk⟩ := List.mem_iff_getElem?.mp z
      obtain ⟨_, h1, _⟩ := (g.own k p hk).ex (e3.trans e4)
      rw [hp] at h1
      cases h1
    refine ⟨ps.map V.ref, gD, sz_lt (by rw [List.length_map, G.len]; omega), Ex.mut (((p2.trans e3).trans e4).trans e5) hD, ps ++ [p], ⟨hD, fun z hz => ?_, List.nodup_append.mpr ⟨G.nd, by simp, fun a ha b hb e => ?_⟩, fun z => ?_, by rw [List.length_append, G.len]; rfl⟩, by rw [upd_same, List.map_append]; rfl, fun k z hk => ?_⟩
    · rcases List.mem_append.mp hz with hz | hz
      · exact G.hp z hz
      · rw [List.mem_singleton.mp hz]; exact hp4
    · rw [List.mem_singleton.mp hb] at e
      exact hpn (e ▸ ha)
    · rcases List.mem_append.mp z with z | z
      · exact G.dn z
      · exact hpD (List.mem_singleton.mp z).symm
    · have hk2 : z = p ∨ ps[k]? = some z := by
        by_cases hkl : k < ps.length
        · rw [List.getElem?_append_left hkl] at hk
          exact .inr hk
        · rw [List.getElem?_append_right (by omega)] at hk
          exact .inl (List.mem_singleton.mp (List.mem_of_getElem? hk))
      rcases hk2 with rfl | hk2
      · exact ho.upd gD hpD
      · exact ((g.own k z hk2).ex ((e3.trans e4).trans e5)).upd gD fun w => G.dn (w ▸ List.mem_of_getElem? hk2)
  · have e' : i = n := by omega
    subst e'
    have st := s.stop H' p2
    rw [List.length_range] at st
    exact .inl ⟨st, q _ _ ⟨e2.trans p2, D, ps, rfl, ⟨fresh_back e2 G.hD, fun p hp => fresh_back e2 (G.hp p hp), G.nd, G.dn, G.len⟩, g⟩⟩
theorem z_setG {α : Type} [Rep α] {σ : L2.St} {H : Hp} {te to tk : TE} {nx bk ct : L2.St → Hp → Prop} {rt : VK} {p : Addr} {as : List α} {a : α} {k : Nat} (h : EX te σ H a) (hto : EvR to σ H fun H v H' => Ex H H' ∧ v = .ref p) (hk : EX tk σ H k) (ho : Own p as H) (hlt : k < as.length)
    (q : ∀ H1 v us, Ex H H1 → rp a v H1 → H1 p = some (.lst us) → Own p (as.set k a) (upd H1 p (.lst (us.set k v))) → nx σ (upd H1 p (.lst (us.set k v)))) : tAsg te (gSub to tk rSetL) ⟨nx, rt, bk, ct⟩ σ H := by
  obtain ⟨us, h1, h2⟩ := ho
  refine h H (Ex.refl H) _ fun v H1 ⟨e1, r1⟩ => ?_
  refine hto H1 e1 _ fun w H2 ⟨e2, hw⟩ => ?_
  subst hw
  refine hk H2 (e1.trans e2) _ fun u H3 ⟨e3, r3⟩ => ?_
  have r3 : u = .int (k : Int) := r3
  subst r3
  have ee := (e1.trans e2).trans e3
  have g := ee _ _ h1
  exact ⟨p, us, (k : Int), k, rfl, rfl, g, ixN_lt (by rw [← h2.len]; exact hlt), q H3 v us ee (mn (e2.trans e3) r1) g ⟨_, upd_same, its_set (Its.mt (ext_lst g) (h2.mono ee)) (mt (ext_lst g) (mn (e2.trans e3) r1))⟩⟩
theorem paired_get {α β : Type} {R : α → β → Prop} : ∀ {as : List α} {vs : List β}, as.length = vs.length → (∀ (i : Nat) (a : α) (v : β), as[i]? = some a → vs[i]? = some v → R a v) → Paired R as vs
  | [], [], _, _ => .nil
  | [], _ :: _, h, _ => by cases h
  | _ :: _, [], h, _ => by cases h
  | a :: as, v :: vs, h, k => .cons (k 0 a v rfl rfl) (paired_get (Nat.succ.inj h) fun i b w h1 h2 => k (i + 1) b w h1 h2)
/-! ### the table of an order -/
def cnt (o : List Nat) : Nat → Nat → Nat → Nat
  | 0, _, _ => 0
  | i + 1, a, b => cnt o i a b + if i / 2 = a ∧ at' o i / 2 = b then 1 else 0
theorem cnt_at (o : List Nat) (a b : Nat) : ∀ n, cnt o n a b = (if 2 * a < n then (if at' o (2 * a) / 2 = b then 1 else 0) else 0) + if 2 * a + 1 < n then (if at' o (2 * a + 1) / 2 = b then 1 else 0) else 0
  | 0 => by simp [cnt]
  | n + 1 => by
    show cnt o n a b + _ = _
    rw [cnt_at o a b n]
    by_cases h1 : n / 2 = a
    · have : n = 2 * a ∨ n = 2 * a + 1 := by omega
      rcases this with rfl | rfl
      · rw [if_neg (by omega), if_neg (by omega), if_pos (show 2 * a < 2 * a + 1 by omega), if_neg (show ¬ 2 * a + 1 < 2 * a + 1 by omega)]
        by_cases h2 : at' o (2 * a) / 2 = b <;> simp [h2]
      · rw [if_pos (show 2 * a < 2 * a + 1 by omega), if_neg (show ¬ 2 * a + 1 < 2 * a + 1 by omega), if_pos (show 2 * a < 2 * a + 1 + 1 by omega), if_pos (show 2 * a + 1 < 2 * a + 1 + 1 by omega)]
        have e : (2 * a + 1) / 2 = a := by omega
        by_cases h2 : at' o (2 * a + 1) / 2 = b <;> simp [h2, e]
    · have e0 : (if n / 2 = a ∧ at' o n / 2 = b then 1 else 0) = 0 := if_neg fun z => h1 z.1
      rw [e0]
      have e1 : (2 * a < n + 1) = (2 * a < n) := propext ⟨fun _ => by omega, fun _ => by omega⟩
      have e2 : (2 * a + 1 < n + 1) = (2 * a + 1 < n) := propext ⟨fun _ => by omega, fun _ => by omega⟩
      simp only [e1, e2, Nat.add_zero]
def tabO (h : Nat) (o : List Nat) (i : Nat) : List (List Nat) := (List.range h).map fun a => (List.range h).map fun b => cnt o i a b
theorem tabO_len {h : Nat} {o : List Nat} {i : Nat} : (tabO h o i).length = h := by simp [tabO]
theorem tabO_led {h : Nat} {S : List (List Nat)} {o p0 p1 : List Nat} (L : Led h S o p0 p1) : tabO h o (2 * h) = tab h p0 p1 := by
  obtain ⟨c, r, hS, hc⟩ := L.hd
  unfold tabO tab
  refine List.map_congr_left fun a ha => List.map_congr_left fun b _ => ?_
  have ha := List.mem_range.mp ha
  rw [cnt_at, if_pos (show 2 * a < 2 * h by omega), if_pos (show 2 * a + 1 < 2 * h by omega)]
  have l0 := L.led a ha 0 (by decide)
  have l1 := L.led a ha 1 (by decide)
  rw [hS] at l0 l1
  have l0 : at' o (2 * a + (0 + at' c a) % 2) / 2 = at' p0 a := l0
  have l1 : at' o (2 * a + (1 + at' c a) % 2) / 2 = at' p1 a := l1
  have ca := hc.at (k := a)
  unfold tl
  have hcs : at' c a = 0 ∨ at' c a = 1 := by omega
  rcases hcs with z | z
  · rw [z] at l0 l1
    have l0 : at' o (2 * a) / 2 = at' p0 a := l0
    have l1 : at' o (2 * a + 1) / 2 = at' p1 a := l1
    rw [l0, l1]
  · rw [z] at l0 l1
    have l0 : at' o (2 * a + 1) / 2 = at' p0 a := l0
    have l1 : at' o (2 * a) / 2 = at' p1 a := l1
    rw [l0, l1]
    exact Nat.add_comm _ _
def OrdR (o : List Nat) : Prop := ∃ h, (h = 2 ∨ h = 4) ∧ o.length = 2 * h ∧ ∀ x ∈ o, x < 2 * h
theorem set_row {h b0 : Nat} {f g : Nat → Nat} (hb : ∀ b, g b = f b + if b0 = b then 1 else 0) : ((List.range h).map f).set b0 (f b0 + 1) = (List.range h).map g := by
  refine List.ext_getElem? fun i => ?_
  by_cases hi : i < h
  · rw [List.getElem?_map, List.getElem?_range hi]
    by_cases e : b0 = i
    · subst e
      rw [List.getElem?_set_self (by rw [List.length_map, List.length_range]; exact hi)]
      show some (f b0 + 1) = some (g b0)
      rw [hb, if_pos rfl]
    · rw [List.getElem?_set_ne e, List.getElem?_map, List.getElem?_range hi]
      show some (f i) = some (g i)
      rw [hb, if_neg e]
      rfl
  · rw [List.getElem?_eq_none (by rw [List.length_set, List.length_map, List.length_range]; omega), List.getElem?_eq_none (by rw [List.length_map, List.length_range]; omega)]
def sp__law_table_of : Sp := sp1 (α := Tup Nat) (fun o => OrdR o) fun o => RX (α := Tup (Tup Nat)) (tabO (List.length o / 2) o (List.length o))
theorem len__law_table_of : ∀ vs H Q E, sp__law_table_of vs H Q E → vs.length = 1 := sp1_len
theorem sem__law_table_of : ∀ vs H Q E, sp__law_table_of vs H Q E → t__law_table_of K (eN Q) (start ["order", "half", "rows", "k", "line", "row"] vs) H := fun vs H Q E hh => by
  obtain ⟨(o : List Nat), vo, rfl, ro, ⟨h, h24, ol, olt⟩, q⟩ := hh
  have hh : o.length / 2 = h := by omega
  have q : ∀ v H', RX (α := Tup (Tup Nat)) (tabO h o (2 * h)) H v H' → Q v H' := fun v H' r => q v H' (show RX (α := Tup (Tup Nat)) (tabO (o.length / 2) o o.length) H v H' by rw [hh, ol]; exact r)
  have xo : ∀ {σ : L2.St} {H' : Hp}, σ[0]? = some (some vo) → rp (α := Tup Nat) o vo H' → EX (α := Tup Nat) (tVar 0) σ H' o := fun hs e => x_var hs e
  refine q_set (ex_is (x_divN (x_lenT (α := Nat) (as := o) (xo rfl ro)) (x_n (n := 2) rfl) (by decide) (by decide)) hh) fun vh H1 ⟨e1, rh⟩ => ?_
  refine q_set (f_rows (n := h) (row := List.replicate h 0) (x_var (i := 1) rfl rh) (by omega) (fun _ => rfl) fun x H2 e2 => f_rep1 (α := Nat) (x_n (n := 0) rfl) (x_var (i := 1) rfl (mn e2 rh)) (by omega)) fun v H2 ⟨e2, D, ps, hv, G, g⟩ => ?_
  subst hv
  have E2 := e1.trans e2
  have hD : H D = none := fresh_back e1 G.hD
  have hps : ∀ p ∈ ps, H p = none := fun p hp => fresh_back e1 (G.hp p hp)
  have row0 : List.replicate h 0 = (List.range h).map fun b => cnt o 0 0 b := by
    refine List.ext_getElem? fun i => ?_
    by_cases hi : i < h
    · rw [List.getElem?_replicate, if_pos hi, List.getElem?_map, List.getElem?_range hi]
      rfl
    · rw [List.getElem?_eq_none (by rw [List.length_replicate]; omega), List.getElem?_eq_none (by rw [List.length_map, List.length_range]; omega)]
  refine z_forO (α := Nat) (xs := List.range (2 * h)) ps (is_rng (ex_is (x_lenT (α := Nat) (as := o) (xo rfl (mn E2 ro))) ol) (by omega)) (fun i σ' H' => ∃ y4, σ' = [some vo, some vh, some (.ref D), none, y4, none] ∧ Ex H H' ∧ Grd D ps (fun a => (List.range h).map fun b => cnt o i a b) H') (fun H3 e3 => ⟨none, rfl, E2.trans e3, e3 _ _ g.d, fun k p hk => by
    have := (g.own k p hk).ex e3
    rw [row0] at this
    exact this⟩) (fun i a x σ' H0' H' hi hP e3 ra N hN => ?_) fun σ' H' hP => ?_
  · obtain ⟨y4, rfl, e0, g0⟩ := hP
    have hih : i < 2 * h := by
      have := (List.getElem?_eq_some_iff.mp hi).1
      rwa [List.length_range] at this
    have ea : a = i := by
      rw [List.getElem?_range hih] at hi
      exact (Option.some.inj hi).symm
    subst ea
    have E0 := e0.trans e3
    have hgo : o[a]? = some (at' o a) := BN.get_at (by omega)
    have olt' : at' o a < 2 * h := olt _ (List.mem_of_getElem? hgo)
    have ha2 : a / 2 < h := by omega
    have hb2 : at' o a / 2 < h := by omega
    obtain ⟨p, hp⟩ : ∃ p, ps[a / 2]? = some p := ⟨ps[a / 2]'(by rw [G.len]; exact ha2), List.getElem?_eq_getElem _⟩
    have hpm := List.mem_of_getElem? hp
    have own := (g0.own _ _ hp).ex e3
    have gD := e3 _ _ g0.d
    have xi : ∀ {σ : L2.St}, σ[4]? = some (some x) → EX (tOp oDiv (tVar 4) (tC (.int 2))) σ H' (a / 2) := fun hs => x_divN (x_var (a := a) hs ra) (x_n (n := 2) rfl) (by decide) (by decide)
    have xj : EX (tOp oDiv (tOp (rIxT K) (tVar 0) (tVar 4)) (tC (.int 2))) [some vo, some vh, some (.ref D), none, some x, none] H' (at' o a / 2) := x_divN (x_ixT (α := Nat) (t := o) (i := a) (xo rfl (mn E0 ro)) (x_var (a := a) (i := 4) rfl ra) hgo) (x_n (n := 2) rfl) (by decide) (by decide)
    have xr : EvR (tOp (rIxL K) (tVar 2) (tOp oDiv (tVar 4) (tC (.int 2)))) [some vo, some vh, some (.ref D), none, some x, none] H' fun H v H' => Ex H H' ∧ v = .ref p := fun H1 e Q1 q1 => ⟨.ref D, rfl, (xi (σ := [some vo, some vh, some (.ref D), none, some x, none]) rfl) H1 e _ fun u H2 ⟨e2, r2⟩ => ⟨D, ps.map V.ref, ((a / 2 : Nat) : Int), .ref p, rfl, r2, sq_of ((e.trans e2) _ _ gD), atI_nat (by rw [List.getElem?_map, hp]; rfl), q1 _ _ ⟨e2, rfl⟩⟩⟩
    have hgc : ((List.range h).map fun b => cnt o a (a / 2) b)[at' o a / 2]? = some (cnt o a (a / 2) (at' o a / 2)) := by
      rw [List.getElem?_map, List.getElem?_range hb2]
      rfl
    refine z_setG (α := Nat) (p := p) (as := (List.range h).map fun b => cnt o a (a / 2) b) (a := cnt o a (a / 2) (at' o a / 2) + 1) (k := at' o a / 2) (x_addN (x_ixL (α := Nat) (t := (List.range h).map fun b => cnt o a (a / 2) b) (i := at' o a / 2) (fun H1 e Q1 q1 => xr H1 e _ fun v H2 ⟨e2, hv⟩ => q1 v H2 ⟨e2, by rw [hv]; exact (own.ex (e.trans e2)).rp⟩) xj hgc) (x_n (n := 1) rfl)) xr xj own (by rw [List.length_map, List.length_range]; exact hb2) fun H5 v5 us5 e5 r5 g5 q5 => ?_
    · refine hN _ _ (mks_step (mks_of e5) (mks_upd hpm)) ⟨_, rfl, Ex.mut (E0.trans e5) (hps p hpm), ?_, fun k z hk => ?_⟩
      · rw [upd_ne (show D ≠ p from fun w => G.dn (by rw [w]; exact hpm))]
        exact e5 _ _ gD
      · by_cases e : k = a / 2
        · subst e
          rw [hp] at hk
          cases hk
          rw [set_row (f := fun b => cnt o a (a / 2) b) (g := fun b => cnt o (a + 1) (a / 2) b) (fun b => ?_)] at q5
          · exact q5
          · show cnt o a (a / 2) b + _ = _
            by_cases e2 : at' o a / 2 = b <;> simp [e2]
        · have hz : z ≠ p := fun w => by
            subst w
            exact e ((List.getElem?_inj (List.getElem?_eq_some_iff.mp hk).1 G.nd).mp (hk.trans hp.symm))
          have := ((g0.own k z hk).ex (e3.trans e5)).upd (ws := us5.set (at' o a / 2) v5) g5 hz
          have ec : (fun b => cnt o (a + 1) k b) = fun b => cnt o a k b := by
            funext b
            show cnt o a k b + _ = _
            rw [if_neg (fun w => e w.1.symm)]
            rfl
          rw [ec]
          exact this
  · obtain ⟨y4, rfl, e0, g0⟩ := hP
    rw [List.length_range] at g0
    have its : Its (α := Lst Nat) (tabO h o (2 * h)) (ps.map V.ref) H' := paired_get (by rw [List.length_map, G.len]; exact tabO_len) fun k a v hk hv => by
      rw [List.getElem?_map] at hv
      cases hz : ps[k]? with
      | none => rw [hz] at hv; cases hv
      | some z =>
        rw [hz] at hv
        cases hv
        have hkh : k < h := by
          have := (List.getElem?_eq_some_iff.mp hz).1
          rwa [G.len] at this
        have hk : (tabO h o (2 * h))[k]? = some a := hk
        unfold tabO at hk
        rw [List.getElem?_map, List.getElem?_range hkh] at hk
        cases hk
        exact (g0.own k z hz).rp
    refine q_ret (ex_is (α := Tup (Tup Nat)) (x_tupleOf (α := Tup Nat) (f_lcM (α := Lst Nat) (β := Tup Nat) (xs := tabO h o (2 * h)) (fun r => r) (i_list (α := Lst Nat) (x_var (α := Lst (Lst Nat)) (a := tabO h o (2 * h)) (i := 2) rfl ⟨D, _, rfl, g0.d, its⟩)) (show (tabO h o (2 * h)).length ≤ 100000 by rw [tabO_len]; omega) (fun _ => rfl) fun (r : List Nat) x H2 hm e rr => x_tupleOf (α := Nat) (as := r) (x_var (α := Lst Nat) (a := r) (i := 5) rfl rr)).x) (List.map_id' _)) fun v H2 r => q v H2 (RX.bk.bk e0 r)
end K77

namespace K77
open PySem L2 DL Evl StX
open Arg (rp mn)
open Rep (mt)
open BN (Ord at' lead)
open PL (Pr srt gr Two tab tl Led)
open NT (Col Setg four eight inn2 inn4 up lo waysL)
variable {K : PySem.W.Frag}

/-! ### ways to choose -/
def wayF (o : List Nat) (a b : Nat) : Nat := if at' o a / 2 ≠ at' o (2 + b) / 2 then 1 else 0
def sp__law_ways : Sp := sp1 (α := Tup Nat) (fun o => List.length o = 4) fun o => RX (waysL o)
theorem len__law_ways : ∀ vs H Q E, sp__law_ways vs H Q E → vs.length = 1 := sp1_len
theorem sem__law_ways : ∀ vs H Q E, sp__law_ways vs H Q E → t__law_ways K (eN Q) (start ["order", "found", "one", "two", "upper", "ends", "line"] vs) H := fun vs H Q E hh => by
  obtain ⟨(o : List Nat), vo, rfl, ro, ol, q⟩ := hh
  have ol : o.length = 4 := ol
  have two : ∀ {σ : L2.St} {H : Hp}, EX (α := Tup Nat) (tTup (tCons (tC (.int 0)) (tCons (tC (.int 1)) tNil))) σ H ([0, 1] : List Nat) := x_tup (α := Nat) (as := [0, 1]) (xs_cons (x_n (n := 0) rfl) (xs_cons (x_n (n := 1) rfl) xs_nil)) (show 2 ≤ 100000 by decide)
  have le1 : ∀ {a : Nat}, a ∈ [0, 1] → a ≤ 1 := fun h => by
    simp at h
    omega
  refine q_set (x_n (n := 0) rfl) fun v0 H1 ⟨e1, r1⟩ => ?_
  have r1 : v0 = .int ((0 : Nat) : Int) := r1
  subst r1
  refine z_for (α := Nat) (xs := [0, 1]) (i_tup (α := Nat) two) (fun i σ' H' => ∃ (f : Nat) (y2 y3 y4 y5 : Option L2.V), σ' = [some vo, some (.int (f : Int)), y2, y3, y4, y5, none] ∧ f = (([0, 1].take i).flatMap fun a => [0, 1].map (wayF o a)).sum) (fun H2 e2 => ⟨0, none, none, none, none, rfl, rfl⟩) (fun i a x σ' H0 H' hi e2 hP e3 ra N hN => ?_) fun σ' H' e2 hP => ?_
  · obtain ⟨f, y2, y3, y4, y5, rfl, hf⟩ := hP
    have ha := le1 (List.mem_of_getElem? hi)
    have tk : [0, 1].take (i + 1) = [0, 1].take i ++ [a] := by rw [List.take_add_one, hi]; rfl
    have E0 := (e1.trans e2).trans e3
    refine z_for (α := Nat) (xs := [0, 1]) (i_tup (α := Nat) two) (fun j σ' H3 => ∃ (g : Nat) (y3 y4 y5 : Option L2.V), σ' = [some vo, some (.int (g : Int)), some x, y3, y4, y5, none] ∧ g = f + (([0, 1].take j).map (wayF o a)).sum) (fun H2 e2 => ⟨f, y3, y4, y5, rfl, rfl⟩) (fun j b y σ3 H3 H4 hj e4 hP e5 rb N2 hN2 => ?_) fun σ3 H3 e4 hP => ?_
    · obtain ⟨g, y3, y4, y5, rfl, hg⟩ := hP
      have hb := le1 (List.mem_of_getElem? hj)
      have tk2 : [0, 1].take (j + 1) = [0, 1].take j ++ [b] := by rw [List.take_add_one, hj]; rfl
      have E5 := (E0.trans e4).trans e5
      have ra5 := mn (e4.trans e5) ra
      refine q_set (x_tup (α := Nat) (as := [a, 2 + b]) (xs_cons (x_var (a := a) (i := 2) rfl ra5) (xs_cons (x_addN (x_n (n := 2) rfl) (x_var (a := b) (i := 3) rfl rb)) xs_nil)) (show 2 ≤ 100000 by decide)) fun v4 H5 ⟨e6, r4⟩ => ?_
      refine q_set (f_lcM (α := Nat) (β := Nat) (xs := [a, 2 + b]) (fun l => at' o l / 2) (i_tup (α := Nat) (x_var (α := Tup Nat) (i := 4) rfl r4)) (show 2 ≤ 100000 by decide) (fun _ => rfl) fun l z H6 hm e rl => x_divN (x_ixT (α := Nat) (t := o) (i := l) (x_var (α := Tup Nat) (a := o) (i := 0) rfl (mn ((E5.trans e6).trans e) ro)) (x_var (i := 6) rfl rl) (BN.get_at (by
        simp only [List.mem_cons, List.not_mem_nil, or_false] at hm
        omega))) (x_n (n := 2) rfl) (by decide) (by decide)) fun v5 H6 r5 => ?_
      have r5' := r5
      obtain ⟨p, rfl, hp, e7, ho⟩ := Own.of r5'
      have ho : Own (α := Nat) p [at' o a / 2, at' o (2 + b) / 2] H6 := ho
      refine q_set (x_addN (i := g) (j := wayF o a b) (x_var (i := 1) rfl rfl) (ex_is (x_intB (x_neS (a := at' o a / 2) (b := at' o (2 + b) / 2) (x_ixL (α := Nat) (t := [at' o a / 2, at' o (2 + b) / 2]) (i := 0) (x_var (α := Lst Nat) (i := 5) rfl ho.rp) (x_n (n := 0) rfl) rfl) (x_ixL (α := Nat) (t := [at' o a / 2, at' o (2 + b) / 2]) (i := 1) (x_var (α := Lst Nat) (i := 5) rfl ho.rp) (x_n (n := 1) rfl) rfl) sc_nat)) ?_)) fun v6 H7 ⟨e8, r6⟩ => ?_
      · unfold wayF
        by_cases z : at' o a / 2 = at' o (2 + b) / 2 <;> simp [z]
      · have r6 : v6 = .int ((g + wayF o a b : Nat) : Int) := r6
        subst r6
        refine hN2 _ _ ((e6.trans e7).trans e8) ⟨_, _, _, _, rfl, ?_⟩
        rw [tk2, List.map_append, List.sum_append, hg]
        simp
        omega
    · obtain ⟨g, y3, y4, y5, rfl, hg⟩ := hP
      refine hN _ _ e4 ⟨_, _, _, _, _, rfl, ?_⟩
      rw [tk, List.flatMap_append, List.sum_append, ← hf, hg]
      simp
  · obtain ⟨f, y2, y3, y4, y5, rfl, hf⟩ := hP
    refine q_ret (x_var (a := f) (i := 1) rfl rfl) fun v H2 r => q v H2 ?_
    have : waysL o = f := by rw [hf]; rfl
    rw [show (fun o : Tup Nat => RX (waysL o)) o = RX (waysL o) from rfl, this]
    exact RX.bk.bk (e1.trans e2) r
/-! ### the law's wires -/
theorem inn2_at {m : List Nat} {side q : Nat} (hq : q < 2) : at' (inn2 m side) q = (q + at' m side) % 2 := by
  have : q = 0 ∨ q = 1 := by omega
  rcases this with h | h <;> rw [h] <;> unfold inn2 <;> simp [at']
def sp__law_wires_2 : Sp := sp2 (α := Tup (Tup Nat)) (β := Nat) (fun S n => (∃ x, x ≤ 1 ∧ S = [[x]]) ∧ n = 2) fun (S : List (List Nat)) _ => RX (α := Tup Nat) (inn2 (S.getD 0 []) 0)
theorem len__law_wires_2 : ∀ vs H Q E, sp__law_wires_2 vs H Q E → vs.length = 2 := sp2_len
theorem sem__law_wires_2 : ∀ vs H Q E, sp__law_wires_2 vs H Q E → t__law_wires_2 K (eN Q) (start ["setting", "lines", "half", "columns", "upper", "column", "lower", "ways", "found", "line", "at", "side", "there"] vs) H := fun vs H Q E hh => by
  obtain ⟨(S : List (List Nat)), n, vS, vn, rfl, rS, rn, ⟨⟨x, hx, rfl⟩, rfl⟩, q⟩ := hh
  have q : ∀ v H', RX (α := Tup Nat) (inn2 [x] 0) H v H' → Q v H' := q
  have xx : ∀ {σ : L2.St} {H' : Hp}, σ[0]? = some (some vS) → Ex H H' → EX (tOp (rIxT K) (tOp (rIxT K) (tVar 0) (tC (.int 0))) (tC (.int 0))) σ H' x := fun hs e => x_ixT (α := Nat) (t := [x]) (x_ixT (α := Tup Nat) (t := [[x]]) (x_var (α := Tup (Tup Nat)) hs (mn e rS)) (x_n (n := 0) rfl) rfl) (x_n (n := 0) rfl) rfl
  refine z_if (t_test (x_eqN (x_var (i := 1) rfl rn) (x_n (n := 2) rfl))) (fun _ H1 e1 => ?_) fun z => nomatch z
  refine q_ret (ex_is (α := Tup Nat) (x_tup (α := Nat) (as := [x, 1 - x]) (xs_cons (xx rfl e1) (xs_cons (x_subN (x_n (n := 1) rfl) (xx rfl e1) hx) xs_nil)) (show 2 ≤ 100000 by decide)) ?_) fun v H' r => q v H' (RX.bk.bk e1 r)
  have : x = 0 ∨ x = 1 := by omega
  rcases this with rfl | rfl <;> rfl
theorem lead_snoc {h : Nat} {f l : List Nat} {inn : Nat → List Nat} (i : Nat) : (List.range (i + 1)).map (lead h f l inn) = (List.range i).map (lead h f l inn) ++ [lead h f l inn i] := by
  rw [List.range_succ, List.map_append]
  rfl
def sp__law_four : Sp := sp1 (α := Tup (Tup Nat)) (fun S => Setg 2 S) fun S => RX (α := Tup Nat) (four S)
theorem len__law_four : ∀ vs H Q E, sp__law_four vs H Q E → vs.length = 1 := sp1_len
theorem sem__law_four : ∀ vs H Q E, sp__law_four vs H Q E → t__law_four K (eN Q) (start ["setting", "found", "line", "at", "side", "there"] vs) H := fun vs H Q E hh => by
  obtain ⟨(S : List (List Nat)), vS, rfl, rS, hS, q⟩ := hh
  obtain ⟨c0, m, cl, rfl, h0, hm, hl⟩ := NT.three hS
  have xS : ∀ {σ : L2.St} {H' : Hp}, σ[0]? = some (some vS) → rp (α := Tup (Tup Nat)) ([c0, m, cl] : List (List Nat)) vS H' → EX (α := Tup (Tup Nat)) (tVar 0) σ H' ([c0, m, cl] : List (List Nat)) := fun hs r => x_var hs r
  refine q_set (f_lst (α := Nat) (as := []) xs_nil (Nat.zero_le _)) fun v H1 r1 => ?_
  obtain ⟨p, rfl, hp, e1, ho⟩ := Own.of r1
  refine z_forO (α := Nat) (xs := List.range 4) [p] (is_rng (x_n (n := 4) rfl) (by decide)) (fun i σ' H' => ∃ (y2 y3 y4 y5 : Option L2.V), σ' = [some vS, some (.ref p), y2, y3, y4, y5] ∧ Ex H H' ∧ Own (α := Nat) p ((List.range i).map (lead 2 c0 cl (inn2 m))) H') (fun H2 e2 => ⟨none, none, none, none, rfl, e1.trans e2, ho.ex e2⟩) (fun i a x σ' H0 H' hi hP e3 ra N hN => ?_) fun σ' H' hP => ?_
  · obtain ⟨y2, y3, y4, y5, rfl, e0, ho⟩ := hP
    have hih : i < 4 := by
      have := (List.getElem?_eq_some_iff.mp hi).1
      rwa [List.length_range] at this
    have ea : a = i := by
      rw [List.getElem?_range hih] at hi
      exact (Option.some.inj hi).symm
    subst ea
    have E0 := e0.trans e3
    have ho3 := ho.ex e3
    have hc0 : c0[a / 2]? = some (at' c0 (a / 2)) := BN.get_at (by rw [h0.len]; omega)
    refine z_par2 (x_divN (x_var (a := a) (i := 2) rfl ra) (x_n (n := 2) rfl) (by decide) (by decide)) (x_modN (i := a + at' c0 (a / 2)) (j := 2) (x_intN (x_addN (x_var (a := a) (i := 2) rfl ra) (x_ixT (α := Nat) (t := c0) (i := a / 2) (x_ixT (α := Tup Nat) (t := [c0, m, cl]) (i := 0) (xS rfl (mn E0 rS)) (x_n (n := 0) rfl) rfl) (x_divN (x_var (a := a) (i := 2) rfl ra) (x_n (n := 2) rfl) (by decide) (by decide)) hc0))) (x_n (n := 2) rfl) (by decide)) (fun vq vs' H2 H3 rq rs => ?_) (fun r => r.1)
    have E3 := (E0.trans rq.1).trans rs.1
    have hs : (a + at' c0 (a / 2)) % 2 < 2 := Nat.mod_lt _ (by decide)
    have hl2 : lead 2 c0 cl (inn2 m) a = 2 * ((a / 2 + at' m ((a + at' c0 (a / 2)) % 2)) % 2) + ((a + at' c0 (a / 2)) % 2 + at' cl ((a / 2 + at' m ((a + at' c0 (a / 2)) % 2)) % 2)) % 2 := by
      unfold lead
      show 2 * at' (inn2 m ((a + at' c0 (a / 2)) % 2)) (a / 2) + ((a + at' c0 (a / 2)) % 2 + at' cl (at' (inn2 m ((a + at' c0 (a / 2)) % 2)) (a / 2))) % 2 = _
      rw [inn2_at (by omega)]
    have rq' := mn rs.1 rq.2
    have rs' := rs.2
    generalize (a + at' c0 (a / 2)) % 2 = side at hs hl2 rs'
    have hm1 : m[side]? = some (at' m side) := BN.get_at (by rw [hm.len]; omega)
    refine q_set (x_modN (i := a / 2 + at' m side) (j := 2) (x_intN (x_addN (x_var (a := a / 2) (i := 3) rfl rq') (x_ixT (α := Nat) (t := m) (i := side) (x_ixT (α := Tup Nat) (t := [c0, m, cl]) (i := 1) (xS rfl (mn E3 rS)) (x_n (n := 1) rfl) rfl) (x_var (a := side) (i := 4) rfl rs') hm1))) (x_n (n := 2) rfl) (by decide)) fun v5 H4 ⟨e4, r5⟩ => ?_
    have ht : (a / 2 + at' m side) % 2 < 2 := Nat.mod_lt _ (by decide)
    generalize (a / 2 + at' m side) % 2 = there at ht hl2 r5
    have hcl : cl[there]? = some (at' cl there) := BN.get_at (by rw [hl.len]; omega)
    have E4 := E3.trans e4
    refine z_app (α := Nat) (i := 1) (p := p) (as := (List.range a).map (lead 2 c0 cl (inn2 m))) (a := lead 2 c0 cl (inn2 m) a) rfl (ho3.ex ((rq.1.trans rs.1).trans e4)) (by rw [List.length_map, List.length_range]; omega) (ex_is (x_addN (x_mulN (x_n (n := 2) rfl) (x_var (a := there) (i := 5) rfl r5) (by decide)) (x_modN (i := side + at' cl there) (j := 2) (x_intN (x_addN (x_var (a := side) (i := 4) rfl (mn e4 rs')) (x_ixT (α := Nat) (t := cl) (i := there) (x_ixT (α := Tup Nat) (t := [c0, m, cl]) (i := 2) (xS rfl (mn E4 rS)) (x_n (n := 2) rfl) rfl) (x_var (a := there) (i := 5) rfl r5) hcl))) (x_n (n := 2) rfl) (by decide))) hl2.symm) fun H5 v6 us5 e5 r6 g5 q5 => ?_
    refine hN _ _ (mks_step (mks_of (((rq.1.trans rs.1).trans e4).trans e5)) (mks_upd (by simp))) ⟨_, _, _, _, rfl, Ex.mut (E4.trans e5) hp, ?_⟩
    rw [lead_snoc]
    exact q5
  · obtain ⟨y2, y3, y4, y5, rfl, e0, ho⟩ := hP
    rw [List.length_range] at ho
    exact q_ret (x_tupleOf (α := Nat) (x_var (α := Lst Nat) (i := 1) rfl ho.rp)) fun v H2 r => q v H2 (RX.bk.bk e0 r)
end K77

namespace K77
open PySem L2 DL Evl StX
open Arg (rp mn)
open Rep (mt)
open BN (Ord at' lead)
open PL (Pr srt gr Two tab tl Led)
open NT (Col Setg four eight inn2 inn4 up lo waysL)
variable {K : PySem.W.Frag}

def wiresF (S : List (List Nat)) : List Nat := if S.length = 3 then four S else eight S
def WirP (S : List (List Nat)) (n : Nat) : Prop := (Setg 2 S ∧ n = 4) ∨ (Setg 4 S ∧ n = 8)
def sp__law_wires : Sp := sp2 (α := Tup (Tup Nat)) (β := Nat) (fun S n => WirP S n) fun S _ => RX (α := Tup Nat) (wiresF S)
theorem len__law_wires : ∀ vs H Q E, sp__law_wires vs H Q E → vs.length = 2 := sp2_len
/-- named: half, columns, the first and the last one, inner ones -/
structure Wir (h : Nat) (S mid : List (List Nat)) (c0 cl : List Nat) (inn : Nat → List Nat) : Prop where
  h24 : h = 2 ∨ h = 4
  eS : S = c0 :: (mid ++ [cl])
  k0 : Col h c0
  kl : Col h cl
  km : ∀ c ∈ mid, Col h c
  m2 : h = 2 → ∃ m, mid = [m] ∧ inn 0 = inn2 [at' m 0] 0 ∧ inn 1 = inn2 [at' m 1] 0
  m4 : h = 4 → mid.length = 3 ∧ inn 0 = four (mid.map (·.take 2)) ∧ inn 1 = four (mid.map (·.drop 2))
  lt : ∀ side ≤ 1, Ord h (inn side)
  is : wiresF S = (List.range (2 * h)).map (lead h c0 cl inn)
theorem wir2 {S : List (List Nat)} (hS : Setg 2 S) : ∃ mid c0 cl inn, Wir 2 S mid c0 cl inn := by
  obtain ⟨a, b, c, rfl, ha, hb, hc⟩ := NT.three hS
  refine ⟨[b], a, c, inn2 b, .inl rfl, rfl, ha, hc, fun c hc => ?_, fun _ => ⟨b, rfl, ?_, ?_⟩, (fun z => nomatch z), fun s _ => NT.inn2_ord _ _, rfl⟩
  · rw [List.mem_singleton.mp hc]
    exact hb
  · rfl
  · rfl
theorem wir4 {S : List (List Nat)} (hS : Setg 4 S) : ∃ mid c0 cl inn, Wir 4 S mid c0 cl inn := by
  obtain ⟨a, b, c, d, e, rfl, ha, hb, hc, hd, he⟩ := NT.five hS
  refine ⟨[b, c, d], a, e, inn4 [a, b, c, d, e], .inr rfl, rfl, ha, he, fun c' hc' => ?_, (fun z => nomatch z), fun _ => ⟨rfl, rfl, rfl⟩, fun s _ => ?_, rfl⟩
  · simp only [List.mem_cons, List.not_mem_nil, or_false] at hc'
    rcases hc' with rfl | rfl | rfl
    · exact hb
    · exact hc
    · exact hd
  · unfold inn4
    split
    · exact NT.four_ord fun k => (NT.col_take (h := 2) hb).1.at
    · exact NT.four_ord fun k => (NT.col_take (h := 2) hb).2.at
theorem Wir.len {h : Nat} {S mid : List (List Nat)} {c0 cl : List Nat} {inn : Nat → List Nat} (W : Wir h S mid c0 cl inn) : mid.length ≤ 3 ∧ 1 ≤ mid.length ∧ S.length = mid.length + 2 := by
  have hs : S.length = mid.length + 2 := by
    rw [W.eS, List.length_cons, List.length_append]
    rfl
  rcases W.h24 with rfl | rfl
  · obtain ⟨m, rfl, _⟩ := W.m2 rfl
    exact ⟨by simp, by simp, hs⟩
  · have := (W.m4 rfl).1
    exact ⟨by omega, by omega, hs⟩
theorem set2 {f : List Nat → List Nat} {mid : List (List Nat)} (hl : mid.length = 3) (hf : ∀ c ∈ mid, Col 2 (f c)) : Setg 2 (mid.map f) := by
  refine ⟨.inl ⟨rfl, by rw [List.length_map]; exact hl⟩, fun c hc => ?_⟩
  obtain ⟨d, hd, rfl⟩ := List.mem_map.mp hc
  exact hf d hd
theorem sem__law_wires : ∀ vs H Q E, sp__law_wires vs H Q E → t__law_wires K sp__law_wires_2 sp__law_four (eN Q) (start ["setting", "lines", "half", "columns", "upper", "column", "lower", "ways", "found", "line", "at", "side", "there"] vs) H := fun vs H Q E hh => by
  obtain ⟨(S : List (List Nat)), n, vS, vn, rfl, rS, rn, hp, q⟩ := hh
  obtain ⟨h, mid, c0, cl, inn, W, hn⟩ : ∃ h mid c0 cl inn, Wir h S mid c0 cl inn ∧ n = 2 * h := by
    rcases hp with ⟨hS, hn⟩ | ⟨hS, hn⟩
    · obtain ⟨mid, c0, cl, inn, W⟩ := wir2 hS
      exact ⟨2, mid, c0, cl, inn, W, hn⟩
    · obtain ⟨mid, c0, cl, inn, W⟩ := wir4 hS
      exact ⟨4, mid, c0, cl, inn, W, hn⟩
  have q : ∀ v H', RX (α := Tup Nat) ((List.range (2 * h)).map (lead h c0 cl inn)) H v H' → Q v H' := fun v H' r => q v H' (show RX (α := Tup Nat) (wiresF S) H v H' by rw [W.is]; exact r)
  have h24 := W.h24
  obtain ⟨ml, ml1, sl⟩ := W.len
  have xS : ∀ {σ : L2.St} {H' : Hp}, σ[0]? = some (some vS) → rp (α := Tup (Tup Nat)) S vS H' → EX (α := Tup (Tup Nat)) (tVar 0) σ H' S := fun hs r => x_var hs r
  have g0 : S[0]? = some c0 := by rw [W.eS]; rfl
  have gl : S[mid.length + 1]? = some cl := by
    rw [W.eS, List.getElem?_cons_succ, List.getElem?_append_right (Nat.le_refl _), Nat.sub_self]
    rfl
  refine z_if (b := false) (t_test (ex_is (x_eqN (x_var (i := 1) rfl rn) (x_n (n := 2) rfl)) (decide_eq_false (by omega)))) (fun z => nomatch z) fun _ H1 e1 => z_next ?_
  refine q_any (x_tup (α := Nat) (as := [h, mid.length + 2]) (xs_cons (ex_is (x_divN (x_var (a := n) (i := 1) rfl (mn e1 rn)) (x_n (n := 2) rfl) (by decide) (by decide)) (by omega)) (xs_cons (ex_is (x_lenT (α := Tup Nat) (as := S) (xS rfl (mn e1 rS))) sl) xs_nil)) (show 2 ≤ 100000 by decide)) fun v2 H2 ⟨e2, pt, us, hv, ht, its⟩ => ?_
  have hu := its_nat its
  subst hv hu
  refine ⟨pt, _, rfl, st_of ht, rfl, .int ((h : Nat) : Int), _, rfl, .int ((mid.length + 2 : Nat) : Int), [], rfl, rfl, ?_⟩
  have E2 := e1.trans e2
  -- inner columns
  have xmid : ∀ {σ : L2.St} {H' : Hp}, σ[0]? = some (some vS) → σ[3]? = some (some (.int ((mid.length + 2 : Nat) : Int))) → rp (α := Tup (Tup Nat)) S vS H' → EX (α := Tup (Tup Nat)) (tSl (rSlA K) (tVar 0) (tPart (tC (.int 1))) (tPart (tOp oSub (tVar 3) (tC (.int 1))))) σ H' mid := fun hs h3 r => ex_is (α := Tup (Tup Nat)) (x_cutT (α := Tup Nat) (xS hs r) (o_someN (x_n (n := 1) rfl)) (o_someN (x_subN (i := mid.length + 2) (j := 1) (x_var h3 rfl) (x_n (n := 1) rfl) (by omega)))) (by
    have : cutA S (some ((1 : Nat) : Int)) (some ((mid.length + 2 - 1 : Nat) : Int)) = mid := by
      rw [cutA_mid S 1 (mid.length + 2 - 1) (by omega) (by omega), W.eS, List.drop_succ_cons, List.drop_zero]
      have : mid.length + 2 - 1 - 1 = mid.length := by omega
      rw [this, List.take_left]
    exact this)
  refine q_set (x_tupleOf (α := Tup Nat) (f_lcM (α := Tup Nat) (β := Tup Nat) (xs := mid) (fun c => List.take (h / 2) c) (i_tup (α := Tup Nat) (xmid rfl rfl (mn E2 rS))) (show mid.length ≤ 100000 by omega) (fun _ => rfl) fun (c : List Nat) x H3 hm e r => x_to (α := Nat) (as := c) (x_var (α := Tup Nat) (i := 5) rfl r) (x_divN (x_var (a := h) (i := 2) rfl rfl) (x_n (n := 2) rfl) (by decide) (by decide))).x) fun vu H3 ⟨e3, ru⟩ => ?_
  have E3 := E2.trans e3
  refine q_set (x_tupleOf (α := Tup Nat) (f_lcM (α := Tup Nat) (β := Tup Nat) (xs := mid) (fun c => List.drop (h / 2) c) (i_tup (α := Tup Nat) (xmid rfl rfl (mn E3 rS))) (show mid.length ≤ 100000 by omega) (fun _ => rfl) fun (c : List Nat) x H3 hm e r => x_from (α := Nat) (as := c) (x_var (α := Tup Nat) (i := 5) rfl r) (x_divN (x_var (a := h) (i := 2) rfl rfl) (x_n (n := 2) rfl) (by decide) (by decide))).x) fun vl H4 ⟨e4, rl⟩ => ?_
  have E4 := E3.trans e4
  have ru4 := mn e4 ru
  have tail : ∀ (vw : L2.V) (H5 : Hp), Ex H H5 → rp (α := Tup (Tup Nat)) ([inn 0, inn 1] : List (List Nat)) vw H5 → (tSeq (tAsg (tLst tNil) (gName 8))
    (tSeq (tFor (iRng1 (tCons (tVar 1) tNil)) (gName 9) (tSeq (tPar 10 11 (tCons (tOp oDiv (tVar 9) (tC (.int 2))) (tCons (tOp oMod (tCB rIntQ (tCons (tOp oAdd (tVar 9) (tOp (rIxT K) (tOp (rIxT K) (tVar 0) (tC (.int 0))) (tOp oDiv (tVar 9) (tC (.int 2))))) tNil)) (tC (.int 2))) tNil)))
    (tSeq (tAsg (tOp (rIxT K) (tOp (rIxT K) (tVar 7) (tVar 11)) (tVar 10)) (gName 12))
    (tDrop (tBM K "list" rAppend (tVar 8) (tCons (tOp oAdd (tOp oMul (tC (.int 2)) (tVar 12)) (tOp oMod (tCB rIntQ (tCons (tOp oAdd (tVar 11) (tOp (rIxT K) (tOp (rIxT K) (tVar 0) (tOp oSub (tVar 3) (tC (.int 1)))) (tVar 12))) tNil)) (tC (.int 2)))) tNil))))))
    (tRet (tCB (rTupQ K) (tCons (tVar 8) tNil))))) (eN Q) [some vS, some vn, some (.int ((h : Nat) : Int)), some (.int ((mid.length + 2 : Nat) : Int)), some vu, none, some vl, some vw, none, none, none, none, none] H5 := by
    intro vw H5 E5 rw'
    refine q_set (f_lst (α := Nat) (as := []) xs_nil (Nat.zero_le _)) fun v H6 r6 => ?_
    obtain ⟨p, rfl, hp, e6, ho⟩ := Own.of r6
    have hp0 : H p = none := fresh_back E5 hp
    refine z_forO (α := Nat) (xs := List.range (2 * h)) [p] (is_rng (ex_is (x_var (a := n) (i := 1) rfl (mn (E5.trans e6) rn)) hn) (by omega)) (fun i σ' H' => ∃ (y2 y3 y4 y5 : Option L2.V), σ' = [some vS, some vn, some (.int ((h : Nat) : Int)), some (.int ((mid.length + 2 : Nat) : Int)), some vu, none, some vl, some vw, some (.ref p), y2, y3, y4, y5] ∧ Ex H H' ∧ rp (α := Tup (Tup Nat)) ([inn 0, inn 1] : List (List Nat)) vw H' ∧ Own (α := Nat) p ((List.range i).map (lead h c0 cl inn)) H') (fun H2 e2 => ⟨none, none, none, none, rfl, (E5.trans e6).trans e2, mn (e6.trans e2) rw', ho.ex e2⟩) (fun i a x σ' H0 H' hi hP e3 ra N hN => ?_) fun σ' H' hP => ?_
    · obtain ⟨y2, y3, y4, y5, rfl, e0, rw0, ho⟩ := hP
      have hih : i < 2 * h := by
        have := (List.getElem?_eq_some_iff.mp hi).1
        rwa [List.length_range] at this
      have ea : a = i := by
        rw [List.getElem?_range hih] at hi
        exact (Option.some.inj hi).symm
      subst ea
      have E0 := e0.trans e3
      have ho3 := ho.ex e3
      have hc0 : c0[a / 2]? = some (at' c0 (a / 2)) := BN.get_at (by rw [W.k0.len]; omega)
      refine z_par2 (x_divN (x_var (a := a) (i := 9) rfl ra) (x_n (n := 2) rfl) (by decide) (by decide)) (x_modN (i := a + at' c0 (a / 2)) (j := 2) (x_intN (x_addN (x_var (a := a) (i := 9) rfl ra) (x_ixT (α := Nat) (t := c0) (i := a / 2) (x_ixT (α := Tup Nat) (t := S) (i := 0) (xS rfl (mn E0 rS)) (x_n (n := 0) rfl) g0) (x_divN (x_var (a := a) (i := 9) rfl ra) (x_n (n := 2) rfl) (by decide) (by decide)) hc0))) (x_n (n := 2) rfl) (by decide)) (fun vq vs' H2 H3 rq rs => ?_) (fun r => r.1)
      have E3 := (E0.trans rq.1).trans rs.1
      have hs : (a + at' c0 (a / 2)) % 2 < 2 := Nat.mod_lt _ (by decide)
      have hl2 : lead h c0 cl inn a = 2 * (at' (inn ((a + at' c0 (a / 2)) % 2)) (a / 2)) + ((a + at' c0 (a / 2)) % 2 + at' cl (at' (inn ((a + at' c0 (a / 2)) % 2)) (a / 2))) % 2 := rfl
      have rq' := mn rs.1 rq.2
      have rs' := rs.2
      generalize (a + at' c0 (a / 2)) % 2 = side at hs hl2 rs'
      have Oi := W.lt side (by omega)
      have hm1 : (inn side)[a / 2]? = some (at' (inn side) (a / 2)) := BN.get_at (by rw [Oi.len]; omega)
      have gi : ([inn 0, inn 1] : List (List Nat))[side]? = some (inn side) := by
        have : side = 0 ∨ side = 1 := by omega
        rcases this with rfl | rfl <;> rfl
      refine q_set (x_ixT (α := Nat) (t := inn side) (i := a / 2) (x_ixT (α := Tup Nat) (t := [inn 0, inn 1]) (i := side) (x_var (α := Tup (Tup Nat)) (i := 7) rfl (mn ((e3.trans rq.1).trans rs.1) rw0)) (x_var (a := side) (i := 11) rfl rs') gi) (x_var (a := a / 2) (i := 10) rfl rq') hm1) fun v5 H4 ⟨e4, r5⟩ => ?_
      have ht : at' (inn side) (a / 2) < h := Oi.lt' (by omega)
      generalize at' (inn side) (a / 2) = there at ht hl2 r5
      have hcl : cl[there]? = some (at' cl there) := BN.get_at (by rw [W.kl.len]; omega)
      have E4 := E3.trans e4
      refine z_app (α := Nat) (i := 8) (p := p) (as := (List.range a).map (lead h c0 cl inn)) (a := lead h c0 cl inn a) rfl (ho3.ex ((rq.1.trans rs.1).trans e4)) (by rw [List.length_map, List.length_range]; omega) (ex_is (x_addN (x_mulN (x_n (n := 2) rfl) (x_var (a := there) (i := 12) rfl r5) (by decide)) (x_modN (i := side + at' cl there) (j := 2) (x_intN (x_addN (x_var (a := side) (i := 11) rfl (mn e4 rs')) (x_ixT (α := Nat) (t := cl) (i := there) (x_ixT (α := Tup Nat) (t := S) (i := mid.length + 1) (xS rfl (mn E4 rS)) (ex_is (x_subN (i := mid.length + 2) (j := 1) (x_var (i := 3) rfl rfl) (x_n (n := 1) rfl) (by omega)) (by omega)) gl) (x_var (a := there) (i := 12) rfl r5) hcl))) (x_n (n := 2) rfl) (by decide))) hl2.symm) fun H5 v6 us5 e5 r6 g5 q5 => ?_
      refine hN _ _ (mks_step (mks_of (((rq.1.trans rs.1).trans e4).trans e5)) (mks_upd (by simp))) ⟨_, _, _, _, rfl, Ex.mut (E4.trans e5) hp0, mt (ext_lst g5) (mn ((((e3.trans rq.1).trans rs.1).trans e4).trans e5) rw0), ?_⟩
      rw [lead_snoc]
      exact q5
    · obtain ⟨y2, y3, y4, y5, rfl, e0, _, ho⟩ := hP
      rw [List.length_range] at ho
      exact q_ret (x_tupleOf (α := Nat) (x_var (α := Lst Nat) (i := 8) rfl ho.rp)) fun v H2 r => q v H2 (RX.bk.bk e0 r)
  have xu : ∀ {σ : L2.St} {H' : Hp}, σ[4]? = some (some vu) → Ex H4 H' → EX (α := Tup (Tup Nat)) (tVar 4) σ H' (mid.map fun c => c.take (h / 2)) := fun hs e => x_var hs (mn e ru4)
  have xl : ∀ {σ : L2.St} {H' : Hp}, σ[6]? = some (some vl) → Ex H4 H' → EX (α := Tup (Tup Nat)) (tVar 6) σ H' (mid.map fun c => c.drop (h / 2)) := fun hs e => x_var hs (mn e rl)
  refine z_if (t_test (x_eqN (x_var (a := h) (i := 2) rfl rfl) (x_n (n := 2) rfl))) (fun hb H5 e5 => ?_) fun hb H5 e5 => ?_
  · have h2 : h = 2 := of_decide_eq_true hb
    subst h2
    obtain ⟨m, rfl, i0, i1⟩ := W.m2 rfl
    have cm := W.km m List.mem_cons_self
    have em : m = [at' m 0, at' m 1] := by
      match m, cm.len with
      | [a, b], _ => rfl
    have b0 := cm.at (k := 0)
    have b1 := cm.at (k := 1)
    have u0 : ([m].map fun c => c.take (2 / 2)) = [[at' m 0]] := by
      show [m.take 1] = _
      rw [em]
      rfl
    have u1 : ([m].map fun c => c.drop (2 / 2)) = [[at' m 1]] := by
      show [m.drop 1] = _
      rw [em]
      rfl
    have xu : ∀ {σ : L2.St} {H' : Hp}, σ[4]? = some (some vu) → Ex H4 H' → EX (α := Tup (Tup Nat)) (tVar 4) σ H' ([[at' m 0]] : List (List Nat)) := fun hs e => ex_is (α := Tup (Tup Nat)) (xu hs e) u0
    have xl : ∀ {σ : L2.St} {H' : Hp}, σ[6]? = some (some vl) → Ex H4 H' → EX (α := Tup (Tup Nat)) (tVar 6) σ H' ([[at' m 1]] : List (List Nat)) := fun hs e => ex_is (α := Tup (Tup Nat)) (xl hs e) u1
    refine q_set (x_tup (α := Tup Nat) (as := [inn 0, inn 1]) (xs_cons (ex_is (α := Tup Nat) (x_call2 (α := Tup (Tup Nat)) (β := Nat) (γ := Tup Nat) (f := fun (S : List (List Nat)) _ => inn2 (S.getD 0 []) 0) (xu rfl e5) (x_n (n := 2) rfl) ⟨⟨_, b0, rfl⟩, rfl⟩) i0.symm) (xs_cons (ex_is (α := Tup Nat) (x_call2 (α := Tup (Tup Nat)) (β := Nat) (γ := Tup Nat) (f := fun (S : List (List Nat)) _ => inn2 (S.getD 0 []) 0) (xl rfl e5) (x_n (n := 2) rfl) ⟨⟨_, b1, rfl⟩, rfl⟩) i1.symm) xs_nil)) (show 2 ≤ 100000 by decide)) fun vw H6 ⟨e6, r6⟩ => tail vw H6 ((E4.trans e5).trans e6) r6
  · have h4 : h = 4 := by
      have := of_decide_eq_false hb
      omega
    subst h4
    obtain ⟨l3, i0, i1⟩ := W.m4 rfl
    have xu : ∀ {σ : L2.St} {H' : Hp}, σ[4]? = some (some vu) → Ex H4 H' → EX (α := Tup (Tup Nat)) (tVar 4) σ H' (mid.map fun c => c.take 2) := xu
    have xl : ∀ {σ : L2.St} {H' : Hp}, σ[6]? = some (some vl) → Ex H4 H' → EX (α := Tup (Tup Nat)) (tVar 6) σ H' (mid.map fun c => c.drop 2) := xl
    refine q_set (x_tup (α := Tup Nat) (as := [inn 0, inn 1]) (xs_cons (ex_is (α := Tup Nat) (x_call1 (α := Tup (Tup Nat)) (β := Tup Nat) (f := fun S => four S) (xu rfl e5) (set2 l3 fun c hc => (NT.col_take (h := 2) (W.km c hc)).1)) i0.symm) (xs_cons (ex_is (α := Tup Nat) (x_call1 (α := Tup (Tup Nat)) (β := Tup Nat) (f := fun S => four S) (xl rfl e5) (set2 l3 fun c hc => (NT.col_take (h := 2) (W.km c hc)).2)) i1.symm) xs_nil)) (show 2 ≤ 100000 by decide)) fun vw H6 ⟨e6, r6⟩ => tail vw H6 ((E4.trans e5).trans e6) r6
end K77

namespace K77
open PySem L2 DL Evl StX
open Arg (rp mn)
open Rep (mt)
open BN (Ord at' lead)
open NT (Col Setg)
variable {K : PySem.W.Frag}

/-! ### drawn orders -/
def sp__law_mixed : Sp := fun vs H Q _ => ∃ (p : Addr) (many : Nat), vs = [.ref p, .int (many : Int)] ∧ Wl p H ∧ many ≤ 8 ∧ ∀ (o : List Nat) v H', Ord many o → Ex (Mk p H) H' → Wl p H' → rp (α := Tup Nat) o v H' → Q v H'
theorem len__law_mixed : ∀ vs H Q E, sp__law_mixed vs H Q E → vs.length = 2 := fun vs H Q E ⟨_, _, e, _⟩ => by rw [e]; rfl
theorem erase_perm : ∀ {l : List Nat} {r : Nat} (hr : r < l.length), (l[r] :: l.eraseIdx r).Perm l
  | [], r, h => absurd h (Nat.not_lt_zero r)
  | x :: l, 0, _ => List.Perm.refl _
  | x :: l, r + 1, h => (List.Perm.swap x _ _).trans ((erase_perm (l := l) (r := r) (Nat.lt_of_succ_lt_succ h)).cons x)
theorem erase_map {α β : Type} (f : α → β) : ∀ (l : List α) (r : Nat), (l.map f).eraseIdx r = (l.eraseIdx r).map f
  | [], _ => rfl
  | _ :: _, 0 => rfl
  | x :: l, r + 1 => congrArg (f x :: ·) (erase_map f l r)
theorem perm_step {fs ls : List Nat} {n r : Nat} (h : (fs ++ ls).Perm (List.range n)) (hr : r < ls.length) : ((fs ++ [ls[r]]) ++ ls.eraseIdx r).Perm (List.range n) := by
  refine List.Perm.trans ?_ h
  rw [List.append_assoc]
  exact List.Perm.append_left fs (erase_perm hr)
theorem natV_snoc (fs : List Nat) (x : Nat) : natV (fs ++ [x]) = natV fs ++ [.int (x : Int)] := by simp [natV]
theorem natV_erase (ls : List Nat) (r : Nat) : (natV ls).eraseIdx r = natV (ls.eraseIdx r) := by
  show ((ls.map _).map _).eraseIdx r = ((ls.eraseIdx r).map _).map _
  rw [erase_map, erase_map]
theorem natV_len (ls : List Nat) : (natV ls).length = ls.length := by simp [natV]
theorem seqIx {r n : Nat} (h : r < n) : seqIndex? (r : Int) n = some r := by
  unfold seqIndex?
  have h1 : ¬ (r : Int) < 0 := by omega
  simp [h1, h]
theorem sem__law_mixed : ∀ vs H Q E, sp__law_mixed vs H Q E → t__law_mixed K sp__law_take (eN Q) (start ["well", "many", "left", "found", "k"] vs) H := fun vs H Q E hh => by
  obtain ⟨p, many, rfl, w, m8, q⟩ := hh
  refine z_par2 (ef_is (f_lcM (α := Nat) (β := Nat) (xs := List.range many) (fun k => k) (i_rng (x_var (a := many) (i := 1) rfl rfl) (by omega)) (by rw [List.length_range]; omega) (fun _ => rfl) fun a x H1 hm e r => x_var (i := 4) rfl r) (List.map_id' _)) (f_lst (α := Nat) (as := []) xs_nil (Nat.zero_le _)) (fun v1 v2 H1 H2 r1 r2 => ?_) (fun r => r.1)
  obtain ⟨pl, rfl, hpl, e1, us, g1, its1⟩ := Own.of r1
  obtain ⟨pf, rfl, hpf, e2, us2, g2, its2⟩ := Own.of r2
  have eu := its_nat its1
  have eu2 := its_nat its2
  subst eu eu2
  have npl : pl ≠ p := w.ne hpl
  have npf : pf ≠ p := (w.ex e1).ne hpf
  have nlf : pl ≠ pf := fun z => by rw [z, hpf] at g1; cases g1
  have hpf0 : H pf = none := fresh_back e1 hpf
  have mkl : Mk p H pl = none := by rw [mk_ne npl]; exact hpl
  have mkf : Mk p H pf = none := by rw [mk_ne npf]; exact hpf0
  refine z_forO (α := Nat) (xs := List.range many) [p, pl, pf] (is_rng (x_var (a := many) (i := 1) rfl rfl) (by omega)) (fun i σ' H' => ∃ (y4 : Option L2.V) (fs ls : List Nat), σ' = [some (.ref p), some (.int (many : Int)), some (.ref pl), some (.ref pf), y4] ∧ H' pl = some (.lst (natV ls)) ∧ H' pf = some (.lst (natV fs)) ∧ Wl p H' ∧ Ex (Mk p H) H' ∧ fs.length = i ∧ (fs ++ ls).Perm (List.range many)) (fun H3 e3 => ⟨none, [], List.range many, rfl, (e2.trans e3) _ _ g1, e3 _ _ g2, w.ex ((e1.trans e2).trans e3), ex_mk.trans ((e1.trans e2).trans e3), rfl, List.Perm.refl _⟩) (fun i a x σ' H0 H' hi hP e3 ra N hN => ?_) fun σ' H' hP => ?_
  · obtain ⟨y4, fs, ls, rfl, gl, gf, w0, e0, hl, hperm⟩ := hP
    have him : i < many := by
      have := (List.getElem?_eq_some_iff.mp hi).1
      rwa [List.length_range] at this
    have hlen : fs.length + ls.length = many := by
      have := hperm.length_eq
      rwa [List.length_append, List.length_range] at this
    have gl3 := e3 _ _ gl
    have gf3 := e3 _ _ gf
    have w3 := w0.ex e3
    show (tBM K "list" rAppend (tVar 3) (tCons (tBM K "list" rPopAt (tVar 2) (tCons (tCall sp__law_take [] E0 (tCons (tVar 0) (tCons (tCB (rLenQ K) (tCons (tVar 2) tNil)) tNil))) tNil)) tNil)) _ H' _
    refine ⟨.ref pf, rfl, .inl ⟨rfl, _, sq_of gf3⟩, ?_⟩
    show (tBM K "list" rPopAt (tVar 2) (tCons (tCall sp__law_take [] E0 (tCons (tVar 0) (tCons (tCB (rLenQ K) (tCons (tVar 2) tNil)) tNil))) tNil)) _ H' _
    refine ⟨.ref pl, rfl, .inl ⟨rfl, _, sq_of gl3⟩, ?_⟩
    refine w_take (G := H') (i := 0) (p := p) (m := ls.length) rfl (x_lenL (α := Nat) (as := ls) (x_var (α := Lst Nat) (i := 2) (v := .ref pl) rfl ⟨pl, _, rfl, gl3, of_nats ls⟩)) (by omega) (by omega) H' (Ex.refl _) w3 _ fun r v4 H4 hr e4 w4 r4 => ?_
    have r4 : v4 = .int (r : Int) := r4
    subst r4
    have hr : r < ls.length := hr
    have gl4 : H4 pl = some (.lst (natV ls)) := e4 _ _ (by rw [mk_ne npl]; exact gl3)
    have gf4 : H4 pf = some (.lst (natV fs)) := e4 _ _ (by rw [mk_ne npf]; exact gf3)
    have hg : (natV ls)[r]? = some (.int ((ls[r] : Nat) : Int)) := by simp [natV, hr]
    have n1 : pf ≠ pl := nlf.symm
    have E4 : Ex (Mk p H) H4 := (mk_mono (e0.trans e3)).trans e4
    have gf5 : (upd H4 pl (.lst ((natV ls).eraseIdx r))) pf = some (.lst (natV fs)) := by rw [upd_ne n1]; exact gf4
    refine ⟨pl, natV ls, (r : Int), r, _, rfl, rfl, gl4, by omega, by omega, seqIx (by rw [natV_len]; exact hr), hg, ?_⟩
    refine ⟨pf, natV fs, _, rfl, rfl, gf5, sz_lt (by rw [natV_len]; omega), ?_⟩
    refine hN _ _ ?_ ⟨_, fs ++ [ls[r]], ls.eraseIdx r, rfl, ?_, ?_, ?_, ?_, by rw [List.length_append, hl]; rfl, perm_step hperm hr⟩
    · have m1 : Ex (Mks [p, pl, pf] H') H4 := by
        refine Ex.trans (fun b u hb => ?_) e4
        by_cases hbp : b ∈ [p, pl, pf]
        · rw [mks_in hbp] at hb
          cases hb
        · rw [mks_out hbp] at hb
          rw [mk_ne (fun z => hbp (by rw [z]; simp))]
          exact hb
      exact mks_step (mks_step m1 (mks_upd (by simp))) (mks_upd (by simp))
    · rw [upd_ne nlf, upd_same, natV_erase]
    · rw [upd_same, natV_snoc]
    · obtain ⟨a, b, c, hw⟩ := w4
      exact ⟨a, b, c, by rw [upd_ne npf.symm, upd_ne npl.symm]; exact hw⟩
    · exact Ex.mut (Ex.mut E4 mkl) mkf
  · obtain ⟨y4, fs, ls, rfl, gl, gf, w0, e0, hl, hperm⟩ := hP
    rw [List.length_range] at hl
    have hlen : fs.length + ls.length = many := by
      have := hperm.length_eq
      rwa [List.length_append, List.length_range] at this
    have : ls = [] := List.length_eq_zero_iff.mp (by omega)
    subst this
    rw [List.append_nil] at hperm
    refine q_ret (x_tupleOf (α := Nat) (as := fs) (x_var (α := Lst Nat) (i := 3) (v := .ref pf) rfl ⟨pf, _, rfl, gf, of_nats fs⟩)) fun v H2 ⟨e5, r5⟩ => q fs v H2 ⟨hl, hperm.nodup_iff.mpr List.nodup_range, fun x hx => List.mem_range.mp (hperm.mem_iff.mp hx)⟩ (e0.trans e5) (w0.ex e5) r5
/-! ### drawn settings -/
def sp__law_setting : Sp := fun vs H Q _ => ∃ (p : Addr), vs = [.ref p, .int ((8 : Nat) : Int)] ∧ Wl p H ∧ ∀ (S : List (List Nat)) v H', Setg 4 S → Ex (Mk p H) H' → Wl p H' → rp (α := Tup (Tup Nat)) S v H' → Q v H'
theorem len__law_setting : ∀ vs H Q E, sp__law_setting vs H Q E → vs.length = 2 := fun vs H Q E ⟨_, e, _⟩ => by rw [e]; rfl
theorem sem__law_setting : ∀ vs H Q E, sp__law_setting vs H Q E → t__law_setting K sp__law_take (eN Q) (start ["well", "lines", "columns", "k", "c"] vs) H := fun vs H Q E hh => by
  obtain ⟨p, rfl, w, q⟩ := hh
  refine fun p0 hp0 => ⟨upd_same, [(Sum.inl 2, .int 1), (Sum.inl 4, .int 3), (Sum.inl 8, .int 5)], rfl, by decide, .int ((8 : Nat) : Int), rfl, p0, .int 5, rfl, DGet.k (k := Sum.inl 8) upd_same, ?_⟩
  generalize hG : upd (upd H p0 (.dK [])) p0 (.dK (mergeK [] [(Sum.inl 2, .int 1), (Sum.inl 4, .int 3), (Sum.inl 8, .int 5)])) = G
  have eG : Ex H G := by
    rw [← hG]
    exact Ex.mut (Ex.new hp0) hp0
  have w := w.ex eG
  have mid : ∀ i : Nat, i < 5 → EvW (β := Tup Nat) (tCB (rTupQ K) (tCons (tLc (iRng1 (tCons (tOp oDiv (tVar 1) (tC (.int 2))) tNil)) (gName 3) tYes (tCall sp__law_take [] E0 (tCons (tVar 0) (tCons (tC (.int 2)) tNil))) [3]) tNil))
      [some (.ref p), some (.int ((8 : Nat) : Int)), some (.int 5), none, some (.int (i : Int))] (Mk p G) p fun r => Col 4 r := fun i hi H1 e1 w1 Q1 q1 => by
    refine cb1 (f_lcW (β := Nat) (ok := fun x => x ≤ 1) (n := 4) (x_divN (i := 8) (j := 2) (x_var (i := 1) rfl rfl) (x_n (n := 2) rfl) (by decide) (by decide)) (by omega) mk_p (fun _ => rfl) (fun j hj => ?_) H1 e1 w1 _ fun ys l us H2 h1 h2 h3 h4 h5 h6 h7 => ⟨l, us, rfl, .inl ⟨sq_of h6, fun t ht => ?_⟩⟩)
    · intro H3 e3 w3 Q3 q3
      refine w_take (G := Mk p G) (i := 0) (p := p) (m := 2) rfl (x_n (n := 2) rfl) (by omega) (by omega) H3 e3 w3 _ fun a va H4 ha e4 w4 ra => q3 a va H4 (by have ha : a < 2 := ha; show a ≤ 1; omega) e4 w4 ra
    · refine q1 ys _ _ ⟨h1, h2⟩ (h3.trans (Ex.new ht)) (wl_upd h4 ht) ⟨t, us, rfl, upd_same, Its.mono (Ex.new ht) h7⟩
  refine ret1 (cb1 (f_lcW (β := Tup Nat) (n := 5) (x_var (a := 5) (i := 2) rfl rfl) (by omega) mk_p (fun _ => rfl) (fun i hi => mid i hi) G ex_mk w _ fun ys l us H2 h1 h2 h3 h4 h5 h6 h7 => ⟨l, us, rfl, .inl ⟨sq_of h6, fun t ht => ?_⟩⟩))
  refine q ys _ _ ⟨.inr ⟨rfl, h1⟩, h2⟩ (((mk_mono (ex_mk.trans eG)).trans h3).trans (Ex.new ht)) (wl_upd h4 ht) ⟨t, us, rfl, upd_same, Its.mono (Ex.new ht) h7⟩
end K77

namespace K77
open PySem L2 DL Evl StX
open Arg (rp mn)
open Rep (mt)
open BN (Ord at')
open PL (Pr Two tab tl gr Led chainsF exchF)
open NT (Setg four eight waysL countS)
variable {K : PySem.W.Frag}

/-! ### one order -/
/-- what the setting for an order is -/
theorem forS {o : List Nat} {S : List (List Nat)} (O : OrdP o) (h : ForSet o S) : WirP S o.length ∧ wiresF S = o ∧ ∃ h p0 p1, Led h S o p0 p1 ∧ o.length = 2 * h := by
  rcases O with O | O
  · obtain ⟨s1, s2⟩ := for4 O h
    obtain ⟨p0, p1, L⟩ := PL.led4 s1
    rw [s2] at L
    have l3 : S.length = 3 := by
      obtain ⟨a, b, c, rfl, _⟩ := NT.three s1
      rfl
    refine ⟨.inl ⟨s1, O.len⟩, ?_, 2, p0, p1, L, O.len⟩
    unfold wiresF
    rw [if_pos l3, s2]
  · obtain ⟨s1, s2⟩ := for8 O h
    obtain ⟨p0, p1, L⟩ := PL.led8 s1
    rw [s2] at L
    have l3 : S.length = 5 := by
      obtain ⟨a, b, c, d, e, rfl, _⟩ := NT.five s1
      rfl
    refine ⟨.inr ⟨s1, O.len⟩, ?_, 4, p0, p1, L, O.len⟩
    unfold wiresF
    rw [if_neg (by omega), s2]
theorem ordR_of {o : List Nat} (O : OrdP o) : OrdR o := by
  rcases O with O | O
  · exact ⟨2, .inl rfl, O.len, O.lt⟩
  · exact ⟨4, .inr rfl, O.len, O.lt⟩
theorem x_neP0 {α : Type} [Arg α] [Pd α] [DecidableEq α] [PdE α] {σ : L2.St} {H : Hp} {ta tb : TE} {a b : α} (ha : EX ta σ H a) (hb : EX tb σ H b) (h : Pd.dep α ≤ 64) (e : a = b) : EX (tOp (rNeD K) ta tb) σ H false := ex_is (x_neP ha hb h) (by rw [decide_eq_true e]; rfl)
theorem x_notBl {σ : L2.St} {H : Hp} {te : TE} (h : EX te σ H true) : EX (tOp rNotBl te (tC (.bl true))) σ H false := fun H1 e Q q => h H1 e _ fun v H2 ⟨e2, r⟩ => ⟨true, true, r, rfl, q _ _ ⟨e2, rfl⟩⟩
theorem all_len {σ : L2.St} {H : Hp} {ta tb : TE} {V : List (List Pr)} {T : List (List Nat)} {h : Nat} (hV : EX (α := Tup (Tup Pr)) ta σ H V) (hw : ∀ x, wipe ((wipe σ [5]).set 5 (some x)) [5] = wipe σ [5]) (h5 : ∀ x, ((wipe σ [5]).set 5 (some x))[5]? = some (some x)) (hT : ∀ x H1, Ex H H1 → EX (α := Tup (Tup Nat)) tb ((wipe σ [5]).set 5 (some x)) H1 T) (hl : V.length ≤ 2) (he : ∀ r ∈ V, r.length = h) (tl : T.length = h) :
    EX (tCB (rAll K) (tCons (tLc (iTup K ta) (gName 5) tYes (tOp rEq (tCB (rLenQ K) (tCons (tVar 5) tNil)) (tCB (rLenQ K) (tCons tb tNil))) [5]) tNil)) σ H true :=
  ex_is (x_all (f_lcM (α := Tup Pr) (β := Bool) (xs := V) (fun _ => true) (i_tup (α := Tup Pr) hV) (show V.length ≤ 100000 by omega) hw fun (r : List Pr) x H1 hm e ra => ex_is (x_eqN (i := r.length) (j := T.length) (x_lenT (α := Pr) (as := r) (x_var (α := Tup Pr) (h5 x) ra)) (x_lenT (α := Tup Nat) (as := T) (hT x H1 e))) (decide_eq_true (by rw [he r hm, tl]))).x) (all_true (l := V) (f := fun _ => true) fun _ _ => rfl)
def sp__law_right : Sp := fun vs H Q _ => ∃ (p : Addr) (o : List Nat) (vo : V), vs = [.ref p, vo] ∧ Wl p H ∧ OrdP o ∧ rp (α := Tup Nat) o vo H ∧ ∀ H', Ex (Mk p H) H' → Wl p H' → Q (.bl true) H'
theorem len__law_right : ∀ vs H Q E, sp__law_right vs H Q E → vs.length = 2 := fun vs H Q E ⟨_, _, _, e, _⟩ => by rw [e]; rfl
theorem gr_len2 {h : Nat} {p0 p1 : List Nat} (P : Two h p0 p1) : ∀ r ∈ [gr p0, gr p1], r.length = h := fun r hr => by
  simp only [List.mem_cons, List.not_mem_nil, or_false] at hr
  rcases hr with rfl | rfl
  · rw [PL.gr_len, P.O0.len]
  · rw [PL.gr_len, P.O1.len]
theorem sem__law_right : ∀ vs H Q E, sp__law_right vs H Q E → t__law_right K sp_setting_for sp__law_table_of sp__law_rounds_of sp__law_wires sp__law_is_plan sp_is_plan sp__law_same sp_height sp_chains sp__law_take sp_exchanged sp__law_ways sp_count_settings (eN Q) (start ["well", "order", "table", "setting", "plan", "each", "some", "chain", "other"] vs) H := fun vs H Q E hh => by
  obtain ⟨p, o, vo, rfl, w, O, ro, q⟩ := hh
  -- table, setting
  refine q_any (R := fun H v H' => ∃ S, ForSet o S ∧ Ex H H' ∧ ∃ t vt vs, v = .ref t ∧ H' t = some (.tup [vt, vs]) ∧ rp (α := Tup (Tup Nat)) (tabO (o.length / 2) o o.length) vt H' ∧ rp (α := Tup (Tup Nat)) S vs H') (fun H1 e Q1 q1 => ?_) fun v H1 ⟨S, hS, e1, t, vt, vS, hv, ht, rt, rS⟩ => ?_
  · refine (r_call1 (α := Tup Nat) (R := fun o => RX (α := Tup (Tup Nat)) (tabO (List.length o / 2) o (List.length o))) (pre := fun o => OrdR o) (E := E0) (fun _ => RX.bk) (x_var (α := Tup Nat) (a := o) (i := 1) (σ := start ["well", "order", "table", "setting", "plan", "each", "some", "chain", "other"] [.ref p, vo]) rfl ro) (ordR_of O)) H1 e _ fun vt H2 ⟨e2, r2⟩ => ?_
    refine (r_call1 (α := Tup Nat) (R := fun o => RSet o) (pre := OrdP) (E := E0) (fun _ => RSet.bk) (x_var (α := Tup Nat) (a := o) (i := 1) (σ := start ["well", "order", "table", "setting", "plan", "each", "some", "chain", "other"] [.ref p, vo]) rfl ro) O) H2 (e.trans e2) _ fun vS H3 ⟨S, hS, e3, r3⟩ => ?_
    exact ⟨sz_of (show 2 ≤ 100000 by decide), fun t ht => q1 _ _ ⟨S, hS, (e2.trans e3).trans (Ex.new ht), t, vt, vS, rfl, upd_same, mn (e3.trans (Ex.new ht)) r2, mn (Ex.new ht) r3⟩⟩
  subst hv
  refine ⟨t, [vt, vS], rfl, st_of ht, rfl, vt, [vS], rfl, vS, [], rfl, rfl, ?_⟩
  obtain ⟨hW, hwo, h0, q0, q1, L0, ol⟩ := forS O hS
  -- plan
  refine q_set (r_call2 (α := Tup (Tup Nat)) (β := Tup Nat) (R := fun S o => RRnds S o) (fun _ _ => RRnds.bk) (x_var (α := Tup (Tup Nat)) (a := S) (i := 3) rfl rS) (x_var (α := Tup Nat) (a := o) (i := 1) rfl (mn e1 ro)) ⟨h0, q0, q1, L0⟩) fun vp H2 ⟨h, p0, p1, L, e2, rp2⟩ => ?_
  have P := L.P
  have hh : o.length = 2 * h := L.olen
  have hh2 : o.length / 2 = h := by omega
  have T0 : tabO (o.length / 2) o o.length = tab h p0 p1 := by rw [hh2, hh]; exact tabO_led L
  rw [T0] at rt
  have E2 := e1.trans e2
  have pl : IsPl (tab h p0 p1) [gr p0, gr p1] := ⟨h, p0, p1, P, rfl, rfl⟩
  have w2 := w.ex E2
  have rS2 := mn e2 rS
  have rt2 := mn e2 rt
  have ro2 := mn E2 ro
  clear rt rS
  generalize hσ : [some (.ref p), some vo, some vt, some vS, some vp, none, none, none, none] = σ
  have hσ0 : start ["well", "order", "table", "setting", "plan", "each", "some", "chain", "other"] [.ref p, vo] = [some (.ref p), some vo, none, none, none, none, none, none, none] := rfl
  subst hσ
  refine z_if (b := false) (et_or (a := false) (b := false) (t_test (x_neP0 (α := Tup Nat) (a := wiresF S) (b := o) (x_call2 (α := Tup (Tup Nat)) (β := Nat) (γ := Tup Nat) (f := fun S _ => wiresF S) (x_var (α := Tup (Tup Nat)) (a := S) (i := 3) rfl rS2) (x_lenT (α := Nat) (as := o) (x_var (α := Tup Nat) (a := o) (i := 1) rfl ro2)) hW) (x_var (α := Tup Nat) (a := o) (i := 1) rfl ro2) (by decide) hwo)) fun _ => et_or (a := false) (b := false) (et_is (et_not (t_B (x_call3 (α := Tup (Tup Nat)) (β := Tup (Tup Pr)) (γ := Nat) (f := fun _ _ _ => true) (x_var (α := Tup (Tup Nat)) (a := tab h p0 p1) (i := 2) rfl rt2) (x_var (α := Tup (Tup Pr)) (a := [gr p0, gr p1]) (i := 4) rfl rp2) (x_n (n := 2) rfl) ⟨pl, rfl⟩))) rfl) fun _ => et_or (a := false) (b := false) (t_test (x_notBl (x_call2 (α := Tup (Tup Nat)) (β := Tup (Tup Pr)) (f := fun _ _ => true) (x_var (α := Tup (Tup Nat)) (a := tab h p0 p1) (i := 2) rfl rt2) (x_var (α := Tup (Tup Pr)) (a := [gr p0, gr p1]) (i := 4) rfl rp2) pl))) fun _ => et_is (et_not (t_B (x_call2 (α := Option Nat) (β := Option Nat) (f := fun a b => decide (a = b)) (a := some 2) (b := some 2) (x_some (x_call1 (α := Tup (Tup Nat)) (β := Nat) (f := fun _ => 2) (x_var (α := Tup (Tup Nat)) (a := tab h p0 p1) (i := 2) rfl rt2) ⟨h, p0, p1, P, rfl⟩)) (x_some (x_n (n := 2) rfl)) True.intro))) rfl) (fun z => nomatch z) fun _ H3 e3 => z_next ?_
  refine z_if (b := false) (et_is (et_not (t_B (all_len (h := h) (V := [gr p0, gr p1]) (T := tab h p0 p1) (x_var (α := Tup (Tup Pr)) (a := [gr p0, gr p1]) (i := 4) rfl (mn e3 rp2)) (fun _ => rfl) (fun _ => rfl) (fun x H1 e => x_var (α := Tup (Tup Nat)) (a := tab h p0 p1) (i := 2) rfl (mn (e3.trans e) rt2)) (Nat.le_refl 2) (gr_len2 P) tab_len))) rfl) (fun z => nomatch z) fun _ H4 e4 => z_next ?_
  have e34 := e3.trans e4
  refine q_set (r_call4 (α := Tup (Tup Nat)) (β := Tup (Tup Pr)) (γ := Nat) (δ := Nat) (R := fun _ (V : List (List Pr)) _ _ => RX (α := Tup (Tup Pr)) (chainsF (V.getD 0 []) (V.getD 1 []))) (fun _ _ _ _ => RX.bk) (x_var (α := Tup (Tup Nat)) (a := tab h p0 p1) (i := 2) rfl (mn e34 rt2)) (x_var (α := Tup (Tup Pr)) (a := [gr p0, gr p1]) (i := 4) rfl (mn e34 rp2)) (x_n (n := 0) rfl) (x_n (n := 1) rfl) ⟨pl, rfl, rfl⟩) fun vc H5 ⟨e5, rc⟩ => ?_
  have rc : rp (α := Tup (Tup Pr)) (chainsF (gr p0) (gr p1)) vc H5 := rc
  have e25 := e34.trans e5
  have w5 := w2.ex e25
  have rt5 := mn e25 rt2
  have rp5 := mn e25 rp2
  have ro5 := mn e25 ro2
  have F5 : Ex (Mk p H) H5 := ex_mk.trans (E2.trans e25)
  -- the end
  have fin : ∀ (y5 y7 y8 : Option L2.V) (H' : Hp), Ex (Mk p H5) H' → Wl p H' → tRet (tOrV (tOp oGt (tCB (rLenQ K) (tCons (tVar 1) tNil)) (tC (.int 4))) (tCall sp__law_same [] E0 (tCons (tCall sp_count_settings [] E0 (tCons (tVar 1) tNil)) (tCons (tCall sp__law_ways [] E0 (tCons (tVar 1) tNil)) tNil)))) (eN Q) [some (.ref p), some vo, some vt, some vS, some vp, y5, some vc, y7, y8] H' := fun y5 y7 y8 H' f w' => by
    have ro' : rp (α := Tup Nat) o vo H' := mn f (rp_mk w5 ro5)
    refine q_ret (ex_is (b := true) (x_or (a := decide (4 < o.length)) (b := decide (countS o = waysL o)) (x_gtN (i := o.length) (j := 4) (x_lenT (α := Nat) (as := o) (x_var (α := Tup Nat) (a := o) (i := 1) rfl ro')) (x_n (n := 4) rfl)) fun hb => ?_) ?_) fun v H6 ⟨e6, r6⟩ => ?_
    · have h4 : Ord 4 o := by
        rcases O with O | O
        · exact O
        · have := of_decide_eq_false hb
          have := O.len
          omega
      exact ex_is (x_call2 (α := Option Nat) (β := Option Nat) (f := fun a b => decide (a = b)) (a := some (countS o)) (b := some (waysL o)) (x_some (x_call1 (α := Tup Nat) (β := Nat) (f := fun o => countS o) (x_var (α := Tup Nat) (a := o) (i := 1) rfl ro') h4)) (x_some (x_call1 (α := Tup Nat) (β := Nat) (f := fun o => waysL o) (x_var (α := Tup Nat) (a := o) (i := 1) rfl ro') h4.len)) True.intro) (decide_eq_decide.mpr ⟨fun e => Option.some.inj e, fun e => by rw [e]⟩)
    · rcases O with O | O
      · rw [decide_eq_true (p := countS o = waysL o) (NT.count_is O), Bool.or_true]
      · rw [decide_eq_true (p := 4 < o.length) (by rw [O.len]; decide)]
        rfl
    · have r6 : v = .bl true := r6
      subst r6
      exact q H6 (((mk_ex F5 mk_p).trans f).trans e6) (w'.ex e6)
  have cl : (chainsF (gr p0) (gr p1)).length ≤ 12 := by
    have := chainsF_len (gr p0) (gr p1)
    rw [PL.gr_len, PL.gr_len, P.O0.len, P.O1.len] at this
    have := P.h24
    omega
  refine z_if (t_test (x_neP (α := Tup (Tup Pr)) (a := chainsF (gr p0) (gr p1)) (b := []) (x_var (α := Tup (Tup Pr)) (i := 6) rfl rc) (x_tup (α := Tup Pr) (as := []) xs_nil (Nat.zero_le _)) (by decide))) (fun hb H6 e6 => ?_) fun hb H6 e6 => z_next (fin _ _ _ H6 (ex_mk.trans e6) (w5.ex e6))
  have hne : chainsF (gr p0) (gr p1) ≠ [] := by
    rw [Bool.not_eq_true', decide_eq_false_iff_not] at hb
    exact hb
  have cpos : 0 < (chainsF (gr p0) (gr p1)).length := List.length_pos_iff.mpr hne
  have w6 := w5.ex e6
  -- chain = some[..]
  refine q_set (R := fun H v H' => ∃ c, c ∈ chainsF (gr p0) (gr p1) ∧ Ex (Mk p H) H' ∧ Wl p H' ∧ rp (α := Tup Pr) c v H') (fun H7 e7 Q7 q7 => ?_) fun vch H7 ⟨c, hc, f7, w7, rch⟩ => ?_
  · refine ⟨vc, rfl, ?_⟩
    refine w_take (G := H6) (i := 0) (p := p) (m := (chainsF (gr p0) (gr p1)).length) rfl (x_lenT (α := Tup Pr) (as := chainsF (gr p0) (gr p1)) (x_var (α := Tup (Tup Pr)) (i := 6) rfl (mn e6 rc))) cpos (by omega) H7 e7 (w6.ex e7) _ fun r vr H8 hr e8 w8 r8 => ?_
    have r8 : vr = .int (r : Int) := r8
    subst r8
    have hr : r < (chainsF (gr p0) (gr p1)).length := hr
    have rc8 : rp (α := Tup (Tup Pr)) (chainsF (gr p0) (gr p1)) vc H8 := mn e8 (rp_mk (w6.ex e7) (mn (e6.trans e7) rc))
    obtain ⟨ac, us, hvc, hac, its⟩ := rc8
    obtain ⟨vch, hvch, rch⟩ := Its.get its (List.getElem?_eq_getElem hr)
    exact ⟨ac, us, (r : Int), vch, hvc, rfl, st_of hac, atI_nat hvch, q7 vch H8 ⟨_, List.getElem_mem hr, e8, w8, rch⟩⟩
  have g57 : Ex (Mk p H5) H7 := (mk_mono (ex_mk.trans e6)).trans f7
  have rt7 : rp (α := Tup (Tup Nat)) (tab h p0 p1) vt H7 := mn g57 (rp_mk w5 rt5)
  have rp7 : rp (α := Tup (Tup Pr)) ([gr p0, gr p1] : List (List Pr)) vp H7 := mn g57 (rp_mk w5 rp5)
  obtain ⟨q0', q1', P', hT', x0, x1⟩ := PL.exch_two P hc
  refine q_set (r_call5 (α := Tup (Tup Nat)) (β := Tup (Tup Pr)) (γ := Nat) (δ := Nat) (ε := Tup Pr) (R := fun _ (V : List (List Pr)) _ _ c => RX (α := Tup (Tup Pr)) ([exchF (V.getD 0 []) c, exchF (V.getD 1 []) c] : List (List Pr))) (fun _ _ _ _ _ => RX.bk) (x_var (α := Tup (Tup Nat)) (a := tab h p0 p1) (i := 2) rfl rt7) (x_var (α := Tup (Tup Pr)) (a := [gr p0, gr p1]) (i := 4) rfl rp7) (x_n (n := 0) rfl) (x_n (n := 1) rfl) (x_var (α := Tup Pr) (a := c) (i := 7) rfl rch) ⟨pl, rfl, rfl, hc⟩) fun vo2 H8 ⟨e8, r8⟩ => ?_
  have r8 : rp (α := Tup (Tup Pr)) ([exchF (gr p0) c, exchF (gr p1) c] : List (List Pr)) vo2 H8 := r8
  rw [x0, x1] at r8
  have pl' : IsPl (tab h p0 p1) [gr q0', gr q1'] := ⟨h, q0', q1', P', hT'.symm, rfl⟩
  have rt8 := mn e8 rt7
  refine z_if (b := false) (et_or (a := false) (b := false) (et_is (et_not (t_B (x_call3 (α := Tup (Tup Nat)) (β := Tup (Tup Pr)) (γ := Nat) (f := fun _ _ _ => true) (x_var (α := Tup (Tup Nat)) (a := tab h p0 p1) (i := 2) rfl rt8) (x_var (α := Tup (Tup Pr)) (a := [gr q0', gr q1']) (i := 8) rfl r8) (x_n (n := 2) rfl) ⟨pl', rfl⟩))) rfl) fun _ => et_is (et_not (t_B (all_len (h := h) (V := [gr q0', gr q1']) (T := tab h p0 p1) (x_var (α := Tup (Tup Pr)) (a := [gr q0', gr q1']) (i := 8) rfl r8) (fun _ => rfl) (fun _ => rfl) (fun x H1 e => x_var (α := Tup (Tup Nat)) (a := tab h p0 p1) (i := 2) rfl (mn e rt8)) (Nat.le_refl 2) (gr_len2 P') tab_len))) rfl) (fun z => nomatch z) fun _ H9 e9 => z_next (fin _ _ _ H9 (g57.trans (e8.trans e9)) (w7.ex (e8.trans e9)))
end K77

namespace K77
open PySem L2 DL Evl StX
open Arg (rp mn)
open Rep (mt)
open BN (Ord at')
open PL (Pr Two tab tl gr Led)
open NT (Setg four eight ledT)
variable {K : PySem.W.Frag}

/-! ### orders drawn, in a tuple -/
section
variable {σ : L2.St} {G : Hp} {p : Addr} {ta tb te : TE} {tr : TA}
/-- items of a display -/
def EvWs {β : Type} [Rep β] (ta : TA) (σ : L2.St) (G : Hp) (p : Addr) (ok : β → Prop) (k : Nat) : Prop := ∀ H1, Ex G H1 → Wl p H1 → ∀ Q : List V → Hp → Prop, (∀ (as : List β) vs H2, (∀ a ∈ as, ok a) → as.length = k → Ex (Mk p H1) H2 → Wl p H2 → Its as vs H2 → Q vs H2) → ta σ H1 Q
theorem ws_nil {β : Type} [Rep β] {ok : β → Prop} : EvWs (β := β) tNil σ G p ok 0 := fun H1 e w Q q => q [] [] H1 (fun _ h => nomatch h) rfl ex_mk w .nil
theorem ws_cons {β : Type} [Rep β] {ok : β → Prop} {k : Nat} (hG : G p = none) (h : EvW te σ G p ok) (hr : EvWs tr σ G p ok k) : EvWs (tCons te tr) σ G p ok (k + 1) := fun H1 e w Q q =>
  h H1 e w _ fun a v H2 ha e2 w2 rv => hr H2 ((mk_ex e hG).trans e2) w2 _ fun as vs H3 h1 h2 e3 w3 its => q (a :: as) (v :: vs) H3 (fun x hx => by
    rcases List.mem_cons.mp hx with e | hx
    · rw [e]
      exact ha
    · exact h1 x hx) (by simp [h2]) ((mk_mono e2).trans e3) w3 (.cons (mn e3 (rp_mk w2 rv)) its)
theorem w_mixed {i : Nat} {m : Nat} (h : σ[i]? = some (some (.ref p))) (hm : m = 4 ∨ m = 8) : EvW (β := Tup Nat) (tCall sp__law_mixed [] E0 (tCons (tVar i) (tCons (tC (.int (m : Int))) tNil))) σ G p fun o => OrdP o := fun H1 e w Q q =>
  ⟨.ref p, h, p, m, rfl, w, by omega, fun o v H' O e' w' r => q o v H' (by
    rcases hm with rfl | rfl
    · exact .inl O
    · exact .inr O) e' w' r⟩
end
theorem lapsN (L : Nat) : ∃ n : Nat, n ≤ 6 ∧ (if (if (6 : Int) < (L : Int) then 6 else (L : Int)) > 3 then (if (6 : Int) < (L : Int) then 6 else (L : Int)) else 3) = (n : Int) := by
  by_cases h1 : (6 : Int) < (L : Int)
  · exact ⟨6, by decide, by rw [if_pos h1]; rfl⟩
  · rw [if_neg h1]
    by_cases h2 : (L : Int) > 3
    · exact ⟨L, by omega, by rw [if_pos h2]⟩
    · exact ⟨3, by decide, by rw [if_neg h2]; rfl⟩
theorem x_lapsN {σ : L2.St} {H : Hp} {a : Addr} {ns : List Int} (h : σ[0]? = some (some (.ref a))) (hs : SqL K H a (ns.map V.int)) :
    ∃ n : Nat, n ≤ 6 ∧ EX (tCB DL.rMax2 (tCons (tC (.int 3)) (tCons (tCB DL.rMin2 (tCons (tCB (rLenQ K) (tCons (tVar 0) tNil)) (tCons (tC (.int 6)) tNil))) tNil))) σ H n := by
  obtain ⟨n, h6, e⟩ := lapsN ns.length
  refine ⟨n, h6, fun H1 e1 Q q => s_len h hs H1 e1 _ fun v H2 ⟨e2, r2⟩ => ⟨(ns.length : Int), 6, by rw [show v = V.int (ns.length : Int) from r2], 3, _, rfl, ?_⟩⟩
  rw [e]
  exact q _ _ ⟨e2, rfl⟩
theorem z_forWs {σ : L2.St} {G H : Hp} {p : Addr} {ta : TA} {tb : TS} {i k : Nat} {ok : List Nat → Prop} {nx bk ct : L2.St → Hp → Prop} {rt : VK} (h : EvWs (β := Tup Nat) ta σ G p ok k) (hk : k ≤ 1000) (e : Ex G H) (w : Wl p H) (Pv : L2.St → Prop) (P0 : Pv σ)
    (hs : ∀ (o : List Nat) v σ' H' (N : L2.St → Hp → Prop), ok o → rp (α := Tup Nat) o v H' → Pv σ' → Wl p H' → (∀ σ2 H2, Ex (Mk p H') H2 → Wl p H2 → Pv σ2 → N σ2 H2) → tb ⟨N, rt, nx, N⟩ (σ'.set i (some v)) H')
    (hd : ∀ σ' H', Ex (Mk p H) H' → Wl p H' → Pv σ' → nx σ' H') : tFor (iTup K (tTup ta)) (gName i) tb ⟨nx, rt, bk, ct⟩ σ H := by
  refine h H e w _ fun as vs H3 hok hlen e3 w3 its => ⟨sz_of (by rw [← Its.len its, hlen]; omega), fun P hP => ⟨P, rfl, ⟨_, st_of upd_same⟩, ?_⟩⟩
  have w4 := wl_upd (o := .tup vs) w3 hP
  have f4 : Ex (Mk p H) (upd H3 P (.tup vs)) := e3.trans (Ex.new hP)
  have hPt : upd H3 P (.tup vs) P = some (.tup vs) := upd_same
  have its4 : Its as vs (upd H3 P (.tup vs)) := Its.mono (Ex.new hP) its
  have hPp : P ≠ p := w3.ne hP
  generalize upd H3 P (.tup vs) = HP at w4 f4 hPt its4 ⊢
  have hPm : Mk p HP P = some (.tup vs) := by rw [mk_ne hPp]; exact hPt
  have itsm : Its as vs (Mk p HP) := Its.mt w4.mt its4
  refine for_tup (xs := vs) (fun _ σ' H' => Ex (Mk p HP) H' ∧ Wl p H' ∧ Pv σ') ⟨ex_mk, w4, P0⟩ (fun i σ' H' _ ⟨e, _⟩ => st_of (e _ _ hPm)) (fun i x σ' H' hx ⟨e, w', hv⟩ => ?_) fun σ' H' ⟨e, w', hv⟩ => hd σ' H' ((mk_mono f4).trans e) w' hv
  obtain ⟨o, ho, r⟩ := Its.back itsm hx
  exact hs o x σ' H' _ (hok o (List.mem_of_getElem? ho)) (mn e r) hv w' fun σ2 H2 e2 w2 hv2 => ⟨(mk_mono e).trans e2, w2, hv2⟩
theorem set_go {i : Nat} {v : V} {σ : L2.St} {H : Hp} {Q : L2.St → Hp → Prop} (h : Q (σ.set i (some v)) H) : gName i v σ H Q := h
/-- each order of four lines has its table -/
theorem led_ex4 {o : List Nat} (O : Ord 4 o) : ∃ S p0 p1, Led 2 S o p0 p1 := by
  have : ∀ o ∈ NT.perms4, ∃ S ∈ NT.allS, four S = o := by decide +kernel
  obtain ⟨S, hS, e⟩ := this o (NT.ord4_mem O)
  obtain ⟨l3, hc⟩ := NT.allS_set S hS
  have s : Setg 2 S := ⟨.inl ⟨rfl, l3⟩, fun c h => ⟨(hc c h).1, (hc c h).2⟩⟩
  obtain ⟨p0, p1, L⟩ := PL.led4 s
  rw [e] at L
  exact ⟨S, p0, p1, L⟩
theorem eight_p {S : List (List Nat)} (s : Setg 4 S) : OrdP (eight S) := .inr (NT.eight_ord s)
theorem led_eight {S : List (List Nat)} (s : Setg 4 S) : (List.range (2 * (S.length - 1))).map (ledT S (2 * (S.length - 1))) = eight S := by
  have l5 : S.length = 5 := by
    obtain ⟨_, _, _, _, _, rfl, _⟩ := NT.five s
    rfl
  rw [l5]
  exact eq_range (NT.eight_ord s).len fun i hi => NT.led8 s hi
theorem x_isplan {σ : L2.St} {H : Hp} {ta tb : TE} {S : List (List Nat)} {o : List Nat} (ha : EX (α := Tup (Tup Nat)) ta σ H (tabO (o.length / 2) o o.length)) (hb : EvR tb σ H (RRnds S o)) : EX (tCall sp__law_is_plan [] E0 (tCons ta (tCons tb (tCons (tC (.int 2)) tNil)))) σ H true := fun H1 e Q q =>
  ha H1 e _ fun vt H2 ⟨e2, rt⟩ => hb H2 (e.trans e2) _ fun vr H3 ⟨h, p0, p1, L, e3, rr⟩ => by
    have hh : o.length = 2 * h := L.olen
    have hh2 : o.length / 2 = h := by omega
    have T0 : tabO (o.length / 2) o o.length = tab h p0 p1 := by rw [hh2, hh]; exact tabO_led L
    rw [T0] at rt
    exact ⟨tab h p0 p1, [gr p0, gr p1], 2, vt, vr, _, rfl, mn e3 rt, rr, rfl, ⟨⟨h, p0, p1, L.P, rfl, rfl⟩, rfl⟩, fun v H' r => q v H' ⟨(e2.trans e3).trans r.1, r.2⟩⟩
theorem x_ninT0 {α : Type} [Rep α] [Pd α] [DecidableEq α] [PdE α] {σ : L2.St} {H : Hp} {ta tb : TE} {a : α} {bs : List α} (ha : EX ta σ H a) (hb : ET tb σ H bs) (h : Pd.dep α ≤ 60) (hm : a ∈ bs) : EX (tOp (rInT K true) ta tb) σ H false := ex_is (x_ninT ha hb h) (by rw [decide_eq_true hm]; rfl)
theorem x_nin {σ : L2.St} {H : Hp} {ta tb : TE} {T : List (List Nat)} {o : List Nat} {Ps : List Pln} {vo : V} (O : Ord 4 o) (hT : T = tabO 2 o 4) (hP : Ps.Perm (stP T 4)) (ha : EX (α := Tup Nat) ta σ H o) (hb : EX (α := Tup (Tup (Tup Pr))) tb σ H Ps) : EX (tOp (rInT K true) (tCall sp__law_rounds_of [] E0 (tCons (tCall sp_setting_for [] E0 (tCons ta tNil)) (tCons ta tNil))) tb) σ H false := fun H1 e Q q => by
  show (tCall sp__law_rounds_of [] E0 (tCons (tCall sp_setting_for [] E0 (tCons ta tNil)) (tCons ta tNil))) σ H1 _
  refine (r_call1 (α := Tup Nat) (R := fun o => RSet o) (pre := OrdP) (E := E0) (fun _ => RSet.bk) ha (.inl O)) H1 e _ fun vS H2 ⟨S, hS, e2, rS⟩ => ?_
  obtain ⟨_, _, h0, q0, q1, L0, _⟩ := forS (.inl O) hS
  refine ha H2 (e.trans e2) _ fun vo H3 ⟨e3, r3⟩ => ?_
  refine ⟨S, o, vS, vo, rfl, mn e3 rS, r3, ⟨h0, q0, q1, L0⟩, fun v H4 ⟨h, p0, p1, L, e4, r4⟩ => ?_⟩
  have h2 : h = 2 := by
    have := L.olen
    have := O.len
    omega
  subst h2
  have hT2 : T = tab 2 p0 p1 := hT.trans (tabO_led L)
  have hm : [gr p0, gr p1] ∈ Ps := hP.mem_iff.mpr (by rw [hT2]; exact (two2 L.P).2)
  refine hb H4 (((e.trans e2).trans e3).trans e4) _ fun u H5 ⟨e5, r5⟩ => ?_
  exact (x_ninT0 (K := K) (α := Tup (Tup Pr)) (σ := σ) (H := H5) (ta := fun _ H Q => Q v H) (tb := fun _ H Q => Q u H) (a := [gr p0, gr p1]) (bs := Ps) (fun H1 e Q q => q _ _ ⟨Ex.refl _, mn (e5.trans e) r4⟩) (fun H1 e Q q => q _ _ ⟨Ex.refl _, mn e r5⟩) (by decide) hm) H5 (Ex.refl _) Q fun w H6 ⟨e6, r6⟩ => q w H6 ⟨(((e2.trans e3).trans e4).trans e5).trans e6, r6⟩
def sp_law (K : PySem.W.Frag) : Sp := fun vs H Q _ => ∃ (a : Addr) (ns : List Int), vs = [.ref a] ∧ SqL K H a (ns.map V.int) ∧ ∀ H', Q (.bl true) H'
theorem len_law : ∀ vs H Q E, sp_law K vs H Q E → vs.length = 1 := fun vs H Q E ⟨_, _, e, _⟩ => by rw [e]; rfl
theorem sem_law : ∀ vs H Q E, sp_law K vs H Q E → t_law K (sp__law_well K) sp__law_wires sp__law_setting sp__law_mixed sp__law_right sp_led_by sp__law_is_plan sp__law_rounds_of sp__law_table_of sp_all_plans sp__law_same sp_plan_count sp_setting_for (eN Q) (start ["script", "lap", "well", "order", "setting", "four", "table", "every"] vs) H := fun vs H Q E h => by
  obtain ⟨a, ns, rfl, hs, q⟩ := h
  obtain ⟨laps, l6, hx⟩ := x_lapsN (K := K) (σ := [some (.ref a), none, none, none, none, none, none, none]) (H := H) (a := a) (ns := ns) rfl hs
  refine z_for (α := Nat) (i_rng (n := laps) hx (by omega)) (fun i σ' H' => Ex H H' ∧ ∃ y1 y2 y3 y4 y5 y6 y7, σ' = [some (.ref a), y1, y2, y3, y4, y5, y6, y7]) (fun H1 e1 => ⟨e1, _, _, _, _, _, _, _, rfl⟩) (fun i lap x σ' H0 H1 hi e1 hP e2 rx N hN => ?_) fun σ' H1 e1 hP => ?_
  · obtain ⟨e0, y1, y2, y3, y4, y5, y6, y7, rfl⟩ := hP
    have ex : x = .int (lap : Int) := rx
    subst ex
    have eH := e0.trans e2
    -- the lap's well
    refine ⟨.ref a, rfl, .int (lap : Int), rfl, a, ns, lap, rfl, ex_l eH hs, fun p H2 e3' hp w => ?_⟩
    refine set_go ?_
    dsimp only
    refine z_forWs (σ := [some (.ref a), some (.int (lap : Int)), some (.ref p), y3, y4, y5, y6, y7]) (G := Mk p H2) (k := 6) (ok := OrdP) ?_ (by decide) ex_mk w (fun σ' => ∃ y3, σ' = [some (.ref a), some (.int (lap : Int)), some (.ref p), y3, y4, y5, y6, y7]) ⟨_, rfl⟩ (fun o v σ' H' N' O ro hv w' hN' => ?_) fun σ' H' e' w' hv => ?_
    · refine ws_cons mk_p (w_mixed (m := 4) rfl (.inl rfl)) ?_
      refine ws_cons mk_p (w_mixed (m := 4) rfl (.inl rfl)) ?_
      refine ws_cons mk_p (w_mixed (m := 8) rfl (.inr rfl)) ?_
      refine ws_cons mk_p (w_mixed (m := 8) rfl (.inr rfl)) ?_
      refine ws_cons mk_p (fun H3 e3 w3 Q3 q3 => ?_) ?_
      · refine ⟨.ref p, rfl, p, rfl, w3, fun S v H4 hS e4 w4 r4 => ?_⟩
        refine (r_call2 (α := Tup (Tup Nat)) (β := Nat) (R := fun S _ => RX (α := Tup Nat) (wiresF S)) (pre := fun S n => WirP S n) (E := E0) (fun _ _ => RX.bk) (ev_eq (σ := [some (.ref a), some (.int (lap : Int)), some (.ref p), y3, y4, y5, y6, y7]) (te := fun _ H Q => Q v H) (fun H1 e Q q => q H1 (Ex.refl _)) r4) (x_n (n := 8) rfl) (.inr ⟨hS, rfl⟩)) H4 (Ex.refl _) _ fun u H5 ⟨e5, r5⟩ => ?_
        have ew : wiresF S = eight S := by
          obtain ⟨_, _, _, _, _, rfl, _⟩ := NT.five hS
          rfl
        exact q3 (wiresF S) u H5 (by rw [ew]; exact eight_p hS) (e4.trans e5) (w4.ex e5) r5
      refine ws_cons mk_p (EvW.of (x_tupRg (n := 8) (x_n (n := 8) rfl) (by decide)) (.inr ⟨rfl, by decide, by decide⟩)) ?_
      exact ws_nil
    · obtain ⟨y3, rfl⟩ := hv
      refine ⟨.ref p, rfl, v, rfl, p, o, v, rfl, w', O, ro, fun H3 e3 w3 => ⟨true, rfl, ?_⟩⟩
      exact hN' _ _ e3 w3 ⟨_, rfl⟩
    · obtain ⟨y3, rfl⟩ := hv
      have f : Ex (Mk p H2) H' := e'
      -- a drawn setting
      refine ⟨.ref p, rfl, p, rfl, w', fun S vS H3 hS e3 w3 rS => ?_⟩
      refine set_go ?_
      dsimp only
      have eS := led_eight hS
      obtain ⟨p0, p1, L⟩ := PL.led8 hS
      refine q_set (σ := [some (.ref a), some (.int (lap : Int)), some (.ref p), y3, some vS, y5, y6, y7]) (ex_is (α := Tup Nat) (x_call1 (α := Tup (Tup Nat)) (β := Tup Nat) (f := fun S => (List.range (2 * (List.length S - 1))).map (ledT S (2 * (List.length S - 1)))) (a := S) (x_var (α := Tup (Tup Nat)) (a := S) (i := 4) rfl rS) (.inr hS)) eS) fun vO H4 ⟨e4, rO⟩ => ?_
      have O8 := NT.eight_ord hS
      have rS4 := mn e4 rS
      refine z_if (b := false) (et_is (et_not (t_B (x_isplan (S := S) (o := eight S) (x_call1 (α := Tup Nat) (β := Tup (Tup Nat)) (f := fun o => tabO (List.length o / 2) o (List.length o)) (a := eight S) (x_var (α := Tup Nat) (a := eight S) (i := 3) rfl rO) (ordR_of (.inr O8))) (r_call2 (α := Tup (Tup Nat)) (β := Tup Nat) (R := fun S o => RRnds S o) (fun _ _ => RRnds.bk) (x_var (α := Tup (Tup Nat)) (a := S) (i := 4) rfl rS4) (x_var (α := Tup Nat) (a := eight S) (i := 3) rfl rO) ⟨4, p0, p1, L⟩)))) rfl) (fun z => nomatch z) fun _ H5 e5 => z_next ?_
      have w5 := (w3.ex e4).ex e5
      have f5 : Ex (Mk p H2) H5 := ((mk_mono f).trans e3).trans (e4.trans e5)
      -- four lines
      refine ⟨.ref p, rfl, p, 4, rfl, w5, by decide, fun o v6 H6 O e6 w6 r6 => ?_⟩
      refine set_go ?_
      dsimp only
      have f6 : Ex (Mk p H2) H6 := (mk_mono f5).trans e6
      obtain ⟨S2, q0, q1, L2⟩ := led_ex4 O
      have hT : tabO 2 o 4 = tab 2 q0 q1 := tabO_led L2
      have ol := O.len
      have e24 : tabO (List.length (α := Nat) o / 2) o (List.length (α := Nat) o) = tab 2 q0 q1 := by rw [ol]; exact hT
      have t3 := (two2 L2.P).1
      refine q_set (σ := [some (.ref a), some (.int (lap : Int)), some (.ref p), some vO, some vS, some v6, y6, y7]) (ex_is (α := Tup (Tup Nat)) (x_call1 (α := Tup Nat) (β := Tup (Tup Nat)) (f := fun o => tabO (List.length o / 2) o (List.length o)) (a := o) (x_var (α := Tup Nat) (a := o) (i := 5) rfl r6) (ordR_of (.inl O))) e24) fun v7 H7 ⟨e7, r7⟩ => ?_
      refine q_set (r_call2 (α := Tup (Tup Nat)) (β := Nat) (R := fun T _ => RAll T) (fun _ _ => RAll.bk) (x_var (α := Tup (Tup Nat)) (a := tab 2 q0 q1) (i := 6) rfl r7) (x_n (n := 2) rfl) ⟨t3, rfl⟩) fun v8 H8 ⟨Ps, hP, e8, r8⟩ => ?_
      have r78 := mn e8 r7
      have r68 := mn (e7.trans e8) r6
      have lP : Ps.length = cntF (tab 2 q0 q1) := hP.length_eq.trans (stP_end _ t3).2.1
      refine z_if (b := false) (et_or (a := false) (b := false) (et_is (et_not (t_B (ex_is (b := true) (x_call2 (α := Option Nat) (β := Option Nat) (f := fun a b => decide (a = b)) (a := some (cntF (tab 2 q0 q1))) (b := some Ps.length) (x_some (x_call2 (α := Tup (Tup Nat)) (β := Nat) (γ := Nat) (f := fun T _ => cntF T) (x_var (α := Tup (Tup Nat)) (a := tab 2 q0 q1) (i := 6) rfl r78) (x_n (n := 2) rfl) ⟨t3, rfl⟩)) (x_some (x_lenT (α := Tup (Tup Pr)) (as := Ps) (x_var (α := Tup (Tup (Tup Pr))) (i := 7) rfl r8))) True.intro) (decide_eq_true (by rw [lP]))))) rfl) fun _ => t_test (x_nin (vo := v6) O hT.symm hP (x_var (α := Tup Nat) (a := o) (i := 5) rfl r68) (x_var (α := Tup (Tup (Tup Pr))) (a := Ps) (i := 7) rfl r8))) (fun z => nomatch z) fun _ H9 e9 => z_next ?_
      have f9 : Ex (Mk p H2) H9 := f6.trans ((e7.trans e8).trans e9)
      have g : Ex H1 H9 := (mk_ex e3' hp).trans f9
      exact hN _ _ g ⟨eH.trans g, _, _, _, _, _, _, _, rfl⟩
  · obtain ⟨e0, y1, y2, y3, y4, y5, y6, y7, rfl⟩ := hP
    exact q H1
end K77

/-! the bodies' derivations, printed by gen.py -/
namespace K77
open PySem PySem.Spec PyProof.Rows L2 DL StX

def topS (i : Nat) : Stmt := PySem.Challenge.pw_roundhours_k77_whole_nets_beside_plans.main.body.getD i (.Pass ⟨0, 0, 0, 0⟩)

section
variable {P : Program} {w : World} {K : PySem.W.Frag} {mg : Str → Option Value} {base : Heap}

abbrev s_is_whole : Stmt := topS 11

theorem sc_is_whole : FnScope ["value"] ["value"] (defScope s_is_whole) := ⟨rfl, rfl, rfl, by decide +kernel, rfl, by decide +kernel, by decide +kernel⟩

theorem d_is_whole (B : Bi mg) {f : Addr} {cdv : Value} {A : Around} {outer : List Env} {s : Shared} {H : Hp} {E : XK} (hr : Room 0 (A.deeper (envOfC "is_whole" (defScope s_is_whole) s.heap.objs.size f cdv))) :
    PSs (cxOf CX0 P w K mg base ["value"] "is_whole" (defScope s_is_whole) f cdv A outer s H E).nox (defBody s_is_whole) (t_is_whole K) :=
  (pss_one (ps_ret (pe_and (pe_callB call_isi (by rfl) B.m_isinstance (by decide +kernel) (pa_cons (pv 0) (pa_cons (pe_bltn (by rfl) B.m_int (by decide +kernel) rfl) pa_nil))) (pe_one (pe_not (pe_callB call_isi (by rfl) B.m_isinstance (by decide +kernel) (pa_cons (pv 0) (pa_cons (pe_bltn (by rfl) B.m_bool (by decide +kernel) rfl) pa_nil))))))))

theorem ok_is_whole {f : Addr} {fd : FuncData} (F : Fun K "is_whole" "is_whole" s_is_whole f fd) (B : Bi mg) : FnOk P w K mg base CX0 1 f fd ["value"] sp_is_whole :=
  Fun.okT F sc_is_whole len_is_whole (fun cdv A outer s H E hr => d_is_whole B hr) sem_is_whole

theorem df_is_whole {f : Addr} {fd : FuncData} (F : Fun K "is_whole" "is_whole" s_is_whole f fd) (hm : mg "is_whole" = some (.ref f)) (B : Bi mg) : Df P w K mg base 1 "is_whole" ["value"] sp_is_whole :=
  Df.of F (ok_is_whole F B) hm (fun _ _ _ _ _ _ us hl => match us, hl with | [_], _ => rfl) (fun p hp => by cases hp; intros; rfl)

abbrev s_is_between : Stmt := topS 12

theorem sc_is_between : FnScope ["value", "low", "high"] ["value", "low", "high"] (defScope s_is_between) := ⟨rfl, rfl, rfl, by decide +kernel, rfl, by decide +kernel, by decide +kernel⟩

theorem d_is_between (B : Bi mg) (D_is_whole : Df P w K mg base 1 "is_whole" ["value"] sp_is_whole) {f : Addr} {cdv : Value} {A : Around} {outer : List Env} {s : Shared} {H : Hp} {E : XK} (hr : Room 1 (A.deeper (envOfC "is_between" (defScope s_is_between) s.heap.objs.size f cdv))) :
    PSs (cxOf CX0 P w K mg base ["value", "low", "high"] "is_between" (defScope s_is_between) f cdv A outer s H E).nox (defBody s_is_between) (t_is_between K sp_is_whole) :=
  (pss_one (ps_ret (pe_and (pe_df D_is_whole (hr.mono (by decide)) (by rfl) (pa_cons (pv 0) pa_nil)) (pe_one (pe_chain op_le op_le (pv 1) (pv 0) (pv 2))))))

theorem ok_is_between {f : Addr} {fd : FuncData} (F : Fun K "is_between" "is_between" s_is_between f fd) (B : Bi mg) (D_is_whole : Df P w K mg base 1 "is_whole" ["value"] sp_is_whole) : FnOk P w K mg base CX0 2 f fd ["value", "low", "high"] sp_is_between :=
  Fun.okT F sc_is_between len_is_between (fun cdv A outer s H E hr => d_is_between B D_is_whole hr) sem_is_between

theorem df_is_between {f : Addr} {fd : FuncData} (F : Fun K "is_between" "is_between" s_is_between f fd) (hm : mg "is_between" = some (.ref f)) (B : Bi mg) (D_is_whole : Df P w K mg base 1 "is_whole" ["value"] sp_is_whole) : Df P w K mg base 2 "is_between" ["value", "low", "high"] sp_is_between :=
  Df.of F (ok_is_between F B D_is_whole) hm (fun _ _ _ _ _ _ us hl => match us, hl with | [_, _, _], _ => rfl) (fun p hp => nomatch hp)

abbrev s_is_tuple_of : Stmt := topS 13

theorem sc_is_tuple_of : FnScope ["value", "many"] ["value", "many"] (defScope s_is_tuple_of) := ⟨rfl, rfl, rfl, by decide +kernel, rfl, by decide +kernel, by decide +kernel⟩

theorem d_is_tuple_of (B : Bi mg) {f : Addr} {cdv : Value} {A : Around} {outer : List Env} {s : Shared} {H : Hp} {E : XK} (hr : Room 0 (A.deeper (envOfC "is_tuple_of" (defScope s_is_tuple_of) s.heap.objs.size f cdv))) :
    PSs (cxOf CX0 P w K mg base ["value", "many"] "is_tuple_of" (defScope s_is_tuple_of) f cdv A outer s H E).nox (defBody s_is_tuple_of) (t_is_tuple_of K) :=
  (pss_one (ps_ret (pe_and (pe_callB call_isi (by rfl) B.m_isinstance (by decide +kernel) (pa_cons (pv 0) (pa_cons (pe_bltn (by rfl) B.m_tuple (by decide +kernel) rfl) pa_nil))) (pe_one (pe_cmpR op_eq (pe_callB call_len_seq (by rfl) B.m_len (by decide +kernel) (pa_cons (pv 0) pa_nil)) (pv 1) (nomark _))))))

theorem ok_is_tuple_of {f : Addr} {fd : FuncData} (F : Fun K "is_tuple_of" "is_tuple_of" s_is_tuple_of f fd) (B : Bi mg) : FnOk P w K mg base CX0 1 f fd ["value", "many"] sp_is_tuple_of :=
  Fun.okT F sc_is_tuple_of len_is_tuple_of (fun cdv A outer s H E hr => d_is_tuple_of B hr) sem_is_tuple_of

theorem df_is_tuple_of {f : Addr} {fd : FuncData} (F : Fun K "is_tuple_of" "is_tuple_of" s_is_tuple_of f fd) (hm : mg "is_tuple_of" = some (.ref f)) (B : Bi mg) : Df P w K mg base 1 "is_tuple_of" ["value", "many"] sp_is_tuple_of :=
  Df.of F (ok_is_tuple_of F B) hm (fun _ _ _ _ _ _ us hl => match us, hl with | [_, _], _ => rfl) (fun p hp => nomatch hp)

abbrev s_is_tuple_of_P : Stmt := topS 13

theorem sc_is_tuple_of_P : FnScope ["value", "many"] ["value", "many"] (defScope s_is_tuple_of_P) := ⟨rfl, rfl, rfl, by decide +kernel, rfl, by decide +kernel, by decide +kernel⟩

theorem d_is_tuple_of_P (B : Bi mg) {f : Addr} {cdv : Value} {A : Around} {outer : List Env} {s : Shared} {H : Hp} {E : XK} (hr : Room 0 (A.deeper (envOfC "is_tuple_of" (defScope s_is_tuple_of_P) s.heap.objs.size f cdv))) :
    PSs (cxOf CX0 P w K mg base ["value", "many"] "is_tuple_of" (defScope s_is_tuple_of_P) f cdv A outer s H E).nox (defBody s_is_tuple_of_P) (t_is_tuple_of_P K) :=
  (pss_one (ps_ret (pe_and (pe_callB call_isi (by rfl) B.m_isinstance (by decide +kernel) (pa_cons (pv 0) (pa_cons (pe_bltn (by rfl) B.m_tuple (by decide +kernel) rfl) pa_nil))) (pe_one (pe_cmpR op_eq (pe_callB call_len_seq (by rfl) B.m_len (by decide +kernel) (pa_cons (pv 0) pa_nil)) (pv 1) (nomark _))))))

theorem ok_is_tuple_of_P {f : Addr} {fd : FuncData} (F : Fun K "is_tuple_of" "is_tuple_of" s_is_tuple_of_P f fd) (B : Bi mg) : FnOk P w K mg base CX0 1 f fd ["value", "many"] sp_is_tuple_of_P :=
  Fun.okT F sc_is_tuple_of_P len_is_tuple_of_P (fun cdv A outer s H E hr => d_is_tuple_of_P B hr) sem_is_tuple_of_P

theorem df_is_tuple_of_P {f : Addr} {fd : FuncData} (F : Fun K "is_tuple_of" "is_tuple_of" s_is_tuple_of_P f fd) (hm : mg "is_tuple_of" = some (.ref f)) (B : Bi mg) : Df P w K mg base 1 "is_tuple_of" ["value", "many"] sp_is_tuple_of_P :=
  Df.of F (ok_is_tuple_of_P F B) hm (fun _ _ _ _ _ _ us hl => match us, hl with | [_, _], _ => rfl) (fun p hp => nomatch hp)

abbrev s_are_rising : Stmt := topS 14

theorem sc_are_rising : FnScope ["value", "index"] ["value"] (defScope s_are_rising) := ⟨rfl, rfl, rfl, by decide +kernel, rfl, by decide +kernel, by decide +kernel⟩

theorem d_are_rising (B : Bi mg) {f : Addr} {cdv : Value} {A : Around} {outer : List Env} {s : Shared} {H : Hp} {E : XK} (hr : Room 0 (A.deeper (envOfC "are_rising" (defScope s_are_rising) s.heap.objs.size f cdv))) :
    PSs (cxOf CX0 P w K mg base ["value", "index"] "are_rising" (defScope s_are_rising) f cdv A outer s H E).nox (defBody s_are_rising) (t_are_rising K) :=
  (pss_one (ps_ret (pe_callB (cr_all (by rfl)) (by rfl) B.m_all (by decide +kernel) (pa_cons (pe_lc (own := [("index", 1)]) (g := (gName 1)) (tt := tYes) (te := (tOp (rLtT K) (tOp (rIxT K) (tVar 0) (tOp oSub (tVar 1) (tC (.int 1)))) (tOp (rIxT K) (tVar 0) (tVar 1)))) (by rfl) sc_are_rising.nd (pi_range2 (by rfl) B.m_range (pa_cons pe_int (pa_cons (pe_callB call_len_seq (by rfl) B.m_len (by decide +kernel) (pa_cons (pv 0) pa_nil)) pa_nil))) (blkOk_by (N := ["value", "index"]) (sc := defScope s_are_rising) (by decide +kernel)) (fun _ _ _ _ _ => (pg_name (i := 1) sc_are_rising.nd rfl (Or.inl rfl))) (fun _ _ _ _ _ => pts_nil) (fun _ _ _ _ _ => (pe_cmpR (op_ltT hr.units0) (pe_ix ix_tup (pv 0) (pe_op op_sub (pv 1) pe_int) (fun _ _ => rfl)) (pe_ix ix_tup (pv 0) (pv 1) (fun _ _ => rfl)) (nomark _)))) pa_nil))))

theorem ok_are_rising {f : Addr} {fd : FuncData} (F : Fun K "are_rising" "are_rising" s_are_rising f fd) (B : Bi mg) : FnOk P w K mg base CX0 1 f fd ["value"] sp_are_rising :=
  Fun.okT F sc_are_rising len_are_rising (fun cdv A outer s H E hr => d_are_rising B hr) sem_are_rising

theorem df_are_rising {f : Addr} {fd : FuncData} (F : Fun K "are_rising" "are_rising" s_are_rising f fd) (hm : mg "are_rising" = some (.ref f)) (B : Bi mg) : Df P w K mg base 1 "are_rising" ["value"] sp_are_rising :=
  Df.of F (ok_are_rising F B) hm (fun _ _ _ _ _ _ us hl => match us, hl with | [_], _ => rfl) (fun p hp => by cases hp; intros; rfl)

abbrev s_wrong_in_lines : Stmt := topS 18

theorem sc_wrong_in_lines : FnScope ["value", "index", "line"] ["value"] (defScope s_wrong_in_lines) := ⟨rfl, rfl, rfl, by decide +kernel, rfl, by decide +kernel, by decide +kernel⟩

theorem d_wrong_in_lines (B : Bi mg) (c_COLUMNS_OF : KD mg K "COLUMNS_OF" [(2, 1), (4, 3), (8, 5)]) (D_is_between : Df P w K mg base 2 "is_between" ["value", "low", "high"] sp_is_between) {f : Addr} {cdv : Value} {A : Around} {outer : List Env} {s : Shared} {H : Hp} {E : XK} (hr : Room 2 (A.deeper (envOfC "wrong_in_lines" (defScope s_wrong_in_lines) s.heap.objs.size f cdv))) :
    PSs (cxOf CX0 P w K mg base ["value", "index", "line"] "wrong_in_lines" (defScope s_wrong_in_lines) f cdv A outer s H E).nox (defBody s_wrong_in_lines) (t_wrong_in_lines K sp_is_between) :=
  (pss_cons (ps_if (PW.pt (pw_or (pt_not (pt_val (pe_callB call_isi (by rfl) B.m_isinstance (by decide +kernel) (pa_cons (pv 0) (pa_cons (pe_bltn (by rfl) B.m_tuple (by decide +kernel) rfl) pa_nil))))) (pw_or1 (pt_cmp (pc_kNotIn c_COLUMNS_OF (by rfl) (pe_callB call_len_seq (by rfl) B.m_len (by decide +kernel) (pa_cons (pv 0) pa_nil))) rfl)))) (pss_one (ps_ret (pe_lst (pa_cons pe_non pa_nil)))) pss_nil)
    (pss_cons (ps_for PassesOwn.never (by rfl) (pi_enumT (by rfl) B.m_enumerate (pa_cons (pv 0) pa_nil)) (pg_tup (by rfl) (pgs_cons (pg_name (i := 1) sc_wrong_in_lines.nd rfl (Or.inl rfl)) (pgs_cons (pg_name (i := 2) sc_wrong_in_lines.nd rfl (Or.inl rfl)) pgs_nil))) (pss_one (ps_if (PW.pt (pw_or (pt_not (pt_val (pe_df D_is_between (hr.mono (by decide)) (by rfl) (pa_cons (pv 2) (pa_cons pe_int (pa_cons (pe_op op_sub (pe_callB call_len_seq (by rfl) B.m_len (by decide +kernel) (pa_cons (pv 0) pa_nil)) pe_int) pa_nil)))))) (pw_or1 (pt_cmpR op_in_seq (pv 2) (pe_slice sl_tupA (pv 0) po_none (po_some (pv 1))) (by rfl))))) (pss_one (ps_ret (pe_lst (pa_cons (pv 1) pa_nil)))) pss_nil)))
    (pss_one (ps_ret (pe_lst pa_nil)))))

theorem ok_wrong_in_lines {f : Addr} {fd : FuncData} (F : Fun K "wrong_in_lines" "wrong_in_lines" s_wrong_in_lines f fd) (B : Bi mg) (c_COLUMNS_OF : KD mg K "COLUMNS_OF" [(2, 1), (4, 3), (8, 5)]) (D_is_between : Df P w K mg base 2 "is_between" ["value", "low", "high"] sp_is_between) : FnOk P w K mg base CX0 3 f fd ["value"] sp_wrong_in_lines :=
  Fun.okT F sc_wrong_in_lines len_wrong_in_lines (fun cdv A outer s H E hr => d_wrong_in_lines B c_COLUMNS_OF D_is_between hr) sem_wrong_in_lines

theorem df_wrong_in_lines {f : Addr} {fd : FuncData} (F : Fun K "wrong_in_lines" "wrong_in_lines" s_wrong_in_lines f fd) (hm : mg "wrong_in_lines" = some (.ref f)) (B : Bi mg) (c_COLUMNS_OF : KD mg K "COLUMNS_OF" [(2, 1), (4, 3), (8, 5)]) (D_is_between : Df P w K mg base 2 "is_between" ["value", "low", "high"] sp_is_between) : Df P w K mg base 3 "wrong_in_lines" ["value"] sp_wrong_in_lines :=
  Df.of F (ok_wrong_in_lines F B c_COLUMNS_OF D_is_between) hm (fun _ _ _ _ _ _ us hl => match us, hl with | [_], _ => rfl) (fun p hp => by cases hp; intros; rfl)

abbrev s_is_column : Stmt := topS 19

theorem sc_is_column : FnScope ["value", "many", "each"] ["value", "many"] (defScope s_is_column) := ⟨rfl, rfl, rfl, by decide +kernel, rfl, by decide +kernel, by decide +kernel⟩

theorem d_is_column (B : Bi mg) (D_is_tuple_of : Df P w K mg base 1 "is_tuple_of" ["value", "many"] sp_is_tuple_of) (D_is_between : Df P w K mg base 2 "is_between" ["value", "low", "high"] sp_is_between) {f : Addr} {cdv : Value} {A : Around} {outer : List Env} {s : Shared} {H : Hp} {E : XK} (hr : Room 2 (A.deeper (envOfC "is_column" (defScope s_is_column) s.heap.objs.size f cdv))) :
    PSs (cxOf CX0 P w K mg base ["value", "many", "each"] "is_column" (defScope s_is_column) f cdv A outer s H E).nox (defBody s_is_column) (t_is_column K sp_is_tuple_of sp_is_between) :=
  (pss_one (ps_ret (pe_and (pe_df D_is_tuple_of (hr.mono (by decide)) (by rfl) (pa_cons (pv 0) (pa_cons (pv 1) pa_nil))) (pe_one (pe_callB (cr_all (by rfl)) (by rfl) B.m_all (by decide +kernel) (pa_cons (pe_lc (own := [("each", 2)]) (g := (gName 2)) (tt := tYes) (te := (tCall sp_is_between [] E0 (tCons (tVar 2) (tCons (tC (.int 0)) (tCons (tC (.int 1)) tNil))))) (by rfl) sc_is_column.nd (pi_tup (pv 0)) (blkOk_by (N := ["value", "many", "each"]) (sc := defScope s_is_column) (by decide +kernel)) (fun _ _ _ _ _ => (pg_name (i := 2) sc_is_column.nd rfl (Or.inl rfl))) (fun _ _ _ _ _ => pts_nil) (fun _ _ _ _ _ => (pe_df D_is_between (hr.mono (by decide)) (by rfl) (pa_cons (pv 2) (pa_cons pe_int (pa_cons pe_int pa_nil)))))) pa_nil))))))

theorem ok_is_column {f : Addr} {fd : FuncData} (F : Fun K "is_column" "is_column" s_is_column f fd) (B : Bi mg) (D_is_tuple_of : Df P w K mg base 1 "is_tuple_of" ["value", "many"] sp_is_tuple_of) (D_is_between : Df P w K mg base 2 "is_between" ["value", "low", "high"] sp_is_between) : FnOk P w K mg base CX0 3 f fd ["value", "many"] sp_is_column :=
  Fun.okT F sc_is_column len_is_column (fun cdv A outer s H E hr => d_is_column B D_is_tuple_of D_is_between hr) sem_is_column

theorem df_is_column {f : Addr} {fd : FuncData} (F : Fun K "is_column" "is_column" s_is_column f fd) (hm : mg "is_column" = some (.ref f)) (B : Bi mg) (D_is_tuple_of : Df P w K mg base 1 "is_tuple_of" ["value", "many"] sp_is_tuple_of) (D_is_between : Df P w K mg base 2 "is_between" ["value", "low", "high"] sp_is_between) : Df P w K mg base 3 "is_column" ["value", "many"] sp_is_column :=
  Df.of F (ok_is_column F B D_is_tuple_of D_is_between) hm (fun _ _ _ _ _ _ us hl => match us, hl with | [_, _], _ => rfl) (fun p hp => nomatch hp)

abbrev s_is_setting_by : Stmt := topS 20

theorem sc_is_setting_by : FnScope ["value", "each"] ["value"] (defScope s_is_setting_by) := ⟨rfl, rfl, rfl, by decide +kernel, rfl, by decide +kernel, by decide +kernel⟩

theorem d_is_setting_by (B : Bi mg) (c_LINES_OF : KD mg K "LINES_OF" [(1, 2), (3, 4), (5, 8)]) (D_is_column : Df P w K mg base 3 "is_column" ["value", "many"] sp_is_column) {f : Addr} {cdv : Value} {A : Around} {outer : List Env} {s : Shared} {H : Hp} {E : XK} (hr : Room 3 (A.deeper (envOfC "is_setting_by" (defScope s_is_setting_by) s.heap.objs.size f cdv))) :
    PSs (cxOf CX0 P w K mg base ["value", "each"] "is_setting_by" (defScope s_is_setting_by) f cdv A outer s H E).nox (defBody s_is_setting_by) (t_is_setting_by K sp_is_column) :=
  (pss_cons (ps_if (PW.pt (pw_or (pt_not (pt_val (pe_callB call_isi (by rfl) B.m_isinstance (by decide +kernel) (pa_cons (pv 0) (pa_cons (pe_bltn (by rfl) B.m_tuple (by decide +kernel) rfl) pa_nil))))) (pw_or1 (pt_cmp (pc_kNotIn c_LINES_OF (by rfl) (pe_callB call_len_seq (by rfl) B.m_len (by decide +kernel) (pa_cons (pv 0) pa_nil))) rfl)))) (pss_one (ps_ret pe_bl)) pss_nil)
    (pss_one (ps_ret (pe_callB (cr_all (by rfl)) (by rfl) B.m_all (by decide +kernel) (pa_cons (pe_lc (own := [("each", 1)]) (g := (gName 1)) (tt := tYes) (te := (tCall sp_is_column [] E0 (tCons (tVar 1) (tCons (tOp oDiv (tKGet [(1, 2), (3, 4), (5, 8)] (tCB (rLenQ K) (tCons (tVar 0) tNil))) (tC (.int 2))) tNil)))) (by rfl) sc_is_setting_by.nd (pi_tup (pv 0)) (blkOk_by (N := ["value", "each"]) (sc := defScope s_is_setting_by) (by decide +kernel)) (fun _ _ _ _ _ => (pg_name (i := 1) sc_is_setting_by.nd rfl (Or.inl rfl))) (fun _ _ _ _ _ => pts_nil) (fun _ _ _ _ _ => (pe_df D_is_column (hr.mono (by decide)) (by rfl) (pa_cons (pv 1) (pa_cons (pe_op op_fdiv (pe_kGet c_LINES_OF (by rfl) (pe_callB call_len_seq (by rfl) B.m_len (by decide +kernel) (pa_cons (pv 0) pa_nil)) (fun _ _ => rfl)) pe_int) pa_nil))))) pa_nil)))))

theorem ok_is_setting_by {f : Addr} {fd : FuncData} (F : Fun K "is_setting_by" "is_setting_by" s_is_setting_by f fd) (B : Bi mg) (c_LINES_OF : KD mg K "LINES_OF" [(1, 2), (3, 4), (5, 8)]) (D_is_column : Df P w K mg base 3 "is_column" ["value", "many"] sp_is_column) : FnOk P w K mg base CX0 4 f fd ["value"] sp_is_setting_by :=
  Fun.okT F sc_is_setting_by len_is_setting_by (fun cdv A outer s H E hr => d_is_setting_by B c_LINES_OF D_is_column hr) sem_is_setting_by

theorem df_is_setting_by {f : Addr} {fd : FuncData} (F : Fun K "is_setting_by" "is_setting_by" s_is_setting_by f fd) (hm : mg "is_setting_by" = some (.ref f)) (B : Bi mg) (c_LINES_OF : KD mg K "LINES_OF" [(1, 2), (3, 4), (5, 8)]) (D_is_column : Df P w K mg base 3 "is_column" ["value", "many"] sp_is_column) : Df P w K mg base 4 "is_setting_by" ["value"] sp_is_setting_by :=
  Df.of F (ok_is_setting_by F B c_LINES_OF D_is_column) hm (fun _ _ _ _ _ _ us hl => match us, hl with | [_], _ => rfl) (fun p hp => by cases hp; intros; rfl)

abbrev s_switched : Stmt := topS 21

theorem sc_switched : FnScope ["column", "place"] ["column", "place"] (defScope s_switched) := ⟨rfl, rfl, rfl, by decide +kernel, rfl, by decide +kernel, by decide +kernel⟩

theorem d_switched (B : Bi mg) {f : Addr} {cdv : Value} {A : Around} {outer : List Env} {s : Shared} {H : Hp} {E : XK} (hr : Room 0 (A.deeper (envOfC "switched" (defScope s_switched) s.heap.objs.size f cdv))) :
    PSs (cxOf CX0 P w K mg base ["column", "place"] "switched" (defScope s_switched) f cdv A outer s H E).nox (defBody s_switched) (t_switched K) :=
  (pss_cons (ps_if (pt_cmpR op_eq (pe_ix ix_tup (pv 0) (pe_op op_fdiv (pv 1) pe_int) (fun _ _ => rfl)) pe_int (nomark _)) (pss_one (ps_ret (pv 1))) pss_nil)
    (pss_one (ps_ret (pe_op op_sub (pe_op op_add (pv 1) pe_int) (pe_op op_mul pe_int (pe_op op_mod (pe_callTy call_int1 (by rfl) B.m_int (by decide +kernel) (pa_cons (pv 1) pa_nil)) pe_int))))))

theorem ok_switched {f : Addr} {fd : FuncData} (F : Fun K "switched" "switched" s_switched f fd) (B : Bi mg) : FnOk P w K mg base CX0 1 f fd ["column", "place"] sp_switched :=
  Fun.okT F sc_switched len_switched (fun cdv A outer s H E hr => d_switched B hr) sem_switched

theorem df_switched {f : Addr} {fd : FuncData} (F : Fun K "switched" "switched" s_switched f fd) (hm : mg "switched" = some (.ref f)) (B : Bi mg) : Df P w K mg base 1 "switched" ["column", "place"] sp_switched :=
  Df.of F (ok_switched F B) hm (fun _ _ _ _ _ _ us hl => match us, hl with | [_, _], _ => rfl) (fun p hp => nomatch hp)

abbrev s_parted : Stmt := topS 22

theorem sc_parted : FnScope ["place", "size", "within"] ["place", "size"] (defScope s_parted) := ⟨rfl, rfl, rfl, by decide +kernel, rfl, by decide +kernel, by decide +kernel⟩

theorem d_parted (B : Bi mg) {f : Addr} {cdv : Value} {A : Around} {outer : List Env} {s : Shared} {H : Hp} {E : XK} (hr : Room 0 (A.deeper (envOfC "parted" (defScope s_parted) s.heap.objs.size f cdv))) :
    PSs (cxOf CX0 P w K mg base ["place", "size", "within"] "parted" (defScope s_parted) f cdv A outer s H E).nox (defBody s_parted) (t_parted K) :=
  (pss_cons (ps_set (i := 2) sc_parted.nd rfl (.inl rfl) (pe_op op_mod (pe_callTy call_int1 (by rfl) B.m_int (by decide +kernel) (pa_cons (pv 0) pa_nil)) (pv 1)))
    (pss_one (ps_ret (pe_op op_add (pe_op op_add (pe_op op_sub (pv 0) (pv 2)) (pe_op op_mul (pe_op op_mod (pe_callTy call_int1 (by rfl) B.m_int (by decide +kernel) (pa_cons (pv 2) pa_nil)) pe_int) (pe_op op_fdiv (pv 1) pe_int))) (pe_op op_fdiv (pv 2) pe_int)))))

theorem ok_parted {f : Addr} {fd : FuncData} (F : Fun K "parted" "parted" s_parted f fd) (B : Bi mg) : FnOk P w K mg base CX0 1 f fd ["place", "size"] sp_parted :=
  Fun.okT F sc_parted len_parted (fun cdv A outer s H E hr => d_parted B hr) sem_parted

theorem df_parted {f : Addr} {fd : FuncData} (F : Fun K "parted" "parted" s_parted f fd) (hm : mg "parted" = some (.ref f)) (B : Bi mg) : Df P w K mg base 1 "parted" ["place", "size"] sp_parted :=
  Df.of F (ok_parted F B) hm (fun _ _ _ _ _ _ us hl => match us, hl with | [_, _], _ => rfl) (fun p hp => nomatch hp)

abbrev s_brought_back : Stmt := topS 23

theorem sc_brought_back : FnScope ["place", "size", "within"] ["place", "size"] (defScope s_brought_back) := ⟨rfl, rfl, rfl, by decide +kernel, rfl, by decide +kernel, by decide +kernel⟩

theorem d_brought_back (B : Bi mg) {f : Addr} {cdv : Value} {A : Around} {outer : List Env} {s : Shared} {H : Hp} {E : XK} (hr : Room 0 (A.deeper (envOfC "brought_back" (defScope s_brought_back) s.heap.objs.size f cdv))) :
    PSs (cxOf CX0 P w K mg base ["place", "size", "within"] "brought_back" (defScope s_brought_back) f cdv A outer s H E).nox (defBody s_brought_back) (t_brought_back K) :=
  (pss_cons (ps_set (i := 2) sc_brought_back.nd rfl (.inl rfl) (pe_op op_mod (pe_callTy call_int1 (by rfl) B.m_int (by decide +kernel) (pa_cons (pv 0) pa_nil)) (pv 1)))
    (pss_one (ps_ret (pe_op op_add (pe_op op_add (pe_op op_sub (pv 0) (pv 2)) (pe_op op_mul pe_int (pe_op op_mod (pe_callTy call_int1 (by rfl) B.m_int (by decide +kernel) (pa_cons (pv 2) pa_nil)) (pe_op op_fdiv (pv 1) pe_int)))) (pe_op op_fdiv (pv 2) (pe_op op_fdiv (pv 1) pe_int))))))

theorem ok_brought_back {f : Addr} {fd : FuncData} (F : Fun K "brought_back" "brought_back" s_brought_back f fd) (B : Bi mg) : FnOk P w K mg base CX0 1 f fd ["place", "size"] sp_brought_back :=
  Fun.okT F sc_brought_back len_brought_back (fun cdv A outer s H E hr => d_brought_back B hr) sem_brought_back

theorem df_brought_back {f : Addr} {fd : FuncData} (F : Fun K "brought_back" "brought_back" s_brought_back f fd) (hm : mg "brought_back" = some (.ref f)) (B : Bi mg) : Df P w K mg base 1 "brought_back" ["place", "size"] sp_brought_back :=
  Df.of F (ok_brought_back F B) hm (fun _ _ _ _ _ _ us hl => match us, hl with | [_, _], _ => rfl) (fun p hp => nomatch hp)

abbrev s_led_through : Stmt := topS 24

theorem sc_led_through : FnScope ["setting", "line", "size", "middle", "place", "column"] ["setting", "line"] (defScope s_led_through) := ⟨rfl, rfl, rfl, by decide +kernel, rfl, by decide +kernel, by decide +kernel⟩

theorem d_led_through (B : Bi mg) (c_LINES_OF : KD mg K "LINES_OF" [(1, 2), (3, 4), (5, 8)]) (D_parted : Df P w K mg base 1 "parted" ["place", "size"] sp_parted) (D_switched : Df P w K mg base 1 "switched" ["column", "place"] sp_switched) (D_brought_back : Df P w K mg base 1 "brought_back" ["place", "size"] sp_brought_back) {f : Addr} {cdv : Value} {A : Around} {outer : List Env} {s : Shared} {H : Hp} {E : XK} (hr : Room 1 (A.deeper (envOfC "led_through" (defScope s_led_through) s.heap.objs.size f cdv))) :
    PSs (cxOf CX0 P w K mg base ["setting", "line", "size", "middle", "place", "column"] "led_through" (defScope s_led_through) f cdv A outer s H E).nox (defBody s_led_through) (t_led_through K sp_parted sp_switched sp_brought_back) :=
  (pss_cons (ps_par3 (i := 2) (j := 3) (l := 4) (by rfl) sc_led_through.nd rfl rfl rfl (by decide) (by decide) (by decide) rfl rfl rfl (pa_cons (pe_kGet c_LINES_OF (by rfl) (pe_callB call_len_seq (by rfl) B.m_len (by decide +kernel) (pa_cons (pv 0) pa_nil)) (fun _ _ => rfl)) (pa_cons (pe_op op_fdiv (pe_callB call_len_seq (by rfl) B.m_len (by decide +kernel) (pa_cons (pv 0) pa_nil)) pe_int) (pa_cons (pv 1) pa_nil))) (by rfl))
    (pss_cons (ps_for PassesOwn.never (by rfl) (pi_tup (pe_slice sl_tupA (pv 0) po_none (po_some (pv 3)))) (pg_name (i := 5) sc_led_through.nd rfl (Or.inl rfl)) (pss_cons (ps_set (i := 4) sc_led_through.nd rfl (.inl rfl) (pe_df D_parted (hr.mono (by decide)) (by rfl) (pa_cons (pe_df D_switched (hr.mono (by decide)) (by rfl) (pa_cons (pv 5) (pa_cons (pv 4) pa_nil))) (pa_cons (pv 2) pa_nil))))
    (pss_one (ps_set (i := 2) sc_led_through.nd rfl (.inl rfl) (pe_op op_fdiv (pv 2) pe_int)))))
    (pss_cons (ps_set (i := 4) sc_led_through.nd rfl (.inl rfl) (pe_df D_switched (hr.mono (by decide)) (by rfl) (pa_cons (pe_ix ix_tup (pv 0) (pv 3) (fun _ _ => rfl)) (pa_cons (pv 4) pa_nil))))
    (pss_cons (ps_for PassesOwn.never (by rfl) (pi_tup (pe_slice sl_tupA (pv 0) (po_some (pe_op op_add (pv 3) pe_int)) po_none)) (pg_name (i := 5) sc_led_through.nd rfl (Or.inl rfl)) (pss_cons (ps_set (i := 2) sc_led_through.nd rfl (.inl rfl) (pe_op op_mul pe_int (pv 2)))
    (pss_one (ps_set (i := 4) sc_led_through.nd rfl (.inl rfl) (pe_df D_switched (hr.mono (by decide)) (by rfl) (pa_cons (pv 5) (pa_cons (pe_df D_brought_back (hr.mono (by decide)) (by rfl) (pa_cons (pv 4) (pa_cons (pv 2) pa_nil))) pa_nil)))))))
    (pss_one (ps_ret (pv 4)))))))

theorem ok_led_through {f : Addr} {fd : FuncData} (F : Fun K "led_through" "led_through" s_led_through f fd) (B : Bi mg) (c_LINES_OF : KD mg K "LINES_OF" [(1, 2), (3, 4), (5, 8)]) (D_parted : Df P w K mg base 1 "parted" ["place", "size"] sp_parted) (D_switched : Df P w K mg base 1 "switched" ["column", "place"] sp_switched) (D_brought_back : Df P w K mg base 1 "brought_back" ["place", "size"] sp_brought_back) : FnOk P w K mg base CX0 2 f fd ["setting", "line"] sp_led_through :=
  Fun.okT F sc_led_through len_led_through (fun cdv A outer s H E hr => d_led_through B c_LINES_OF D_parted D_switched D_brought_back hr) sem_led_through

theorem df_led_through {f : Addr} {fd : FuncData} (F : Fun K "led_through" "led_through" s_led_through f fd) (hm : mg "led_through" = some (.ref f)) (B : Bi mg) (c_LINES_OF : KD mg K "LINES_OF" [(1, 2), (3, 4), (5, 8)]) (D_parted : Df P w K mg base 1 "parted" ["place", "size"] sp_parted) (D_switched : Df P w K mg base 1 "switched" ["column", "place"] sp_switched) (D_brought_back : Df P w K mg base 1 "brought_back" ["place", "size"] sp_brought_back) : Df P w K mg base 2 "led_through" ["setting", "line"] sp_led_through :=
  Df.of F (ok_led_through F B c_LINES_OF D_parted D_switched D_brought_back) hm (fun _ _ _ _ _ _ us hl => match us, hl with | [_, _], _ => rfl) (fun p hp => nomatch hp)

abbrev s_led_by_setting : Stmt := topS 25

theorem sc_led_by_setting : FnScope ["setting", "line"] ["setting"] (defScope s_led_by_setting) := ⟨rfl, rfl, rfl, by decide +kernel, rfl, by decide +kernel, by decide +kernel⟩

theorem d_led_by_setting (B : Bi mg) (c_LINES_OF : KD mg K "LINES_OF" [(1, 2), (3, 4), (5, 8)]) (D_led_through : Df P w K mg base 2 "led_through" ["setting", "line"] sp_led_through) {f : Addr} {cdv : Value} {A : Around} {outer : List Env} {s : Shared} {H : Hp} {E : XK} (hr : Room 2 (A.deeper (envOfC "led_by_setting" (defScope s_led_by_setting) s.heap.objs.size f cdv))) :
    PSs (cxOf CX0 P w K mg base ["setting", "line"] "led_by_setting" (defScope s_led_by_setting) f cdv A outer s H E).nox (defBody s_led_by_setting) (t_led_by_setting K sp_led_through) :=
  (pss_one (ps_ret (pe_callTy call_tuple_of (by rfl) B.m_tuple (by decide +kernel) (pa_cons (pe_lc (own := [("line", 1)]) (g := (gName 1)) (tt := tYes) (te := (tCall sp_led_through [] E0 (tCons (tVar 0) (tCons (tVar 1) tNil)))) (by rfl) sc_led_by_setting.nd (pi_range1 (by rfl) B.m_range (pa_cons (pe_kGet c_LINES_OF (by rfl) (pe_callB call_len_seq (by rfl) B.m_len (by decide +kernel) (pa_cons (pv 0) pa_nil)) (fun _ _ => rfl)) pa_nil)) (blkOk_by (N := ["setting", "line"]) (sc := defScope s_led_by_setting) (by decide +kernel)) (fun _ _ _ _ _ => (pg_name (i := 1) sc_led_by_setting.nd rfl (Or.inl rfl))) (fun _ _ _ _ _ => pts_nil) (fun _ _ _ _ _ => (pe_df D_led_through (hr.mono (by decide)) (by rfl) (pa_cons (pv 0) (pa_cons (pv 1) pa_nil))))) pa_nil))))

theorem ok_led_by_setting {f : Addr} {fd : FuncData} (F : Fun K "led_by_setting" "led_by_setting" s_led_by_setting f fd) (B : Bi mg) (c_LINES_OF : KD mg K "LINES_OF" [(1, 2), (3, 4), (5, 8)]) (D_led_through : Df P w K mg base 2 "led_through" ["setting", "line"] sp_led_through) : FnOk P w K mg base CX0 3 f fd ["setting"] sp_led_by_setting :=
  Fun.okT F sc_led_by_setting len_led_by_setting (fun cdv A outer s H E hr => d_led_by_setting B c_LINES_OF D_led_through hr) sem_led_by_setting

theorem df_led_by_setting {f : Addr} {fd : FuncData} (F : Fun K "led_by_setting" "led_by_setting" s_led_by_setting f fd) (hm : mg "led_by_setting" = some (.ref f)) (B : Bi mg) (c_LINES_OF : KD mg K "LINES_OF" [(1, 2), (3, 4), (5, 8)]) (D_led_through : Df P w K mg base 2 "led_through" ["setting", "line"] sp_led_through) : Df P w K mg base 3 "led_by_setting" ["setting"] sp_led_by_setting :=
  Df.of F (ok_led_by_setting F B c_LINES_OF D_led_through) hm (fun _ _ _ _ _ _ us hl => match us, hl with | [_], _ => rfl) (fun p hp => by cases hp; intros; rfl)

abbrev s_partner_of : Stmt := topS 26

theorem sc_partner_of : FnScope ["place"] ["place"] (defScope s_partner_of) := ⟨rfl, rfl, rfl, by decide +kernel, rfl, by decide +kernel, by decide +kernel⟩

theorem d_partner_of (B : Bi mg) {f : Addr} {cdv : Value} {A : Around} {outer : List Env} {s : Shared} {H : Hp} {E : XK} (hr : Room 0 (A.deeper (envOfC "partner_of" (defScope s_partner_of) s.heap.objs.size f cdv))) :
    PSs (cxOf CX0 P w K mg base ["place"] "partner_of" (defScope s_partner_of) f cdv A outer s H E).nox (defBody s_partner_of) (t_partner_of K) :=
  (pss_one (ps_ret (pe_op op_sub (pe_op op_add (pv 0) pe_int) (pe_op op_mul pe_int (pe_op op_mod (pe_callTy call_int1 (by rfl) B.m_int (by decide +kernel) (pa_cons (pv 0) pa_nil)) pe_int)))))

theorem ok_partner_of {f : Addr} {fd : FuncData} (F : Fun K "partner_of" "partner_of" s_partner_of f fd) (B : Bi mg) : FnOk P w K mg base CX0 1 f fd ["place"] sp_partner_of :=
  Fun.okT F sc_partner_of len_partner_of (fun cdv A outer s H E hr => d_partner_of B hr) sem_partner_of

theorem df_partner_of {f : Addr} {fd : FuncData} (F : Fun K "partner_of" "partner_of" s_partner_of f fd) (hm : mg "partner_of" = some (.ref f)) (B : Bi mg) : Df P w K mg base 1 "partner_of" ["place"] sp_partner_of :=
  Df.of F (ok_partner_of F B) hm (fun _ _ _ _ _ _ us hl => match us, hl with | [_], _ => rfl) (fun p hp => by cases hp; intros; rfl)

abbrev s_sides_of : Stmt := topS 27

theorem sc_sides_of : FnScope ["order", "comes", "line", "there", "found", "start", "other"] ["order"] (defScope s_sides_of) := ⟨rfl, rfl, rfl, by decide +kernel, rfl, by decide +kernel, by decide +kernel⟩

theorem d_sides_of (B : Bi mg) (D_partner_of : Df P w K mg base 1 "partner_of" ["place"] sp_partner_of) {f : Addr} {cdv : Value} {A : Around} {outer : List Env} {s : Shared} {H : Hp} {E : XK} (hr : Room 1 (A.deeper (envOfC "sides_of" (defScope s_sides_of) s.heap.objs.size f cdv))) :
    PSs (cxOf CX0 P w K mg base ["order", "comes", "line", "there", "found", "start", "other"] "sides_of" (defScope s_sides_of) f cdv A outer s H E).nox (defBody s_sides_of) (t_sides_of K sp_partner_of) :=
  (pss_cons (ps_setDc (i := 1) (own := [("line", 2), ("there", 3)]) (g := (gTup K 2 (gCons (gName 2) (gCons (gName 3) gNil)))) (tt := tYes) (tk := (tVar 3)) (tv := (tVar 2)) (by rfl) sc_sides_of.nd rfl rfl (sw_trueD rfl rfl rfl (by decide +kernel)) (pi_enumT (by rfl) B.m_enumerate (pa_cons (pv 0) pa_nil)) (blkOk_by (N := ["order", "comes", "line", "there", "found", "start", "other"]) (sc := defScope s_sides_of) (by decide +kernel)) (fun _ _ _ _ _ => (pg_tup (by rfl) (pgs_cons (pg_name (i := 2) sc_sides_of.nd rfl (Or.inl rfl)) (pgs_cons (pg_name (i := 3) sc_sides_of.nd rfl (Or.inl rfl)) pgs_nil)))) (fun _ _ _ _ _ => pts_nil) (fun _ _ _ _ _ => (pv 3)) (fun _ _ _ _ _ => (pv 2)))
    (pss_cons (ps_set (i := 4) sc_sides_of.nd rfl (.inl rfl) pe_dnewK)
    (pss_cons (ps_for PassesOwn.never (by rfl) (pi_range1 (by rfl) B.m_range (pa_cons (pe_callB call_len_seq (by rfl) B.m_len (by decide +kernel) (pa_cons (pv 0) pa_nil)) pa_nil)) (pg_name (i := 5) sc_sides_of.nd rfl (Or.inl rfl)) (pss_cons (ps_set (i := 2) sc_sides_of.nd rfl (.inl rfl) (pv 5))
    (pss_one (ps_while PassesOwn.never (pt_cmp (pc_dnotin (hu_of hr) (pv 2) (pv 4)) rfl) (pss_cons (ps_set (i := 6) sc_sides_of.nd rfl (.inl rfl) (pe_df D_partner_of (hr.mono (by decide)) (by rfl) (pa_cons (pv 2) pa_nil)))
    (pss_cons (ps_asg (pe_tup (pa_cons pe_int (pa_cons pe_int pa_nil))) (pg_tup (by rfl) (pgs_cons (pg_sub (pv 4) (pv 2) (set_dict (hu_of hr))) (pgs_cons (pg_sub (pv 4) (pv 6) (set_dict (hu_of hr))) pgs_nil))))
    (pss_one (ps_set (i := 2) sc_sides_of.nd rfl (.inl rfl) (pe_dget (hu_of hr) (pv 1) (pe_df D_partner_of (hr.mono (by decide)) (by rfl) (pa_cons (pe_ix ix_tup (pv 0) (pv 6) (fun _ _ => rfl)) pa_nil)) (fun _ _ => rfl))))))))))
    (pss_one (ps_ret (pv 4))))))

theorem ok_sides_of {f : Addr} {fd : FuncData} (F : Fun K "sides_of" "sides_of" s_sides_of f fd) (B : Bi mg) (D_partner_of : Df P w K mg base 1 "partner_of" ["place"] sp_partner_of) : FnOk P w K mg base CX0 2 f fd ["order"] sp_sides_of :=
  Fun.okT F sc_sides_of len_sides_of (fun cdv A outer s H E hr => d_sides_of B D_partner_of hr) sem_sides_of

theorem df_sides_of {f : Addr} {fd : FuncData} (F : Fun K "sides_of" "sides_of" s_sides_of f fd) (hm : mg "sides_of" = some (.ref f)) (B : Bi mg) (D_partner_of : Df P w K mg base 1 "partner_of" ["place"] sp_partner_of) : Df P w K mg base 2 "sides_of" ["order"] sp_sides_of :=
  Df.of F (ok_sides_of F B D_partner_of) hm (fun _ _ _ _ _ _ us hl => match us, hl with | [_], _ => rfl) (fun p hp => by cases hp; intros; rfl)

abbrev s_first_column : Stmt := topS 28

theorem sc_first_column : FnScope ["sides", "switch"] ["sides"] (defScope s_first_column) := ⟨rfl, rfl, rfl, by decide +kernel, rfl, by decide +kernel, by decide +kernel⟩

theorem d_first_column (B : Bi mg) {f : Addr} {cdv : Value} {A : Around} {outer : List Env} {s : Shared} {H : Hp} {E : XK} (hr : Room 0 (A.deeper (envOfC "first_column" (defScope s_first_column) s.heap.objs.size f cdv))) :
    PSs (cxOf CX0 P w K mg base ["sides", "switch"] "first_column" (defScope s_first_column) f cdv A outer s H E).nox (defBody s_first_column) (t_first_column K) :=
  (pss_one (ps_ret (pe_lc (own := [("switch", 1)]) (g := (gName 1)) (tt := tYes) (te := (tDGet (tVar 0) (tOp oMul (tC (.int 2)) (tVar 1)))) (by rfl) sc_first_column.nd (pi_range1 (by rfl) B.m_range (pa_cons (pe_op op_fdiv (pe_callB call_lenD (by rfl) B.m_len (by decide +kernel) (pa_cons (pv 0) pa_nil)) pe_int) pa_nil)) (blkOk_by (N := ["sides", "switch"]) (sc := defScope s_first_column) (by decide +kernel)) (fun _ _ _ _ _ => (pg_name (i := 1) sc_first_column.nd rfl (Or.inl rfl))) (fun _ _ _ _ _ => pts_nil) (fun _ _ _ _ _ => (pe_dget (hu_of hr) (pv 0) (pe_op op_mul pe_int (pv 1)) (fun _ _ => rfl))))))

theorem ok_first_column {f : Addr} {fd : FuncData} (F : Fun K "first_column" "first_column" s_first_column f fd) (B : Bi mg) : FnOk P w K mg base CX0 1 f fd ["sides"] sp_first_column :=
  Fun.okT F sc_first_column len_first_column (fun cdv A outer s H E hr => d_first_column B hr) sem_first_column

theorem df_first_column {f : Addr} {fd : FuncData} (F : Fun K "first_column" "first_column" s_first_column f fd) (hm : mg "first_column" = some (.ref f)) (B : Bi mg) : Df P w K mg base 1 "first_column" ["sides"] sp_first_column :=
  Df.of F (ok_first_column F B) hm (fun _ _ _ _ _ _ us hl => match us, hl with | [_], _ => rfl) (fun p hp => by cases hp; intros; rfl)

abbrev s_last_column : Stmt := topS 29

theorem sc_last_column : FnScope ["order", "sides", "ways", "line", "there", "switch"] ["order", "sides"] (defScope s_last_column) := ⟨rfl, rfl, rfl, by decide +kernel, rfl, by decide +kernel, by decide +kernel⟩

theorem d_last_column (B : Bi mg) {f : Addr} {cdv : Value} {A : Around} {outer : List Env} {s : Shared} {H : Hp} {E : XK} (hr : Room 0 (A.deeper (envOfC "last_column" (defScope s_last_column) s.heap.objs.size f cdv))) :
    PSs (cxOf CX0 P w K mg base ["order", "sides", "ways", "line", "there", "switch"] "last_column" (defScope s_last_column) f cdv A outer s H E).nox (defBody s_last_column) (t_last_column K) :=
  (pss_cons (ps_set (i := 2) sc_last_column.nd rfl (.inr rfl) (pe_dc (own := [("line", 3), ("there", 4)]) (g := (gTup K 2 (gCons (gName 3) (gCons (gName 4) gNil)))) (tt := tYes) (tk := (tVar 4)) (tv := (tDGet (tVar 1) (tVar 3))) (by rfl) sc_last_column.nd (pi_enumT (by rfl) B.m_enumerate (pa_cons (pv 0) pa_nil)) (blkOk_by (N := ["order", "sides", "ways", "line", "there", "switch"]) (sc := defScope s_last_column) (by decide +kernel)) (fun _ _ _ _ _ => (pg_tup (by rfl) (pgs_cons (pg_name (i := 3) sc_last_column.nd rfl (Or.inl rfl)) (pgs_cons (pg_name (i := 4) sc_last_column.nd rfl (Or.inl rfl)) pgs_nil)))) (fun _ _ _ _ _ => pts_nil) (fun _ _ _ _ _ => (pv 4)) (fun _ _ _ _ _ => (pe_dget (hu_of hr) (pv 1) (pv 3) (fun _ _ => rfl)))))
    (pss_one (ps_ret (pe_lc (own := [("switch", 5)]) (g := (gName 5)) (tt := tYes) (te := (tDGet (tVar 2) (tOp oMul (tC (.int 2)) (tVar 5)))) (by rfl) sc_last_column.nd (pi_range1 (by rfl) B.m_range (pa_cons (pe_op op_fdiv (pe_callB call_len_seq (by rfl) B.m_len (by decide +kernel) (pa_cons (pv 0) pa_nil)) pe_int) pa_nil)) (blkOk_by (N := ["order", "sides", "ways", "line", "there", "switch"]) (sc := defScope s_last_column) (by decide +kernel)) (fun _ _ _ _ _ => (pg_name (i := 5) sc_last_column.nd rfl (Or.inl rfl))) (fun _ _ _ _ _ => pts_nil) (fun _ _ _ _ _ => (pe_dget (hu_of hr) (pv 2) (pe_op op_mul pe_int (pv 5)) (fun _ _ => rfl)))))))

theorem ok_last_column {f : Addr} {fd : FuncData} (F : Fun K "last_column" "last_column" s_last_column f fd) (B : Bi mg) : FnOk P w K mg base CX0 1 f fd ["order", "sides"] sp_last_column :=
  Fun.okT F sc_last_column len_last_column (fun cdv A outer s H E hr => d_last_column B hr) sem_last_column

theorem df_last_column {f : Addr} {fd : FuncData} (F : Fun K "last_column" "last_column" s_last_column f fd) (hm : mg "last_column" = some (.ref f)) (B : Bi mg) : Df P w K mg base 1 "last_column" ["order", "sides"] sp_last_column :=
  Df.of F (ok_last_column F B) hm (fun _ _ _ _ _ _ us hl => match us, hl with | [_, _], _ => rfl) (fun p hp => nomatch hp)

abbrev s_part_order : Stmt := topS 30

theorem sc_part_order : FnScope ["order", "sides", "side", "lines", "line"] ["order", "sides", "side"] (defScope s_part_order) := ⟨rfl, rfl, rfl, by decide +kernel, rfl, by decide +kernel, by decide +kernel⟩

theorem d_part_order (B : Bi mg) {f : Addr} {cdv : Value} {A : Around} {outer : List Env} {s : Shared} {H : Hp} {E : XK} (hr : Room 0 (A.deeper (envOfC "part_order" (defScope s_part_order) s.heap.objs.size f cdv))) :
    PSs (cxOf CX0 P w K mg base ["order", "sides", "side", "lines", "line"] "part_order" (defScope s_part_order) f cdv A outer s H E).nox (defBody s_part_order) (t_part_order K) :=
  (pss_cons (ps_setLc (i := 3) (own := [("line", 4)]) (g := (gName 4)) (tt := (tTest (tOp rEq (tDGet (tVar 1) (tVar 4)) (tVar 2)))) (te := (tVar 4)) (by rfl) sc_part_order.nd rfl rfl (sw_true rfl rfl rfl (by decide +kernel)) (pi_range1 (by rfl) B.m_range (pa_cons (pe_callB call_len_seq (by rfl) B.m_len (by decide +kernel) (pa_cons (pv 0) pa_nil)) pa_nil)) (blkOk_by (N := ["order", "sides", "side", "lines", "line"]) (sc := defScope s_part_order) (by decide +kernel)) (fun _ _ _ _ _ => (pg_name (i := 4) sc_part_order.nd rfl (Or.inl rfl))) (fun _ _ _ _ _ => (pts_one (pt_cmpR op_eq (pe_dget (hu_of hr) (pv 1) (pv 4) (fun _ _ => rfl)) (pv 2) (nomark _)))) (fun _ _ _ _ _ => (pv 4)))
    (pss_one (ps_ret (pe_callTy call_tuple_of (by rfl) B.m_tuple (by decide +kernel) (pa_cons (pe_lc (own := [("line", 4)]) (g := (gName 4)) (tt := tYes) (te := (tOp oDiv (tOp (rIxT K) (tVar 0) (tVar 4)) (tC (.int 2)))) (by rfl) sc_part_order.nd (pi_list (pv 3)) (blkOk_by (N := ["order", "sides", "side", "lines", "line"]) (sc := defScope s_part_order) (by decide +kernel)) (fun _ _ _ _ _ => (pg_name (i := 4) sc_part_order.nd rfl (Or.inl rfl))) (fun _ _ _ _ _ => pts_nil) (fun _ _ _ _ _ => (pe_op op_fdiv (pe_ix ix_tup (pv 0) (pv 4) (fun _ _ => rfl)) pe_int))) pa_nil)))))

theorem ok_part_order {f : Addr} {fd : FuncData} (F : Fun K "part_order" "part_order" s_part_order f fd) (B : Bi mg) : FnOk P w K mg base CX0 1 f fd ["order", "sides", "side"] sp_part_order :=
  Fun.okT F sc_part_order len_part_order (fun cdv A outer s H E hr => d_part_order B hr) sem_part_order

theorem df_part_order {f : Addr} {fd : FuncData} (F : Fun K "part_order" "part_order" s_part_order f fd) (hm : mg "part_order" = some (.ref f)) (B : Bi mg) : Df P w K mg base 1 "part_order" ["order", "sides", "side"] sp_part_order :=
  Df.of F (ok_part_order F B) hm (fun _ _ _ _ _ _ us hl => match us, hl with | [_, _, _], _ => rfl) (fun p hp => nomatch hp)

abbrev s_column_pair : Stmt := topS 31

theorem sc_column_pair : FnScope ["orders", "firsts", "lasts", "parts", "order", "sides"] ["orders"] (defScope s_column_pair) := ⟨rfl, rfl, rfl, by decide +kernel, rfl, by decide +kernel, by decide +kernel⟩

theorem d_column_pair (B : Bi mg) (D_sides_of : Df P w K mg base 2 "sides_of" ["order"] sp_sides_of) (D_first_column : Df P w K mg base 1 "first_column" ["sides"] sp_first_column) (D_last_column : Df P w K mg base 1 "last_column" ["order", "sides"] sp_last_column) (D_part_order : Df P w K mg base 1 "part_order" ["order", "sides", "side"] sp_part_order) {f : Addr} {cdv : Value} {A : Around} {outer : List Env} {s : Shared} {H : Hp} {E : XK} (hr : Room 2 (A.deeper (envOfC "column_pair" (defScope s_column_pair) s.heap.objs.size f cdv))) :
    PSs (cxOf CX0 P w K mg base ["orders", "firsts", "lasts", "parts", "order", "sides"] "column_pair" (defScope s_column_pair) f cdv A outer s H E).nox (defBody s_column_pair) (t_column_pair K sp_sides_of sp_first_column sp_last_column sp_part_order) :=
  (pss_cons (ps_par3 (i := 1) (j := 2) (l := 3) (by rfl) sc_column_pair.nd rfl rfl rfl (by decide) (by decide) (by decide) rfl rfl rfl (pa_cons (pe_lst pa_nil) (pa_cons (pe_lst pa_nil) (pa_cons (pe_lst pa_nil) pa_nil))) (by rfl))
    (pss_cons (ps_for PassesOwn.never (by rfl) (pi_list (pv 0)) (pg_name (i := 4) sc_column_pair.nd rfl (Or.inl rfl)) (pss_cons (ps_set (i := 5) sc_column_pair.nd rfl (.inl rfl) (pe_df D_sides_of (hr.mono (by decide)) (by rfl) (pa_cons (pv 4) pa_nil)))
    (pss_cons (ps_expr (pe_bm PySem.F.plainAttrs_list PySem.F.slot_list_extend PySem.F.type_list_extend mt_extend (pv 1) (pa_cons (pe_df D_first_column (hr.mono (by decide)) (by rfl) (pa_cons (pv 5) pa_nil)) pa_nil)))
    (pss_cons (ps_expr (pe_bm PySem.F.plainAttrs_list PySem.F.slot_list_extend PySem.F.type_list_extend mt_extend (pv 2) (pa_cons (pe_df D_last_column (hr.mono (by decide)) (by rfl) (pa_cons (pv 4) (pa_cons (pv 5) pa_nil))) pa_nil)))
    (pss_one (ps_expr (pe_bm PySem.F.plainAttrs_list PySem.F.slot_list_extend PySem.F.type_list_extend mt_extend (pv 3) (pa_cons (pe_lst (pa_cons (pe_df D_part_order (hr.mono (by decide)) (by rfl) (pa_cons (pv 4) (pa_cons (pv 5) (pa_cons pe_int pa_nil)))) (pa_cons (pe_df D_part_order (hr.mono (by decide)) (by rfl) (pa_cons (pv 4) (pa_cons (pv 5) (pa_cons pe_int pa_nil)))) pa_nil))) pa_nil))))))))
    (pss_one (ps_ret (pe_tup (pa_cons (pe_callTy call_tuple_of (by rfl) B.m_tuple (by decide +kernel) (pa_cons (pv 1) pa_nil)) (pa_cons (pe_callTy call_tuple_of (by rfl) B.m_tuple (by decide +kernel) (pa_cons (pv 2) pa_nil)) (pa_cons (pv 3) pa_nil))))))))

theorem ok_column_pair {f : Addr} {fd : FuncData} (F : Fun K "column_pair" "column_pair" s_column_pair f fd) (B : Bi mg) (D_sides_of : Df P w K mg base 2 "sides_of" ["order"] sp_sides_of) (D_first_column : Df P w K mg base 1 "first_column" ["sides"] sp_first_column) (D_last_column : Df P w K mg base 1 "last_column" ["order", "sides"] sp_last_column) (D_part_order : Df P w K mg base 1 "part_order" ["order", "sides", "side"] sp_part_order) : FnOk P w K mg base CX0 3 f fd ["orders"] sp_column_pair :=
  Fun.okT F sc_column_pair len_column_pair (fun cdv A outer s H E hr => d_column_pair B D_sides_of D_first_column D_last_column D_part_order hr) sem_column_pair

theorem df_column_pair {f : Addr} {fd : FuncData} (F : Fun K "column_pair" "column_pair" s_column_pair f fd) (hm : mg "column_pair" = some (.ref f)) (B : Bi mg) (D_sides_of : Df P w K mg base 2 "sides_of" ["order"] sp_sides_of) (D_first_column : Df P w K mg base 1 "first_column" ["sides"] sp_first_column) (D_last_column : Df P w K mg base 1 "last_column" ["order", "sides"] sp_last_column) (D_part_order : Df P w K mg base 1 "part_order" ["order", "sides", "side"] sp_part_order) : Df P w K mg base 3 "column_pair" ["orders"] sp_column_pair :=
  Df.of F (ok_column_pair F B D_sides_of D_first_column D_last_column D_part_order) hm (fun _ _ _ _ _ _ us hl => match us, hl with | [_], _ => rfl) (fun p hp => by cases hp; intros; rfl)

abbrev s_setting_for_by : Stmt := topS 32

theorem sc_setting_for_by : FnScope ["order", "orders", "ahead", "behind", "first", "last", "middle", "each"] ["order"] (defScope s_setting_for_by) := ⟨rfl, rfl, rfl, by decide +kernel, rfl, by decide +kernel, by decide +kernel⟩

theorem d_setting_for_by (B : Bi mg) (D_column_pair : Df P w K mg base 3 "column_pair" ["orders"] sp_column_pair) {f : Addr} {cdv : Value} {A : Around} {outer : List Env} {s : Shared} {H : Hp} {E : XK} (hr : Room 3 (A.deeper (envOfC "setting_for_by" (defScope s_setting_for_by) s.heap.objs.size f cdv))) :
    PSs (cxOf CX0 P w K mg base ["order", "orders", "ahead", "behind", "first", "last", "middle", "each"] "setting_for_by" (defScope s_setting_for_by) f cdv A outer s H E).nox (defBody s_setting_for_by) (t_setting_for_by K sp_column_pair) :=
  (pss_cons (ps_par3 (i := 1) (j := 2) (l := 3) (by rfl) sc_setting_for_by.nd rfl rfl rfl (by decide) (by decide) (by decide) rfl rfl rfl (pa_cons (pe_lst (pa_cons (pv 0) pa_nil)) (pa_cons (pe_lst pa_nil) (pa_cons (pe_lst pa_nil) pa_nil))) (by rfl))
    (pss_cons (ps_while PassesOwn.never (pt_cmpR op_gt (pe_callB call_len_seq (by rfl) B.m_len (by decide +kernel) (pa_cons (pe_ix ix_list (pv 1) pe_int (fun _ _ => rfl)) pa_nil)) pe_int (nomark _)) (pss_cons (ps_asg (pe_df D_column_pair (hr.mono (by decide)) (by rfl) (pa_cons (pv 1) pa_nil)) (pg_tup (by rfl) (pgs_cons (pg_name (i := 4) sc_setting_for_by.nd rfl (Or.inl rfl)) (pgs_cons (pg_name (i := 5) sc_setting_for_by.nd rfl (Or.inl rfl)) (pgs_cons (pg_name (i := 1) sc_setting_for_by.nd rfl (Or.inl rfl)) pgs_nil)))))
    (pss_cons (ps_expr (pe_bm PySem.F.plainAttrs_list PySem.F.slot_list_append PySem.F.type_list_append mt_append (pv 2) (pa_cons (pv 4) pa_nil)))
    (pss_one (ps_expr (pe_bm PySem.F.plainAttrs_list PySem.F.slot_list_append PySem.F.type_list_append mt_append (pv 3) (pa_cons (pv 5) pa_nil)))))))
    (pss_cons (ps_set (i := 6) sc_setting_for_by.nd rfl (.inl rfl) (pe_callTy call_tuple_of (by rfl) B.m_tuple (by decide +kernel) (pa_cons (pe_lc (own := [("each", 7)]) (g := (gName 7)) (tt := tYes) (te := (tOp (rIxT K) (tVar 7) (tC (.int 0)))) (by rfl) sc_setting_for_by.nd (pi_list (pv 1)) (blkOk_by (N := ["order", "orders", "ahead", "behind", "first", "last", "middle", "each"]) (sc := defScope s_setting_for_by) (by decide +kernel)) (fun _ _ _ _ _ => (pg_name (i := 7) sc_setting_for_by.nd rfl (Or.inl rfl))) (fun _ _ _ _ _ => pts_nil) (fun _ _ _ _ _ => (pe_ix ix_tup (pv 7) pe_int (fun _ _ => rfl)))) pa_nil)))
    (pss_one (ps_ret (pe_tup (pa_star (pv 2) (pa_cons (pv 6) (pa_star (pe_revL (pv 3)) pa_nil)))))))))

theorem ok_setting_for_by {f : Addr} {fd : FuncData} (F : Fun K "setting_for_by" "setting_for_by" s_setting_for_by f fd) (B : Bi mg) (D_column_pair : Df P w K mg base 3 "column_pair" ["orders"] sp_column_pair) : FnOk P w K mg base CX0 4 f fd ["order"] sp_setting_for_by :=
  Fun.okT F sc_setting_for_by len_setting_for_by (fun cdv A outer s H E hr => d_setting_for_by B D_column_pair hr) sem_setting_for_by

theorem df_setting_for_by {f : Addr} {fd : FuncData} (F : Fun K "setting_for_by" "setting_for_by" s_setting_for_by f fd) (hm : mg "setting_for_by" = some (.ref f)) (B : Bi mg) (D_column_pair : Df P w K mg base 3 "column_pair" ["orders"] sp_column_pair) : Df P w K mg base 4 "setting_for_by" ["order"] sp_setting_for_by :=
  Df.of F (ok_setting_for_by F B D_column_pair) hm (fun _ _ _ _ _ _ us hl => match us, hl with | [_], _ => rfl) (fun p hp => by cases hp; intros; rfl)

abbrev s_rows_of : Stmt := topS 33

theorem sc_rows_of : FnScope ["things", "many", "found", "_", "row", "thing"] ["things", "many"] (defScope s_rows_of) := ⟨rfl, rfl, rfl, by decide +kernel, rfl, by decide +kernel, by decide +kernel⟩

theorem d_rows_of (B : Bi mg) {f : Addr} {cdv : Value} {A : Around} {outer : List Env} {s : Shared} {H : Hp} {E : XK} (hr : Room 0 (A.deeper (envOfC "rows_of" (defScope s_rows_of) s.heap.objs.size f cdv))) :
    PSs (cxOf CX0 P w K mg base ["things", "many", "found", "_", "row", "thing"] "rows_of" (defScope s_rows_of) f cdv A outer s H E).nox (defBody s_rows_of) (t_rows_of K) :=
  (pss_cons (ps_set (i := 2) sc_rows_of.nd rfl (.inl rfl) (pe_lst (pa_cons (pe_tup pa_nil) pa_nil)))
    (pss_cons (ps_for PassesOwn.never (by rfl) (pi_range1 (by rfl) B.m_range (pa_cons (pv 1) pa_nil)) (pg_name (i := 3) sc_rows_of.nd rfl (Or.inl rfl)) (pss_one (ps_setLc2 (i := 2) (own := [("row", 4), ("thing", 5)]) (vs1 := [5]) (g := (gName 4)) (tt := tYes) (wi1 := (iTup K (tVar 0))) (g1 := (gName 5)) (tt1 := tYes) (te := (tTup (tStar K (tVar 4) (tCons (tVar 5) tNil)))) (by rfl) sc_rows_of.nd rfl rfl (sw_true rfl rfl rfl (by decide +kernel)) (pi_list (pv 2)) (blkOk_by (N := ["things", "many", "found", "_", "row", "thing"]) (sc := defScope s_rows_of) (by decide +kernel)) (by decide) (fun _ _ _ _ _ => (pg_name (i := 4) sc_rows_of.nd rfl (Or.inl rfl))) (fun _ _ _ _ _ => pts_nil) (fun _ _ _ _ _ => (pi_tup (pv 0))) (fun _ _ _ _ _ => (pg_name (i := 5) sc_rows_of.nd rfl (Or.inl rfl))) (fun _ _ _ _ _ => pts_nil) (fun _ _ _ _ _ => (pe_tup (pa_star (pv 4) (pa_cons (pv 5) pa_nil)))))))
    (pss_one (ps_ret (pv 2)))))

theorem ok_rows_of {f : Addr} {fd : FuncData} (F : Fun K "rows_of" "rows_of" s_rows_of f fd) (B : Bi mg) : FnOk P w K mg base CX0 1 f fd ["things", "many"] sp_rows_of :=
  Fun.okT F sc_rows_of len_rows_of (fun cdv A outer s H E hr => d_rows_of B hr) sem_rows_of

theorem df_rows_of {f : Addr} {fd : FuncData} (F : Fun K "rows_of" "rows_of" s_rows_of f fd) (hm : mg "rows_of" = some (.ref f)) (B : Bi mg) : Df P w K mg base 1 "rows_of" ["things", "many"] sp_rows_of :=
  Df.of F (ok_rows_of F B) hm (fun _ _ _ _ _ _ us hl => match us, hl with | [_, _], _ => rfl) (fun p hp => nomatch hp)

abbrev s_rows_of_L : Stmt := topS 33

theorem sc_rows_of_L : FnScope ["things", "many", "found", "_", "row", "thing"] ["things", "many"] (defScope s_rows_of_L) := ⟨rfl, rfl, rfl, by decide +kernel, rfl, by decide +kernel, by decide +kernel⟩

theorem d_rows_of_L (B : Bi mg) {f : Addr} {cdv : Value} {A : Around} {outer : List Env} {s : Shared} {H : Hp} {E : XK} (hr : Room 0 (A.deeper (envOfC "rows_of" (defScope s_rows_of_L) s.heap.objs.size f cdv))) :
    PSs (cxOf CX0 P w K mg base ["things", "many", "found", "_", "row", "thing"] "rows_of" (defScope s_rows_of_L) f cdv A outer s H E).nox (defBody s_rows_of_L) (t_rows_of_L K) :=
  (pss_cons (ps_set (i := 2) sc_rows_of_L.nd rfl (.inl rfl) (pe_lst (pa_cons (pe_tup pa_nil) pa_nil)))
    (pss_cons (ps_for PassesOwn.never (by rfl) (pi_range1 (by rfl) B.m_range (pa_cons (pv 1) pa_nil)) (pg_name (i := 3) sc_rows_of_L.nd rfl (Or.inl rfl)) (pss_one (ps_setLc2 (i := 2) (own := [("row", 4), ("thing", 5)]) (vs1 := [5]) (g := (gName 4)) (tt := tYes) (wi1 := (iList K (tVar 0))) (g1 := (gName 5)) (tt1 := tYes) (te := (tTup (tStar K (tVar 4) (tCons (tVar 5) tNil)))) (by rfl) sc_rows_of_L.nd rfl rfl (sw_true rfl rfl rfl (by decide +kernel)) (pi_list (pv 2)) (blkOk_by (N := ["things", "many", "found", "_", "row", "thing"]) (sc := defScope s_rows_of_L) (by decide +kernel)) (by decide) (fun _ _ _ _ _ => (pg_name (i := 4) sc_rows_of_L.nd rfl (Or.inl rfl))) (fun _ _ _ _ _ => pts_nil) (fun _ _ _ _ _ => (pi_list (pv 0))) (fun _ _ _ _ _ => (pg_name (i := 5) sc_rows_of_L.nd rfl (Or.inl rfl))) (fun _ _ _ _ _ => pts_nil) (fun _ _ _ _ _ => (pe_tup (pa_star (pv 4) (pa_cons (pv 5) pa_nil)))))))
    (pss_one (ps_ret (pv 2)))))

theorem ok_rows_of_L {f : Addr} {fd : FuncData} (F : Fun K "rows_of" "rows_of" s_rows_of_L f fd) (B : Bi mg) : FnOk P w K mg base CX0 1 f fd ["things", "many"] sp_rows_of_L :=
  Fun.okT F sc_rows_of_L len_rows_of_L (fun cdv A outer s H E hr => d_rows_of_L B hr) sem_rows_of_L

theorem df_rows_of_L {f : Addr} {fd : FuncData} (F : Fun K "rows_of" "rows_of" s_rows_of_L f fd) (hm : mg "rows_of" = some (.ref f)) (B : Bi mg) : Df P w K mg base 1 "rows_of" ["things", "many"] sp_rows_of_L :=
  Df.of F (ok_rows_of_L F B) hm (fun _ _ _ _ _ _ us hl => match us, hl with | [_, _], _ => rfl) (fun p hp => nomatch hp)

abbrev s_all_settings : Stmt := topS 34

theorem sc_all_settings : FnScope ["lines"] ["lines"] (defScope s_all_settings) := ⟨rfl, rfl, rfl, by decide +kernel, rfl, by decide +kernel, by decide +kernel⟩

theorem d_all_settings (B : Bi mg) (c_COLUMNS_OF : KD mg K "COLUMNS_OF" [(2, 1), (4, 3), (8, 5)]) (D_rows_of_L : Df P w K mg base 1 "rows_of" ["things", "many"] sp_rows_of_L) (D_rows_of : Df P w K mg base 1 "rows_of" ["things", "many"] sp_rows_of) {f : Addr} {cdv : Value} {A : Around} {outer : List Env} {s : Shared} {H : Hp} {E : XK} (hr : Room 1 (A.deeper (envOfC "all_settings" (defScope s_all_settings) s.heap.objs.size f cdv))) :
    PSs (cxOf CX0 P w K mg base ["lines"] "all_settings" (defScope s_all_settings) f cdv A outer s H E).nox (defBody s_all_settings) (t_all_settings K sp_rows_of_L sp_rows_of) :=
  (pss_one (ps_ret (pe_df D_rows_of_L (hr.mono (by decide)) (by rfl) (pa_cons (pe_df D_rows_of (hr.mono (by decide)) (by rfl) (pa_cons (pe_tup (pa_cons pe_int (pa_cons pe_int pa_nil))) (pa_cons (pe_op op_fdiv (pv 0) pe_int) pa_nil))) (pa_cons (pe_kGet c_COLUMNS_OF (by rfl) (pv 0) (fun _ _ => rfl)) pa_nil)))))

theorem ok_all_settings {f : Addr} {fd : FuncData} (F : Fun K "all_settings" "all_settings" s_all_settings f fd) (B : Bi mg) (c_COLUMNS_OF : KD mg K "COLUMNS_OF" [(2, 1), (4, 3), (8, 5)]) (D_rows_of_L : Df P w K mg base 1 "rows_of" ["things", "many"] sp_rows_of_L) (D_rows_of : Df P w K mg base 1 "rows_of" ["things", "many"] sp_rows_of) : FnOk P w K mg base CX0 2 f fd ["lines"] sp_all_settings :=
  Fun.okT F sc_all_settings len_all_settings (fun cdv A outer s H E hr => d_all_settings B c_COLUMNS_OF D_rows_of_L D_rows_of hr) sem_all_settings

theorem df_all_settings {f : Addr} {fd : FuncData} (F : Fun K "all_settings" "all_settings" s_all_settings f fd) (hm : mg "all_settings" = some (.ref f)) (B : Bi mg) (c_COLUMNS_OF : KD mg K "COLUMNS_OF" [(2, 1), (4, 3), (8, 5)]) (D_rows_of_L : Df P w K mg base 1 "rows_of" ["things", "many"] sp_rows_of_L) (D_rows_of : Df P w K mg base 1 "rows_of" ["things", "many"] sp_rows_of) : Df P w K mg base 2 "all_settings" ["lines"] sp_all_settings :=
  Df.of F (ok_all_settings F B c_COLUMNS_OF D_rows_of_L D_rows_of) hm (fun _ _ _ _ _ _ us hl => match us, hl with | [_], _ => rfl) (fun p hp => by cases hp; intros; rfl)

abbrev s_count_settings_by : Stmt := topS 35

theorem sc_count_settings_by : FnScope ["order", "setting"] ["order"] (defScope s_count_settings_by) := ⟨rfl, rfl, rfl, by decide +kernel, rfl, by decide +kernel, by decide +kernel⟩

theorem d_count_settings_by (B : Bi mg) (D_all_settings : Df P w K mg base 2 "all_settings" ["lines"] sp_all_settings) (D_led_by_setting : Df P w K mg base 3 "led_by_setting" ["setting"] sp_led_by_setting) {f : Addr} {cdv : Value} {A : Around} {outer : List Env} {s : Shared} {H : Hp} {E : XK} (hr : Room 3 (A.deeper (envOfC "count_settings_by" (defScope s_count_settings_by) s.heap.objs.size f cdv))) :
    PSs (cxOf CX0 P w K mg base ["order", "setting"] "count_settings_by" (defScope s_count_settings_by) f cdv A outer s H E).nox (defBody s_count_settings_by) (t_count_settings_by K sp_all_settings sp_led_by_setting) :=
  (pss_one (ps_ret (pe_callB call_len_seq (by rfl) B.m_len (by decide +kernel) (pa_cons (pe_lc (own := [("setting", 1)]) (g := (gName 1)) (tt := (tTest (tOp (rEqD K) (tCall sp_led_by_setting [] E0 (tCons (tVar 1) tNil)) (tVar 0)))) (te := (tVar 1)) (by rfl) sc_count_settings_by.nd (pi_list (pe_df D_all_settings (hr.mono (by decide)) (by rfl) (pa_cons (pe_callB call_len_seq (by rfl) B.m_len (by decide +kernel) (pa_cons (pv 0) pa_nil)) pa_nil))) (blkOk_by (N := ["order", "setting"]) (sc := defScope s_count_settings_by) (by decide +kernel)) (fun _ _ _ _ _ => (pg_name (i := 1) sc_count_settings_by.nd rfl (Or.inl rfl))) (fun _ _ _ _ _ => (pts_one (pt_cmpR (op_eqD hr.units) (pe_df D_led_by_setting (hr.mono (by decide)) (by rfl) (pa_cons (pv 1) pa_nil)) (pv 0) (nomark _)))) (fun _ _ _ _ _ => (pv 1))) pa_nil))))

theorem ok_count_settings_by {f : Addr} {fd : FuncData} (F : Fun K "count_settings_by" "count_settings_by" s_count_settings_by f fd) (B : Bi mg) (D_all_settings : Df P w K mg base 2 "all_settings" ["lines"] sp_all_settings) (D_led_by_setting : Df P w K mg base 3 "led_by_setting" ["setting"] sp_led_by_setting) : FnOk P w K mg base CX0 4 f fd ["order"] sp_count_settings_by :=
  Fun.okT F sc_count_settings_by len_count_settings_by (fun cdv A outer s H E hr => d_count_settings_by B D_all_settings D_led_by_setting hr) sem_count_settings_by

theorem df_count_settings_by {f : Addr} {fd : FuncData} (F : Fun K "count_settings_by" "count_settings_by" s_count_settings_by f fd) (hm : mg "count_settings_by" = some (.ref f)) (B : Bi mg) (D_all_settings : Df P w K mg base 2 "all_settings" ["lines"] sp_all_settings) (D_led_by_setting : Df P w K mg base 3 "led_by_setting" ["setting"] sp_led_by_setting) : Df P w K mg base 4 "count_settings_by" ["order"] sp_count_settings_by :=
  Df.of F (ok_count_settings_by F B D_all_settings D_led_by_setting) hm (fun _ _ _ _ _ _ us hl => match us, hl with | [_], _ => rfl) (fun p hp => by cases hp; intros; rfl)

abbrev s_check_lines : Stmt := topS 38

theorem sc_check_lines : FnScope ["value", "index"] ["value"] (defScope s_check_lines) := ⟨rfl, rfl, rfl, by decide +kernel, rfl, by decide +kernel, by decide +kernel⟩

theorem d_check_lines (B : Bi mg) (D_wrong_in_lines : Df P w K mg base 3 "wrong_in_lines" ["value"] sp_wrong_in_lines) {f : Addr} {cdv : Value} {A : Around} {outer : List Env} {s : Shared} {H : Hp} {E : XK} (hr : Room 3 (A.deeper (envOfC "check_lines" (defScope s_check_lines) s.heap.objs.size f cdv))) :
    PSs (cxOf CX0 P w K mg base ["value", "index"] "check_lines" (defScope s_check_lines) f cdv A outer s H E).nox (defBody s_check_lines) (t_check_lines K sp_wrong_in_lines) :=
  (pss_one (ps_for PassesOwn.never (by rfl) (pi_list (pe_df D_wrong_in_lines (hr.mono (by decide)) (by rfl) (pa_cons (pv 0) pa_nil))) (pg_name (i := 1) sc_check_lines.nd rfl (Or.inl rfl)) (pss_one ps_never)))

theorem ok_check_lines {f : Addr} {fd : FuncData} (F : Fun K "check_lines" "check_lines" s_check_lines f fd) (B : Bi mg) (D_wrong_in_lines : Df P w K mg base 3 "wrong_in_lines" ["value"] sp_wrong_in_lines) : FnOk P w K mg base CX0 4 f fd ["value"] sp_check_lines :=
  Fun.okT F sc_check_lines len_check_lines (fun cdv A outer s H E hr => d_check_lines B D_wrong_in_lines hr) sem_check_lines

theorem df_check_lines {f : Addr} {fd : FuncData} (F : Fun K "check_lines" "check_lines" s_check_lines f fd) (hm : mg "check_lines" = some (.ref f)) (B : Bi mg) (D_wrong_in_lines : Df P w K mg base 3 "wrong_in_lines" ["value"] sp_wrong_in_lines) : Df P w K mg base 4 "check_lines" ["value"] sp_check_lines :=
  Df.of F (ok_check_lines F B D_wrong_in_lines) hm (fun _ _ _ _ _ _ us hl => match us, hl with | [_], _ => rfl) (fun p hp => by cases hp; intros; rfl)

abbrev s_led_by : Stmt := topS 39

theorem sc_led_by : FnScope ["setting"] ["setting"] (defScope s_led_by) := ⟨rfl, rfl, rfl, by decide +kernel, rfl, by decide +kernel, by decide +kernel⟩

theorem d_led_by (B : Bi mg) (D_is_setting_by : Df P w K mg base 4 "is_setting_by" ["value"] sp_is_setting_by) (D_led_by_setting : Df P w K mg base 3 "led_by_setting" ["setting"] sp_led_by_setting) {f : Addr} {cdv : Value} {A : Around} {outer : List Env} {s : Shared} {H : Hp} {E : XK} (hr : Room 4 (A.deeper (envOfC "led_by" (defScope s_led_by) s.heap.objs.size f cdv))) :
    PSs (cxOf CX0 P w K mg base ["setting"] "led_by" (defScope s_led_by) f cdv A outer s H E).nox (defBody s_led_by) (t_led_by K sp_is_setting_by sp_led_by_setting) :=
  (pss_cons (ps_if (pt_not (pt_val (pe_df D_is_setting_by (hr.mono (by decide)) (by rfl) (pa_cons (pv 0) pa_nil)))) (pss_one ps_never) pss_nil)
    (pss_one (ps_ret (pe_df D_led_by_setting (hr.mono (by decide)) (by rfl) (pa_cons (pv 0) pa_nil)))))

theorem ok_led_by {f : Addr} {fd : FuncData} (F : Fun K "led_by" "led_by" s_led_by f fd) (B : Bi mg) (D_is_setting_by : Df P w K mg base 4 "is_setting_by" ["value"] sp_is_setting_by) (D_led_by_setting : Df P w K mg base 3 "led_by_setting" ["setting"] sp_led_by_setting) : FnOk P w K mg base CX0 5 f fd ["setting"] sp_led_by :=
  Fun.okT F sc_led_by len_led_by (fun cdv A outer s H E hr => d_led_by B D_is_setting_by D_led_by_setting hr) sem_led_by

theorem df_led_by {f : Addr} {fd : FuncData} (F : Fun K "led_by" "led_by" s_led_by f fd) (hm : mg "led_by" = some (.ref f)) (B : Bi mg) (D_is_setting_by : Df P w K mg base 4 "is_setting_by" ["value"] sp_is_setting_by) (D_led_by_setting : Df P w K mg base 3 "led_by_setting" ["setting"] sp_led_by_setting) : Df P w K mg base 5 "led_by" ["setting"] sp_led_by :=
  Df.of F (ok_led_by F B D_is_setting_by D_led_by_setting) hm (fun _ _ _ _ _ _ us hl => match us, hl with | [_], _ => rfl) (fun p hp => by cases hp; intros; rfl)

abbrev s_setting_for : Stmt := topS 40

theorem sc_setting_for : FnScope ["order"] ["order"] (defScope s_setting_for) := ⟨rfl, rfl, rfl, by decide +kernel, rfl, by decide +kernel, by decide +kernel⟩

theorem d_setting_for (B : Bi mg) (D_check_lines : Df P w K mg base 4 "check_lines" ["value"] sp_check_lines) (D_setting_for_by : Df P w K mg base 4 "setting_for_by" ["order"] sp_setting_for_by) {f : Addr} {cdv : Value} {A : Around} {outer : List Env} {s : Shared} {H : Hp} {E : XK} (hr : Room 4 (A.deeper (envOfC "setting_for" (defScope s_setting_for) s.heap.objs.size f cdv))) :
    PSs (cxOf CX0 P w K mg base ["order"] "setting_for" (defScope s_setting_for) f cdv A outer s H E).nox (defBody s_setting_for) (t_setting_for K sp_check_lines sp_setting_for_by) :=
  (pss_cons (ps_expr (pe_df D_check_lines (hr.mono (by decide)) (by rfl) (pa_cons (pv 0) pa_nil)))
    (pss_one (ps_ret (pe_df D_setting_for_by (hr.mono (by decide)) (by rfl) (pa_cons (pv 0) pa_nil)))))

theorem ok_setting_for {f : Addr} {fd : FuncData} (F : Fun K "setting_for" "setting_for" s_setting_for f fd) (B : Bi mg) (D_check_lines : Df P w K mg base 4 "check_lines" ["value"] sp_check_lines) (D_setting_for_by : Df P w K mg base 4 "setting_for_by" ["order"] sp_setting_for_by) : FnOk P w K mg base CX0 5 f fd ["order"] sp_setting_for :=
  Fun.okT F sc_setting_for len_setting_for (fun cdv A outer s H E hr => d_setting_for B D_check_lines D_setting_for_by hr) sem_setting_for

theorem df_setting_for {f : Addr} {fd : FuncData} (F : Fun K "setting_for" "setting_for" s_setting_for f fd) (hm : mg "setting_for" = some (.ref f)) (B : Bi mg) (D_check_lines : Df P w K mg base 4 "check_lines" ["value"] sp_check_lines) (D_setting_for_by : Df P w K mg base 4 "setting_for_by" ["order"] sp_setting_for_by) : Df P w K mg base 5 "setting_for" ["order"] sp_setting_for :=
  Df.of F (ok_setting_for F B D_check_lines D_setting_for_by) hm (fun _ _ _ _ _ _ us hl => match us, hl with | [_], _ => rfl) (fun p hp => by cases hp; intros; rfl)

abbrev s_count_settings : Stmt := topS 41

theorem sc_count_settings : FnScope ["order"] ["order"] (defScope s_count_settings) := ⟨rfl, rfl, rfl, by decide +kernel, rfl, by decide +kernel, by decide +kernel⟩

theorem d_count_settings (B : Bi mg) (c_MOST_COUNTED_nets : ∃ t, mg "MOST_COUNTED_nets" = some (.int 4 t)) (D_check_lines : Df P w K mg base 4 "check_lines" ["value"] sp_check_lines) (D_count_settings_by : Df P w K mg base 4 "count_settings_by" ["order"] sp_count_settings_by) {f : Addr} {cdv : Value} {A : Around} {outer : List Env} {s : Shared} {H : Hp} {E : XK} (hr : Room 4 (A.deeper (envOfC "count_settings" (defScope s_count_settings) s.heap.objs.size f cdv))) :
    PSs (cxOf CX0 P w K mg base ["order"] "count_settings" (defScope s_count_settings) f cdv A outer s H E).nox (defBody s_count_settings) (t_count_settings K sp_check_lines sp_count_settings_by) :=
  (pss_cons (ps_expr (pe_df D_check_lines (hr.mono (by decide)) (by rfl) (pa_cons (pv 0) pa_nil)))
    (pss_cons (ps_if (pt_cmpR op_gt (pe_callB call_len_seq (by rfl) B.m_len (by decide +kernel) (pa_cons (pv 0) pa_nil)) (pe_glob (by rfl) c_MOST_COUNTED_nets.choose_spec ⟨_, rfl⟩) (nomark _)) (pss_one ps_never) pss_nil)
    (pss_one (ps_ret (pe_df D_count_settings_by (hr.mono (by decide)) (by rfl) (pa_cons (pv 0) pa_nil))))))

theorem ok_count_settings {f : Addr} {fd : FuncData} (F : Fun K "count_settings" "count_settings" s_count_settings f fd) (B : Bi mg) (c_MOST_COUNTED_nets : ∃ t, mg "MOST_COUNTED_nets" = some (.int 4 t)) (D_check_lines : Df P w K mg base 4 "check_lines" ["value"] sp_check_lines) (D_count_settings_by : Df P w K mg base 4 "count_settings_by" ["order"] sp_count_settings_by) : FnOk P w K mg base CX0 5 f fd ["order"] sp_count_settings :=
  Fun.okT F sc_count_settings len_count_settings (fun cdv A outer s H E hr => d_count_settings B c_MOST_COUNTED_nets D_check_lines D_count_settings_by hr) sem_count_settings

theorem df_count_settings {f : Addr} {fd : FuncData} (F : Fun K "count_settings" "count_settings" s_count_settings f fd) (hm : mg "count_settings" = some (.ref f)) (B : Bi mg) (c_MOST_COUNTED_nets : ∃ t, mg "MOST_COUNTED_nets" = some (.int 4 t)) (D_check_lines : Df P w K mg base 4 "check_lines" ["value"] sp_check_lines) (D_count_settings_by : Df P w K mg base 4 "count_settings_by" ["order"] sp_count_settings_by) : Df P w K mg base 5 "count_settings" ["order"] sp_count_settings :=
  Df.of F (ok_count_settings F B c_MOST_COUNTED_nets D_check_lines D_count_settings_by) hm (fun _ _ _ _ _ _ us hl => match us, hl with | [_], _ => rfl) (fun p hp => by cases hp; intros; rfl)

abbrev s_lone_pairs : Stmt := topS 43

theorem sc_lone_pairs : FnScope ["plan", "one", "two", "both", "pair"] ["plan", "one", "two"] (defScope s_lone_pairs) := ⟨rfl, rfl, rfl, by decide +kernel, rfl, by decide +kernel, by decide +kernel⟩

theorem d_lone_pairs (B : Bi mg) {f : Addr} {cdv : Value} {A : Around} {outer : List Env} {s : Shared} {H : Hp} {E : XK} (hr : Room 0 (A.deeper (envOfC "lone_pairs" (defScope s_lone_pairs) s.heap.objs.size f cdv))) :
    PSs (cxOf CX0 P w K mg base ["plan", "one", "two", "both", "pair"] "lone_pairs" (defScope s_lone_pairs) f cdv A outer s H E).nox (defBody s_lone_pairs) (t_lone_pairs K) :=
  (pss_cons (ps_set (i := 3) sc_lone_pairs.nd rfl (.inr rfl) (pe_lc (own := [("pair", 4)]) (g := (gName 4)) (tt := (tTest (tOp (rInT K false) (tVar 4) (tOp (rIxT K) (tVar 0) (tVar 2))))) (te := (tVar 4)) (by rfl) sc_lone_pairs.nd (pi_tup (pe_ix ix_tup (pv 0) (pv 1) (fun _ _ => rfl))) (blkOk_by (N := ["plan", "one", "two", "both", "pair"]) (sc := defScope s_lone_pairs) (by decide +kernel)) (fun _ _ _ _ _ => (pg_name (i := 4) sc_lone_pairs.nd rfl (Or.inl rfl))) (fun _ _ _ _ _ => (pts_one (pt_cmpR (op_inT (u65 hr)) (pv 4) (pe_ix ix_tup (pv 0) (pv 2) (fun _ _ => rfl)) (by rfl)))) (fun _ _ _ _ _ => (pv 4))))
    (pss_one (ps_ret (pe_callB (cr_sortD hr.units) (by rfl) B.m_sorted (by decide +kernel) (pa_cons (pe_lc (own := [("pair", 4)]) (g := (gName 4)) (tt := (tTest (tOp (rNotInD K) (tVar 4) (tVar 3)))) (te := (tVar 4)) (by rfl) sc_lone_pairs.nd (pi_tup (pe_op op_catA (pe_ix ix_tup (pv 0) (pv 1) (fun _ _ => rfl)) (pe_ix ix_tup (pv 0) (pv 2) (fun _ _ => rfl)))) (blkOk_by (N := ["plan", "one", "two", "both", "pair"]) (sc := defScope s_lone_pairs) (by decide +kernel)) (fun _ _ _ _ _ => (pg_name (i := 4) sc_lone_pairs.nd rfl (Or.inl rfl))) (fun _ _ _ _ _ => (pts_one (pt_cmpR (op_notInD (u65 hr)) (pv 4) (pv 3) (by rfl)))) (fun _ _ _ _ _ => (pv 4))) pa_nil)))))

theorem ok_lone_pairs {f : Addr} {fd : FuncData} (F : Fun K "lone_pairs" "lone_pairs" s_lone_pairs f fd) (B : Bi mg) : FnOk P w K mg base CX0 1 f fd ["plan", "one", "two"] sp_lone_pairs :=
  Fun.okT F sc_lone_pairs len_lone_pairs (fun cdv A outer s H E hr => d_lone_pairs B hr) sem_lone_pairs

theorem df_lone_pairs {f : Addr} {fd : FuncData} (F : Fun K "lone_pairs" "lone_pairs" s_lone_pairs f fd) (hm : mg "lone_pairs" = some (.ref f)) (B : Bi mg) : Df P w K mg base 1 "lone_pairs" ["plan", "one", "two"] sp_lone_pairs :=
  Df.of F (ok_lone_pairs F B) hm (fun _ _ _ _ _ _ us hl => match us, hl with | [_, _, _], _ => rfl) (fun p hp => nomatch hp)

abbrev s_share_person : Stmt := topS 44

theorem sc_share_person : FnScope ["pair", "other"] ["pair", "other"] (defScope s_share_person) := ⟨rfl, rfl, rfl, by decide +kernel, rfl, by decide +kernel, by decide +kernel⟩

theorem d_share_person (B : Bi mg) {f : Addr} {cdv : Value} {A : Around} {outer : List Env} {s : Shared} {H : Hp} {E : XK} (hr : Room 0 (A.deeper (envOfC "share_person" (defScope s_share_person) s.heap.objs.size f cdv))) :
    PSs (cxOf CX0 P w K mg base ["pair", "other"] "share_person" (defScope s_share_person) f cdv A outer s H E).nox (defBody s_share_person) (t_share_person K) :=
  (pss_one (ps_ret (pe_or (pe_cmpR op_eq (pe_ix ix_tup (pv 0) pe_int (fun _ _ => rfl)) (pe_ix ix_tup (pv 1) pe_int (fun _ _ => rfl)) (nomark _)) (pe_one (pe_cmpR op_eq (pe_ix ix_tup (pv 0) pe_int (fun _ _ => rfl)) (pe_ix ix_tup (pv 1) pe_int (fun _ _ => rfl)) (nomark _))))))

theorem ok_share_person {f : Addr} {fd : FuncData} (F : Fun K "share_person" "share_person" s_share_person f fd) (B : Bi mg) : FnOk P w K mg base CX0 1 f fd ["pair", "other"] sp_share_person :=
  Fun.okT F sc_share_person len_share_person (fun cdv A outer s H E hr => d_share_person B hr) sem_share_person

theorem df_share_person {f : Addr} {fd : FuncData} (F : Fun K "share_person" "share_person" s_share_person f fd) (hm : mg "share_person" = some (.ref f)) (B : Bi mg) : Df P w K mg base 1 "share_person" ["pair", "other"] sp_share_person :=
  Df.of F (ok_share_person F B) hm (fun _ _ _ _ _ _ us hl => match us, hl with | [_, _], _ => rfl) (fun p hp => nomatch hp)

abbrev s_chain_from : Stmt := topS 45

theorem sc_chain_from : FnScope ["pairs", "start", "found", "waiting", "here", "pair"] ["pairs", "start"] (defScope s_chain_from) := ⟨rfl, rfl, rfl, by decide +kernel, rfl, by decide +kernel, by decide +kernel⟩

theorem d_chain_from (B : Bi mg) (D_share_person : Df P w K mg base 1 "share_person" ["pair", "other"] sp_share_person) {f : Addr} {cdv : Value} {A : Around} {outer : List Env} {s : Shared} {H : Hp} {E : XK} (hr : Room 1 (A.deeper (envOfC "chain_from" (defScope s_chain_from) s.heap.objs.size f cdv))) :
    PSs (cxOf CX0 P w K mg base ["pairs", "start", "found", "waiting", "here", "pair"] "chain_from" (defScope s_chain_from) f cdv A outer s H E).nox (defBody s_chain_from) (t_chain_from K sp_share_person) :=
  (pss_cons (ps_par (i := 2) (j := 3) (by rfl) sc_chain_from.nd rfl rfl (by decide) rfl rfl (pa_cons (pe_lst (pa_cons (pv 1) pa_nil)) (pa_cons (pe_lst (pa_cons (pv 1) pa_nil)) pa_nil)) (by rfl))
    (pss_cons (ps_while PassesOwn.never (pt_cmpR (op_neD hr.units) (pv 3) (pe_lst pa_nil) (nomark _)) (pss_cons (ps_set (i := 4) sc_chain_from.nd rfl (.inl rfl) (pe_bm0 PySem.F.plainAttrs_list PySem.F.slot_list_pop PySem.F.type_list_pop mt_pop (pv 3)))
    (pss_one (ps_for PassesOwn.never (by rfl) (pi_list (pv 0)) (pg_name (i := 5) sc_chain_from.nd rfl (Or.inl rfl)) (pss_one (ps_if (PW.pt (pw_and (pt_cmpR (op_notInD (u65 hr)) (pv 5) (pv 2) (by rfl)) (pw_and1 (pt_val (pe_df D_share_person (hr.mono (by decide)) (by rfl) (pa_cons (pv 4) (pa_cons (pv 5) pa_nil))))))) (pss_cons (ps_expr (pe_bm PySem.F.plainAttrs_list PySem.F.slot_list_append PySem.F.type_list_append mt_append (pv 2) (pa_cons (pv 5) pa_nil)))
    (pss_one (ps_expr (pe_bm PySem.F.plainAttrs_list PySem.F.slot_list_append PySem.F.type_list_append mt_append (pv 3) (pa_cons (pv 5) pa_nil))))) pss_nil))))))
    (pss_one (ps_ret (pe_callTy call_tuple_of (by rfl) B.m_tuple (by decide +kernel) (pa_cons (pe_callB (cr_sortD hr.units) (by rfl) B.m_sorted (by decide +kernel) (pa_cons (pv 2) pa_nil)) pa_nil))))))

theorem ok_chain_from {f : Addr} {fd : FuncData} (F : Fun K "chain_from" "chain_from" s_chain_from f fd) (B : Bi mg) (D_share_person : Df P w K mg base 1 "share_person" ["pair", "other"] sp_share_person) : FnOk P w K mg base CX0 2 f fd ["pairs", "start"] sp_chain_from :=
  Fun.okT F sc_chain_from len_chain_from (fun cdv A outer s H E hr => d_chain_from B D_share_person hr) sem_chain_from

theorem df_chain_from {f : Addr} {fd : FuncData} (F : Fun K "chain_from" "chain_from" s_chain_from f fd) (hm : mg "chain_from" = some (.ref f)) (B : Bi mg) (D_share_person : Df P w K mg base 1 "share_person" ["pair", "other"] sp_share_person) : Df P w K mg base 2 "chain_from" ["pairs", "start"] sp_chain_from :=
  Df.of F (ok_chain_from F B D_share_person) hm (fun _ _ _ _ _ _ us hl => match us, hl with | [_, _], _ => rfl) (fun p hp => nomatch hp)

abbrev s_chains_by : Stmt := topS 46

theorem sc_chains_by : FnScope ["plan", "one", "two", "left", "found", "chain", "pair"] ["plan", "one", "two"] (defScope s_chains_by) := ⟨rfl, rfl, rfl, by decide +kernel, rfl, by decide +kernel, by decide +kernel⟩

theorem d_chains_by (B : Bi mg) (D_lone_pairs : Df P w K mg base 1 "lone_pairs" ["plan", "one", "two"] sp_lone_pairs) (D_chain_from : Df P w K mg base 2 "chain_from" ["pairs", "start"] sp_chain_from) {f : Addr} {cdv : Value} {A : Around} {outer : List Env} {s : Shared} {H : Hp} {E : XK} (hr : Room 2 (A.deeper (envOfC "chains_by" (defScope s_chains_by) s.heap.objs.size f cdv))) :
    PSs (cxOf CX0 P w K mg base ["plan", "one", "two", "left", "found", "chain", "pair"] "chains_by" (defScope s_chains_by) f cdv A outer s H E).nox (defBody s_chains_by) (t_chains_by K sp_lone_pairs sp_chain_from) :=
  (pss_cons (ps_par (i := 3) (j := 4) (by rfl) sc_chains_by.nd rfl rfl (by decide) rfl rfl (pa_cons (pe_df D_lone_pairs (hr.mono (by decide)) (by rfl) (pa_cons (pv 0) (pa_cons (pv 1) (pa_cons (pv 2) pa_nil)))) (pa_cons (pe_lst pa_nil) pa_nil)) (by rfl))
    (pss_cons (ps_while PassesOwn.never (pt_cmpR (op_neD hr.units) (pv 3) (pe_lst pa_nil) (nomark _)) (pss_cons (ps_set (i := 5) sc_chains_by.nd rfl (.inr rfl) (pe_df D_chain_from (hr.mono (by decide)) (by rfl) (pa_cons (pv 3) (pa_cons (pe_ix ix_list (pv 3) pe_int (fun _ _ => rfl)) pa_nil))))
    (pss_cons (ps_expr (pe_bm PySem.F.plainAttrs_list PySem.F.slot_list_append PySem.F.type_list_append mt_append (pv 4) (pa_cons (pv 5) pa_nil)))
    (pss_one (ps_setLc (i := 3) (own := [("pair", 6)]) (g := (gName 6)) (tt := (tTest (tOp (rInT K true) (tVar 6) (tVar 5)))) (te := (tVar 6)) (by rfl) sc_chains_by.nd rfl rfl (sw_true rfl rfl rfl (by decide +kernel)) (pi_list (pv 3)) (blkOk_by (N := ["plan", "one", "two", "left", "found", "chain", "pair"]) (sc := defScope s_chains_by) (by decide +kernel)) (fun _ _ _ _ _ => (pg_name (i := 6) sc_chains_by.nd rfl (Or.inl rfl))) (fun _ _ _ _ _ => (pts_one (pt_cmpR (op_notInT (u65 hr)) (pv 6) (pv 5) (by rfl)))) (fun _ _ _ _ _ => (pv 6)))))))
    (pss_one (ps_ret (pe_callTy call_tuple_of (by rfl) B.m_tuple (by decide +kernel) (pa_cons (pv 4) pa_nil))))))

theorem ok_chains_by {f : Addr} {fd : FuncData} (F : Fun K "chains_by" "chains_by" s_chains_by f fd) (B : Bi mg) (D_lone_pairs : Df P w K mg base 1 "lone_pairs" ["plan", "one", "two"] sp_lone_pairs) (D_chain_from : Df P w K mg base 2 "chain_from" ["pairs", "start"] sp_chain_from) : FnOk P w K mg base CX0 3 f fd ["plan", "one", "two"] sp_chains_by :=
  Fun.okT F sc_chains_by len_chains_by (fun cdv A outer s H E hr => d_chains_by B D_lone_pairs D_chain_from hr) sem_chains_by

theorem df_chains_by {f : Addr} {fd : FuncData} (F : Fun K "chains_by" "chains_by" s_chains_by f fd) (hm : mg "chains_by" = some (.ref f)) (B : Bi mg) (D_lone_pairs : Df P w K mg base 1 "lone_pairs" ["plan", "one", "two"] sp_lone_pairs) (D_chain_from : Df P w K mg base 2 "chain_from" ["pairs", "start"] sp_chain_from) : Df P w K mg base 3 "chains_by" ["plan", "one", "two"] sp_chains_by :=
  Df.of F (ok_chains_by F B D_lone_pairs D_chain_from) hm (fun _ _ _ _ _ _ us hl => match us, hl with | [_, _, _], _ => rfl) (fun p hp => nomatch hp)

abbrev s_without_and_with : Stmt := topS 47

theorem sc_without_and_with : FnScope ["each", "chain", "kept", "pair"] ["each", "chain"] (defScope s_without_and_with) := ⟨rfl, rfl, rfl, by decide +kernel, rfl, by decide +kernel, by decide +kernel⟩

theorem d_without_and_with (B : Bi mg) {f : Addr} {cdv : Value} {A : Around} {outer : List Env} {s : Shared} {H : Hp} {E : XK} (hr : Room 0 (A.deeper (envOfC "without_and_with" (defScope s_without_and_with) s.heap.objs.size f cdv))) :
    PSs (cxOf CX0 P w K mg base ["each", "chain", "kept", "pair"] "without_and_with" (defScope s_without_and_with) f cdv A outer s H E).nox (defBody s_without_and_with) (t_without_and_with K) :=
  (pss_cons (ps_setLc (i := 2) (own := [("pair", 3)]) (g := (gName 3)) (tt := (tTest (tOp (rInT K true) (tVar 3) (tVar 1)))) (te := (tVar 3)) (by rfl) sc_without_and_with.nd rfl rfl (sw_true rfl rfl rfl (by decide +kernel)) (pi_tup (pv 0)) (blkOk_by (N := ["each", "chain", "kept", "pair"]) (sc := defScope s_without_and_with) (by decide +kernel)) (fun _ _ _ _ _ => (pg_name (i := 3) sc_without_and_with.nd rfl (Or.inl rfl))) (fun _ _ _ _ _ => (pts_one (pt_cmpR (op_notInT (u65 hr)) (pv 3) (pv 1) (by rfl)))) (fun _ _ _ _ _ => (pv 3)))
    (pss_one (ps_ret (pe_callTy call_tuple_of (by rfl) B.m_tuple (by decide +kernel) (pa_cons (pe_callB (cr_sortD hr.units) (by rfl) B.m_sorted (by decide +kernel) (pa_cons (pe_op op_cat (pv 2) (pe_lc (own := [("pair", 3)]) (g := (gName 3)) (tt := (tTest (tOp (rInT K true) (tVar 3) (tVar 0)))) (te := (tVar 3)) (by rfl) sc_without_and_with.nd (pi_tup (pv 1)) (blkOk_by (N := ["each", "chain", "kept", "pair"]) (sc := defScope s_without_and_with) (by decide +kernel)) (fun _ _ _ _ _ => (pg_name (i := 3) sc_without_and_with.nd rfl (Or.inl rfl))) (fun _ _ _ _ _ => (pts_one (pt_cmpR (op_notInT (u65 hr)) (pv 3) (pv 0) (by rfl)))) (fun _ _ _ _ _ => (pv 3)))) pa_nil)) pa_nil)))))

theorem ok_without_and_with {f : Addr} {fd : FuncData} (F : Fun K "without_and_with" "without_and_with" s_without_and_with f fd) (B : Bi mg) : FnOk P w K mg base CX0 1 f fd ["each", "chain"] sp_without_and_with :=
  Fun.okT F sc_without_and_with len_without_and_with (fun cdv A outer s H E hr => d_without_and_with B hr) sem_without_and_with

theorem df_without_and_with {f : Addr} {fd : FuncData} (F : Fun K "without_and_with" "without_and_with" s_without_and_with f fd) (hm : mg "without_and_with" = some (.ref f)) (B : Bi mg) : Df P w K mg base 1 "without_and_with" ["each", "chain"] sp_without_and_with :=
  Df.of F (ok_without_and_with F B) hm (fun _ _ _ _ _ _ us hl => match us, hl with | [_, _], _ => rfl) (fun p hp => nomatch hp)

abbrev s_exchanged_by : Stmt := topS 48

theorem sc_exchanged_by : FnScope ["plan", "one", "two", "chain", "rounds"] ["plan", "one", "two", "chain"] (defScope s_exchanged_by) := ⟨rfl, rfl, rfl, by decide +kernel, rfl, by decide +kernel, by decide +kernel⟩

theorem d_exchanged_by (B : Bi mg) (D_without_and_with : Df P w K mg base 1 "without_and_with" ["each", "chain"] sp_without_and_with) {f : Addr} {cdv : Value} {A : Around} {outer : List Env} {s : Shared} {H : Hp} {E : XK} (hr : Room 1 (A.deeper (envOfC "exchanged_by" (defScope s_exchanged_by) s.heap.objs.size f cdv))) :
    PSs (cxOf CX0 P w K mg base ["plan", "one", "two", "chain", "rounds"] "exchanged_by" (defScope s_exchanged_by) f cdv A outer s H E).nox (defBody s_exchanged_by) (t_exchanged_by K sp_without_and_with) :=
  (pss_cons (ps_set (i := 4) sc_exchanged_by.nd rfl (.inl rfl) (pe_callTy call_list_of (by rfl) B.m_list (by decide +kernel) (pa_cons (pv 0) pa_nil)))
    (pss_cons (ps_asg (pe_df D_without_and_with (hr.mono (by decide)) (by rfl) (pa_cons (pe_ix ix_tup (pv 0) (pv 1) (fun _ _ => rfl)) (pa_cons (pv 3) pa_nil))) (pg_sub (pv 4) (pv 1) set_list))
    (pss_cons (ps_asg (pe_df D_without_and_with (hr.mono (by decide)) (by rfl) (pa_cons (pe_ix ix_tup (pv 0) (pv 2) (fun _ _ => rfl)) (pa_cons (pv 3) pa_nil))) (pg_sub (pv 4) (pv 2) set_list))
    (pss_one (ps_ret (pe_callTy call_tuple_of (by rfl) B.m_tuple (by decide +kernel) (pa_cons (pv 4) pa_nil)))))))

theorem ok_exchanged_by {f : Addr} {fd : FuncData} (F : Fun K "exchanged_by" "exchanged_by" s_exchanged_by f fd) (B : Bi mg) (D_without_and_with : Df P w K mg base 1 "without_and_with" ["each", "chain"] sp_without_and_with) : FnOk P w K mg base CX0 2 f fd ["plan", "one", "two", "chain"] sp_exchanged_by :=
  Fun.okT F sc_exchanged_by len_exchanged_by (fun cdv A outer s H E hr => d_exchanged_by B D_without_and_with hr) sem_exchanged_by

theorem df_exchanged_by {f : Addr} {fd : FuncData} (F : Fun K "exchanged_by" "exchanged_by" s_exchanged_by f fd) (hm : mg "exchanged_by" = some (.ref f)) (B : Bi mg) (D_without_and_with : Df P w K mg base 1 "without_and_with" ["each", "chain"] sp_without_and_with) : Df P w K mg base 2 "exchanged_by" ["plan", "one", "two", "chain"] sp_exchanged_by :=
  Df.of F (ok_exchanged_by F B D_without_and_with) hm (fun _ _ _ _ _ _ us hl => match us, hl with | [_, _, _, _], _ => rfl) (fun p hp => nomatch hp)

abbrev s_is_count_row : Stmt := topS 55

theorem sc_is_count_row : FnScope ["value", "many", "each"] ["value", "many"] (defScope s_is_count_row) := ⟨rfl, rfl, rfl, by decide +kernel, rfl, by decide +kernel, by decide +kernel⟩

theorem d_is_count_row (B : Bi mg) (c_MOST_COUNT : ∃ t, mg "MOST_COUNT" = some (.int 9 t)) (D_is_tuple_of : Df P w K mg base 1 "is_tuple_of" ["value", "many"] sp_is_tuple_of) (D_is_between : Df P w K mg base 2 "is_between" ["value", "low", "high"] sp_is_between) {f : Addr} {cdv : Value} {A : Around} {outer : List Env} {s : Shared} {H : Hp} {E : XK} (hr : Room 2 (A.deeper (envOfC "is_count_row" (defScope s_is_count_row) s.heap.objs.size f cdv))) :
    PSs (cxOf CX0 P w K mg base ["value", "many", "each"] "is_count_row" (defScope s_is_count_row) f cdv A outer s H E).nox (defBody s_is_count_row) (t_is_count_row K sp_is_tuple_of sp_is_between) :=
  (pss_one (ps_ret (pe_and (pe_df D_is_tuple_of (hr.mono (by decide)) (by rfl) (pa_cons (pv 0) (pa_cons (pv 1) pa_nil))) (pe_one (pe_callB (cr_all (by rfl)) (by rfl) B.m_all (by decide +kernel) (pa_cons (pe_lc (own := [("each", 2)]) (g := (gName 2)) (tt := tYes) (te := (tCall sp_is_between [] E0 (tCons (tVar 2) (tCons (tC (.int 0)) (tCons (tC (.int 9)) tNil))))) (by rfl) sc_is_count_row.nd (pi_tup (pv 0)) (blkOk_by (N := ["value", "many", "each"]) (sc := defScope s_is_count_row) (by decide +kernel)) (fun _ _ _ _ _ => (pg_name (i := 2) sc_is_count_row.nd rfl (Or.inl rfl))) (fun _ _ _ _ _ => pts_nil) (fun _ _ _ _ _ => (pe_df D_is_between (hr.mono (by decide)) (by rfl) (pa_cons (pv 2) (pa_cons pe_int (pa_cons (pe_glob (by rfl) c_MOST_COUNT.choose_spec ⟨_, rfl⟩) pa_nil)))))) pa_nil))))))

theorem ok_is_count_row {f : Addr} {fd : FuncData} (F : Fun K "is_count_row" "is_count_row" s_is_count_row f fd) (B : Bi mg) (c_MOST_COUNT : ∃ t, mg "MOST_COUNT" = some (.int 9 t)) (D_is_tuple_of : Df P w K mg base 1 "is_tuple_of" ["value", "many"] sp_is_tuple_of) (D_is_between : Df P w K mg base 2 "is_between" ["value", "low", "high"] sp_is_between) : FnOk P w K mg base CX0 3 f fd ["value", "many"] sp_is_count_row :=
  Fun.okT F sc_is_count_row len_is_count_row (fun cdv A outer s H E hr => d_is_count_row B c_MOST_COUNT D_is_tuple_of D_is_between hr) sem_is_count_row

theorem df_is_count_row {f : Addr} {fd : FuncData} (F : Fun K "is_count_row" "is_count_row" s_is_count_row f fd) (hm : mg "is_count_row" = some (.ref f)) (B : Bi mg) (c_MOST_COUNT : ∃ t, mg "MOST_COUNT" = some (.int 9 t)) (D_is_tuple_of : Df P w K mg base 1 "is_tuple_of" ["value", "many"] sp_is_tuple_of) (D_is_between : Df P w K mg base 2 "is_between" ["value", "low", "high"] sp_is_between) : Df P w K mg base 3 "is_count_row" ["value", "many"] sp_is_count_row :=
  Df.of F (ok_is_count_row F B c_MOST_COUNT D_is_tuple_of D_is_between) hm (fun _ _ _ _ _ _ us hl => match us, hl with | [_, _], _ => rfl) (fun p hp => nomatch hp)

abbrev s_is_row_like : Stmt := topS 56

theorem sc_is_row_like : FnScope ["first", "value"] ["first", "value"] (defScope s_is_row_like) := ⟨rfl, rfl, rfl, by decide +kernel, rfl, by decide +kernel, by decide +kernel⟩

theorem d_is_row_like (B : Bi mg) (c_MOST_SIDE : ∃ t, mg "MOST_SIDE" = some (.int 6 t)) (D_is_count_row : Df P w K mg base 3 "is_count_row" ["value", "many"] sp_is_count_row) {f : Addr} {cdv : Value} {A : Around} {outer : List Env} {s : Shared} {H : Hp} {E : XK} (hr : Room 3 (A.deeper (envOfC "is_row_like" (defScope s_is_row_like) s.heap.objs.size f cdv))) :
    PSs (cxOf CX0 P w K mg base ["first", "value"] "is_row_like" (defScope s_is_row_like) f cdv A outer s H E).nox (defBody s_is_row_like) (t_is_row_like K sp_is_count_row) :=
  (pss_cons (ps_if (PW.pt (pw_or (pt_not (pt_val (pe_callB call_isi (by rfl) B.m_isinstance (by decide +kernel) (pa_cons (pv 0) (pa_cons (pe_bltn (by rfl) B.m_tuple (by decide +kernel) rfl) pa_nil))))) (pw_or1 (pt_not (pt_chain op_le op_le pe_int (pe_callB call_len_seq (by rfl) B.m_len (by decide +kernel) (pa_cons (pv 0) pa_nil)) (pe_glob (by rfl) c_MOST_SIDE.choose_spec ⟨_, rfl⟩)))))) (pss_one (ps_ret pe_bl)) pss_nil)
    (pss_one (ps_ret (pe_df D_is_count_row (hr.mono (by decide)) (by rfl) (pa_cons (pv 1) (pa_cons (pe_callB call_len_seq (by rfl) B.m_len (by decide +kernel) (pa_cons (pv 0) pa_nil)) pa_nil))))))

theorem ok_is_row_like {f : Addr} {fd : FuncData} (F : Fun K "is_row_like" "is_row_like" s_is_row_like f fd) (B : Bi mg) (c_MOST_SIDE : ∃ t, mg "MOST_SIDE" = some (.int 6 t)) (D_is_count_row : Df P w K mg base 3 "is_count_row" ["value", "many"] sp_is_count_row) : FnOk P w K mg base CX0 4 f fd ["first", "value"] sp_is_row_like :=
  Fun.okT F sc_is_row_like len_is_row_like (fun cdv A outer s H E hr => d_is_row_like B c_MOST_SIDE D_is_count_row hr) sem_is_row_like

theorem df_is_row_like {f : Addr} {fd : FuncData} (F : Fun K "is_row_like" "is_row_like" s_is_row_like f fd) (hm : mg "is_row_like" = some (.ref f)) (B : Bi mg) (c_MOST_SIDE : ∃ t, mg "MOST_SIDE" = some (.int 6 t)) (D_is_count_row : Df P w K mg base 3 "is_count_row" ["value", "many"] sp_is_count_row) : Df P w K mg base 4 "is_row_like" ["first", "value"] sp_is_row_like :=
  Df.of F (ok_is_row_like F B c_MOST_SIDE D_is_count_row) hm (fun _ _ _ _ _ _ us hl => match us, hl with | [_, _], _ => rfl) (fun p hp => nomatch hp)

abbrev s_wrong_in_table : Stmt := topS 57

theorem sc_wrong_in_table : FnScope ["value", "found", "index", "row"] ["value"] (defScope s_wrong_in_table) := ⟨rfl, rfl, rfl, by decide +kernel, rfl, by decide +kernel, by decide +kernel⟩

theorem d_wrong_in_table (B : Bi mg) (c_MOST_SIDE : ∃ t, mg "MOST_SIDE" = some (.int 6 t)) (c_MOST_MEETINGS : ∃ t, mg "MOST_MEETINGS" = some (.int 60 t)) (D_is_row_like : Df P w K mg base 4 "is_row_like" ["first", "value"] sp_is_row_like) (D_total_by : Df P w K mg base 1 "total_by" ["table"] sp_total_by) {f : Addr} {cdv : Value} {A : Around} {outer : List Env} {s : Shared} {H : Hp} {E : XK} (hr : Room 4 (A.deeper (envOfC "wrong_in_table" (defScope s_wrong_in_table) s.heap.objs.size f cdv))) :
    PSs (cxOf CX0 P w K mg base ["value", "found", "index", "row"] "wrong_in_table" (defScope s_wrong_in_table) f cdv A outer s H E).nox (defBody s_wrong_in_table) (t_wrong_in_table K sp_is_row_like sp_total_by) :=
  (pss_cons (ps_if (PW.pt (pw_or (pt_not (pt_val (pe_callB call_isi (by rfl) B.m_isinstance (by decide +kernel) (pa_cons (pv 0) (pa_cons (pe_bltn (by rfl) B.m_tuple (by decide +kernel) rfl) pa_nil))))) (pw_or1 (pt_not (pt_chain op_le op_le pe_int (pe_callB call_len_seq (by rfl) B.m_len (by decide +kernel) (pa_cons (pv 0) pa_nil)) (pe_glob (by rfl) c_MOST_SIDE.choose_spec ⟨_, rfl⟩)))))) (pss_one (ps_ret (pe_lst (pa_cons pe_non pa_nil)))) pss_nil)
    (pss_cons (ps_set (i := 1) sc_wrong_in_table.nd rfl (.inl rfl) (pe_slice sl_list (pe_lc (own := [("index", 2), ("row", 3)]) (g := (gTup K 2 (gCons (gName 2) (gCons (gName 3) gNil)))) (tt := (tNot (tB (tCall sp_is_row_like [] E0 (tCons (tOp (rIxT K) (tVar 0) (tC (.int 0))) (tCons (tVar 3) tNil)))))) (te := (tVar 2)) (by rfl) sc_wrong_in_table.nd (pi_enumT (by rfl) B.m_enumerate (pa_cons (pv 0) pa_nil)) (blkOk_by (N := ["value", "found", "index", "row"]) (sc := defScope s_wrong_in_table) (by decide +kernel)) (fun _ _ _ _ _ => (pg_tup (by rfl) (pgs_cons (pg_name (i := 2) sc_wrong_in_table.nd rfl (Or.inl rfl)) (pgs_cons (pg_name (i := 3) sc_wrong_in_table.nd rfl (Or.inl rfl)) pgs_nil)))) (fun _ _ _ _ _ => (pts_one (pt_not (pt_val (pe_df D_is_row_like (hr.mono (by decide)) (by rfl) (pa_cons (pe_ix ix_tup (pv 0) pe_int (fun _ _ => rfl)) (pa_cons (pv 3) pa_nil))))))) (fun _ _ _ _ _ => (pv 2))) po_none (po_some pe_int)))
    (pss_cons (ps_if (pt_cmpR (op_neD hr.units) (pv 1) (pe_lst pa_nil) (nomark _)) (pss_one (ps_ret (pv 1))) pss_nil)
    (pss_one (ps_ret (pe_ifExp (pt_cmpR op_le (pe_df D_total_by (hr.mono (by decide)) (by rfl) (pa_cons (pv 0) pa_nil)) (pe_glob (by rfl) c_MOST_MEETINGS.choose_spec ⟨_, rfl⟩) (nomark _)) (pe_lst pa_nil) (pe_lst (pa_cons (pe_callB call_len_seq (by rfl) B.m_len (by decide +kernel) (pa_cons (pv 0) pa_nil)) pa_nil))))))))

theorem ok_wrong_in_table {f : Addr} {fd : FuncData} (F : Fun K "wrong_in_table" "wrong_in_table" s_wrong_in_table f fd) (B : Bi mg) (c_MOST_SIDE : ∃ t, mg "MOST_SIDE" = some (.int 6 t)) (c_MOST_MEETINGS : ∃ t, mg "MOST_MEETINGS" = some (.int 60 t)) (D_is_row_like : Df P w K mg base 4 "is_row_like" ["first", "value"] sp_is_row_like) (D_total_by : Df P w K mg base 1 "total_by" ["table"] sp_total_by) : FnOk P w K mg base CX0 5 f fd ["value"] sp_wrong_in_table :=
  Fun.okT F sc_wrong_in_table len_wrong_in_table (fun cdv A outer s H E hr => d_wrong_in_table B c_MOST_SIDE c_MOST_MEETINGS D_is_row_like D_total_by hr) sem_wrong_in_table

theorem df_wrong_in_table {f : Addr} {fd : FuncData} (F : Fun K "wrong_in_table" "wrong_in_table" s_wrong_in_table f fd) (hm : mg "wrong_in_table" = some (.ref f)) (B : Bi mg) (c_MOST_SIDE : ∃ t, mg "MOST_SIDE" = some (.int 6 t)) (c_MOST_MEETINGS : ∃ t, mg "MOST_MEETINGS" = some (.int 60 t)) (D_is_row_like : Df P w K mg base 4 "is_row_like" ["first", "value"] sp_is_row_like) (D_total_by : Df P w K mg base 1 "total_by" ["table"] sp_total_by) : Df P w K mg base 5 "wrong_in_table" ["value"] sp_wrong_in_table :=
  Df.of F (ok_wrong_in_table F B c_MOST_SIDE c_MOST_MEETINGS D_is_row_like D_total_by) hm (fun _ _ _ _ _ _ us hl => match us, hl with | [_], _ => rfl) (fun p hp => by cases hp; intros; rfl)

abbrev s_total_by : Stmt := topS 58

theorem sc_total_by : FnScope ["table", "row"] ["table"] (defScope s_total_by) := ⟨rfl, rfl, rfl, by decide +kernel, rfl, by decide +kernel, by decide +kernel⟩

theorem d_total_by (B : Bi mg) {f : Addr} {cdv : Value} {A : Around} {outer : List Env} {s : Shared} {H : Hp} {E : XK} (hr : Room 0 (A.deeper (envOfC "total_by" (defScope s_total_by) s.heap.objs.size f cdv))) :
    PSs (cxOf CX0 P w K mg base ["table", "row"] "total_by" (defScope s_total_by) f cdv A outer s H E).nox (defBody s_total_by) (t_total_by K) :=
  (pss_one (ps_ret (pe_callB (cr_sum (by rfl)) (by rfl) B.m_sum (by decide +kernel) (pa_cons (pe_lc (own := [("row", 1)]) (g := (gName 1)) (tt := tYes) (te := (tCB (rSumT K) (tCons (tVar 1) tNil))) (by rfl) sc_total_by.nd (pi_tup (pv 0)) (blkOk_by (N := ["table", "row"]) (sc := defScope s_total_by) (by decide +kernel)) (fun _ _ _ _ _ => (pg_name (i := 1) sc_total_by.nd rfl (Or.inl rfl))) (fun _ _ _ _ _ => pts_nil) (fun _ _ _ _ _ => (pe_callB (cr_sumT (by rfl)) (by rfl) B.m_sum (by decide +kernel) (pa_cons (pv 1) pa_nil)))) pa_nil))))

theorem ok_total_by {f : Addr} {fd : FuncData} (F : Fun K "total_by" "total_by" s_total_by f fd) (B : Bi mg) : FnOk P w K mg base CX0 1 f fd ["table"] sp_total_by :=
  Fun.okT F sc_total_by len_total_by (fun cdv A outer s H E hr => d_total_by B hr) sem_total_by

theorem df_total_by {f : Addr} {fd : FuncData} (F : Fun K "total_by" "total_by" s_total_by f fd) (hm : mg "total_by" = some (.ref f)) (B : Bi mg) : Df P w K mg base 1 "total_by" ["table"] sp_total_by :=
  Df.of F (ok_total_by F B) hm (fun _ _ _ _ _ _ us hl => match us, hl with | [_], _ => rfl) (fun p hp => by cases hp; intros; rfl)

abbrev s_firsts_of : Stmt := topS 59

theorem sc_firsts_of : FnScope ["table"] ["table"] (defScope s_firsts_of) := ⟨rfl, rfl, rfl, by decide +kernel, rfl, by decide +kernel, by decide +kernel⟩

theorem d_firsts_of (B : Bi mg) {f : Addr} {cdv : Value} {A : Around} {outer : List Env} {s : Shared} {H : Hp} {E : XK} (hr : Room 0 (A.deeper (envOfC "firsts_of" (defScope s_firsts_of) s.heap.objs.size f cdv))) :
    PSs (cxOf CX0 P w K mg base ["table"] "firsts_of" (defScope s_firsts_of) f cdv A outer s H E).nox (defBody s_firsts_of) (t_firsts_of K) :=
  (pss_one (ps_ret (pe_listRg (by rfl) (by rfl) B.m_list (prg_1 (by rfl) B.m_range (pe_callB call_len_seq (by rfl) B.m_len (by decide +kernel) (pa_cons (pv 0) pa_nil))))))

theorem ok_firsts_of {f : Addr} {fd : FuncData} (F : Fun K "firsts_of" "firsts_of" s_firsts_of f fd) (B : Bi mg) : FnOk P w K mg base CX0 1 f fd ["table"] sp_firsts_of :=
  Fun.okT F sc_firsts_of len_firsts_of (fun cdv A outer s H E hr => d_firsts_of B hr) sem_firsts_of

theorem df_firsts_of {f : Addr} {fd : FuncData} (F : Fun K "firsts_of" "firsts_of" s_firsts_of f fd) (hm : mg "firsts_of" = some (.ref f)) (B : Bi mg) : Df P w K mg base 1 "firsts_of" ["table"] sp_firsts_of :=
  Df.of F (ok_firsts_of F B) hm (fun _ _ _ _ _ _ us hl => match us, hl with | [_], _ => rfl) (fun p hp => by cases hp; intros; rfl)

abbrev s_seconds_of : Stmt := topS 60

theorem sc_seconds_of : FnScope ["table"] ["table"] (defScope s_seconds_of) := ⟨rfl, rfl, rfl, by decide +kernel, rfl, by decide +kernel, by decide +kernel⟩

theorem d_seconds_of (B : Bi mg) {f : Addr} {cdv : Value} {A : Around} {outer : List Env} {s : Shared} {H : Hp} {E : XK} (hr : Room 0 (A.deeper (envOfC "seconds_of" (defScope s_seconds_of) s.heap.objs.size f cdv))) :
    PSs (cxOf CX0 P w K mg base ["table"] "seconds_of" (defScope s_seconds_of) f cdv A outer s H E).nox (defBody s_seconds_of) (t_seconds_of K) :=
  (pss_one (ps_ret (pe_listRg (by rfl) (by rfl) B.m_list (prg_1 (by rfl) B.m_range (pe_callB call_len_seq (by rfl) B.m_len (by decide +kernel) (pa_cons (pe_ix ix_tup (pv 0) pe_int (fun _ _ => rfl)) pa_nil))))))

theorem ok_seconds_of {f : Addr} {fd : FuncData} (F : Fun K "seconds_of" "seconds_of" s_seconds_of f fd) (B : Bi mg) : FnOk P w K mg base CX0 1 f fd ["table"] sp_seconds_of :=
  Fun.okT F sc_seconds_of len_seconds_of (fun cdv A outer s H E hr => d_seconds_of B hr) sem_seconds_of

theorem df_seconds_of {f : Addr} {fd : FuncData} (F : Fun K "seconds_of" "seconds_of" s_seconds_of f fd) (hm : mg "seconds_of" = some (.ref f)) (B : Bi mg) : Df P w K mg base 1 "seconds_of" ["table"] sp_seconds_of :=
  Df.of F (ok_seconds_of F B) hm (fun _ _ _ _ _ _ us hl => match us, hl with | [_], _ => rfl) (fun p hp => by cases hp; intros; rfl)

abbrev s_is_first : Stmt := topS 61

theorem sc_is_first : FnScope ["table", "value"] ["table", "value"] (defScope s_is_first) := ⟨rfl, rfl, rfl, by decide +kernel, rfl, by decide +kernel, by decide +kernel⟩

theorem d_is_first (B : Bi mg) (D_is_between : Df P w K mg base 2 "is_between" ["value", "low", "high"] sp_is_between) {f : Addr} {cdv : Value} {A : Around} {outer : List Env} {s : Shared} {H : Hp} {E : XK} (hr : Room 2 (A.deeper (envOfC "is_first" (defScope s_is_first) s.heap.objs.size f cdv))) :
    PSs (cxOf CX0 P w K mg base ["table", "value"] "is_first" (defScope s_is_first) f cdv A outer s H E).nox (defBody s_is_first) (t_is_first K sp_is_between) :=
  (pss_one (ps_ret (pe_df D_is_between (hr.mono (by decide)) (by rfl) (pa_cons (pv 1) (pa_cons pe_int (pa_cons (pe_op op_sub (pe_callB call_len_seq (by rfl) B.m_len (by decide +kernel) (pa_cons (pv 0) pa_nil)) pe_int) pa_nil))))))

theorem ok_is_first {f : Addr} {fd : FuncData} (F : Fun K "is_first" "is_first" s_is_first f fd) (B : Bi mg) (D_is_between : Df P w K mg base 2 "is_between" ["value", "low", "high"] sp_is_between) : FnOk P w K mg base CX0 3 f fd ["table", "value"] sp_is_first :=
  Fun.okT F sc_is_first len_is_first (fun cdv A outer s H E hr => d_is_first B D_is_between hr) sem_is_first

theorem df_is_first {f : Addr} {fd : FuncData} (F : Fun K "is_first" "is_first" s_is_first f fd) (hm : mg "is_first" = some (.ref f)) (B : Bi mg) (D_is_between : Df P w K mg base 2 "is_between" ["value", "low", "high"] sp_is_between) : Df P w K mg base 3 "is_first" ["table", "value"] sp_is_first :=
  Df.of F (ok_is_first F B D_is_between) hm (fun _ _ _ _ _ _ us hl => match us, hl with | [_, _], _ => rfl) (fun p hp => nomatch hp)

abbrev s_is_second : Stmt := topS 62

theorem sc_is_second : FnScope ["table", "value"] ["table", "value"] (defScope s_is_second) := ⟨rfl, rfl, rfl, by decide +kernel, rfl, by decide +kernel, by decide +kernel⟩

theorem d_is_second (B : Bi mg) (D_is_between : Df P w K mg base 2 "is_between" ["value", "low", "high"] sp_is_between) {f : Addr} {cdv : Value} {A : Around} {outer : List Env} {s : Shared} {H : Hp} {E : XK} (hr : Room 2 (A.deeper (envOfC "is_second" (defScope s_is_second) s.heap.objs.size f cdv))) :
    PSs (cxOf CX0 P w K mg base ["table", "value"] "is_second" (defScope s_is_second) f cdv A outer s H E).nox (defBody s_is_second) (t_is_second K sp_is_between) :=
  (pss_one (ps_ret (pe_df D_is_between (hr.mono (by decide)) (by rfl) (pa_cons (pv 1) (pa_cons pe_int (pa_cons (pe_op op_sub (pe_callB call_len_seq (by rfl) B.m_len (by decide +kernel) (pa_cons (pe_ix ix_tup (pv 0) pe_int (fun _ _ => rfl)) pa_nil)) pe_int) pa_nil))))))

theorem ok_is_second {f : Addr} {fd : FuncData} (F : Fun K "is_second" "is_second" s_is_second f fd) (B : Bi mg) (D_is_between : Df P w K mg base 2 "is_between" ["value", "low", "high"] sp_is_between) : FnOk P w K mg base CX0 3 f fd ["table", "value"] sp_is_second :=
  Fun.okT F sc_is_second len_is_second (fun cdv A outer s H E hr => d_is_second B D_is_between hr) sem_is_second

theorem df_is_second {f : Addr} {fd : FuncData} (F : Fun K "is_second" "is_second" s_is_second f fd) (hm : mg "is_second" = some (.ref f)) (B : Bi mg) (D_is_between : Df P w K mg base 2 "is_between" ["value", "low", "high"] sp_is_between) : Df P w K mg base 3 "is_second" ["table", "value"] sp_is_second :=
  Df.of F (ok_is_second F B D_is_between) hm (fun _ _ _ _ _ _ us hl => match us, hl with | [_, _], _ => rfl) (fun p hp => nomatch hp)

abbrev s_persons_of : Stmt := topS 63

theorem sc_persons_of : FnScope ["table", "firsts", "first", "second"] ["table"] (defScope s_persons_of) := ⟨rfl, rfl, rfl, by decide +kernel, rfl, by decide +kernel, by decide +kernel⟩

theorem d_persons_of (B : Bi mg) (c_FIRST : ∃ t, mg "FIRST" = some (.int 0 t)) (c_SECOND : ∃ t, mg "SECOND" = some (.int 1 t)) (D_firsts_of : Df P w K mg base 1 "firsts_of" ["table"] sp_firsts_of) (D_seconds_of : Df P w K mg base 1 "seconds_of" ["table"] sp_seconds_of) {f : Addr} {cdv : Value} {A : Around} {outer : List Env} {s : Shared} {H : Hp} {E : XK} (hr : Room 1 (A.deeper (envOfC "persons_of" (defScope s_persons_of) s.heap.objs.size f cdv))) :
    PSs (cxOf CX0 P w K mg base ["table", "firsts", "first", "second"] "persons_of" (defScope s_persons_of) f cdv A outer s H E).nox (defBody s_persons_of) (t_persons_of K sp_firsts_of sp_seconds_of) :=
  (pss_cons (ps_setLc (i := 1) (own := [("first", 2)]) (g := (gName 2)) (tt := tYes) (te := (tTup (tCons (tC (.int 0)) (tCons (tVar 2) tNil)))) (by rfl) sc_persons_of.nd rfl rfl (sw_true rfl rfl rfl (by decide +kernel)) (pi_list (pe_df D_firsts_of (hr.mono (by decide)) (by rfl) (pa_cons (pv 0) pa_nil))) (blkOk_by (N := ["table", "firsts", "first", "second"]) (sc := defScope s_persons_of) (by decide +kernel)) (fun _ _ _ _ _ => (pg_name (i := 2) sc_persons_of.nd rfl (Or.inl rfl))) (fun _ _ _ _ _ => pts_nil) (fun _ _ _ _ _ => (pe_tup (pa_cons (pe_glob (by rfl) c_FIRST.choose_spec ⟨_, rfl⟩) (pa_cons (pv 2) pa_nil)))))
    (pss_one (ps_ret (pe_op op_cat (pv 1) (pe_lc (own := [("second", 3)]) (g := (gName 3)) (tt := tYes) (te := (tTup (tCons (tC (.int 1)) (tCons (tVar 3) tNil)))) (by rfl) sc_persons_of.nd (pi_list (pe_df D_seconds_of (hr.mono (by decide)) (by rfl) (pa_cons (pv 0) pa_nil))) (blkOk_by (N := ["table", "firsts", "first", "second"]) (sc := defScope s_persons_of) (by decide +kernel)) (fun _ _ _ _ _ => (pg_name (i := 3) sc_persons_of.nd rfl (Or.inl rfl))) (fun _ _ _ _ _ => pts_nil) (fun _ _ _ _ _ => (pe_tup (pa_cons (pe_glob (by rfl) c_SECOND.choose_spec ⟨_, rfl⟩) (pa_cons (pv 3) pa_nil)))))))))

theorem ok_persons_of {f : Addr} {fd : FuncData} (F : Fun K "persons_of" "persons_of" s_persons_of f fd) (B : Bi mg) (c_FIRST : ∃ t, mg "FIRST" = some (.int 0 t)) (c_SECOND : ∃ t, mg "SECOND" = some (.int 1 t)) (D_firsts_of : Df P w K mg base 1 "firsts_of" ["table"] sp_firsts_of) (D_seconds_of : Df P w K mg base 1 "seconds_of" ["table"] sp_seconds_of) : FnOk P w K mg base CX0 2 f fd ["table"] sp_persons_of :=
  Fun.okT F sc_persons_of len_persons_of (fun cdv A outer s H E hr => d_persons_of B c_FIRST c_SECOND D_firsts_of D_seconds_of hr) sem_persons_of

theorem df_persons_of {f : Addr} {fd : FuncData} (F : Fun K "persons_of" "persons_of" s_persons_of f fd) (hm : mg "persons_of" = some (.ref f)) (B : Bi mg) (c_FIRST : ∃ t, mg "FIRST" = some (.int 0 t)) (c_SECOND : ∃ t, mg "SECOND" = some (.int 1 t)) (D_firsts_of : Df P w K mg base 1 "firsts_of" ["table"] sp_firsts_of) (D_seconds_of : Df P w K mg base 1 "seconds_of" ["table"] sp_seconds_of) : Df P w K mg base 2 "persons_of" ["table"] sp_persons_of :=
  Df.of F (ok_persons_of F B c_FIRST c_SECOND D_firsts_of D_seconds_of) hm (fun _ _ _ _ _ _ us hl => match us, hl with | [_], _ => rfl) (fun p hp => by cases hp; intros; rfl)

abbrev s_load_by : Stmt := topS 64

theorem sc_load_by : FnScope ["table", "person", "side", "index", "row"] ["table", "person"] (defScope s_load_by) := ⟨rfl, rfl, rfl, by decide +kernel, rfl, by decide +kernel, by decide +kernel⟩

theorem d_load_by (B : Bi mg) (c_FIRST : ∃ t, mg "FIRST" = some (.int 0 t)) {f : Addr} {cdv : Value} {A : Around} {outer : List Env} {s : Shared} {H : Hp} {E : XK} (hr : Room 0 (A.deeper (envOfC "load_by" (defScope s_load_by) s.heap.objs.size f cdv))) :
    PSs (cxOf CX0 P w K mg base ["table", "person", "side", "index", "row"] "load_by" (defScope s_load_by) f cdv A outer s H E).nox (defBody s_load_by) (t_load_by K) :=
  (pss_cons (ps_asg (pv 1) (pg_tup (by rfl) (pgs_cons (pg_name (i := 2) sc_load_by.nd rfl (Or.inl rfl)) (pgs_cons (pg_name (i := 3) sc_load_by.nd rfl (Or.inr rfl)) pgs_nil))))
    (pss_one (ps_ret (pe_ifExp (pt_cmpR op_eq (pv 2) (pe_glob (by rfl) c_FIRST.choose_spec ⟨_, rfl⟩) (nomark _)) (pe_callB (cr_sumT (by rfl)) (by rfl) B.m_sum (by decide +kernel) (pa_cons (pe_ix ix_tup (pv 0) (pv 3) (fun _ _ => rfl)) pa_nil)) (pe_callB (cr_sum (by rfl)) (by rfl) B.m_sum (by decide +kernel) (pa_cons (pe_lc (own := [("row", 4)]) (g := (gName 4)) (tt := tYes) (te := (tOp (rIxT K) (tVar 4) (tVar 3))) (by rfl) sc_load_by.nd (pi_tup (pv 0)) (blkOk_by (N := ["table", "person", "side", "index", "row"]) (sc := defScope s_load_by) (by decide +kernel)) (fun _ _ _ _ _ => (pg_name (i := 4) sc_load_by.nd rfl (Or.inl rfl))) (fun _ _ _ _ _ => pts_nil) (fun _ _ _ _ _ => (pe_ix ix_tup (pv 4) (pv 3) (fun _ _ => rfl)))) pa_nil))))))

theorem ok_load_by {f : Addr} {fd : FuncData} (F : Fun K "load_by" "load_by" s_load_by f fd) (B : Bi mg) (c_FIRST : ∃ t, mg "FIRST" = some (.int 0 t)) : FnOk P w K mg base CX0 1 f fd ["table", "person"] sp_load_by :=
  Fun.okT F sc_load_by len_load_by (fun cdv A outer s H E hr => d_load_by B c_FIRST hr) sem_load_by

theorem df_load_by {f : Addr} {fd : FuncData} (F : Fun K "load_by" "load_by" s_load_by f fd) (hm : mg "load_by" = some (.ref f)) (B : Bi mg) (c_FIRST : ∃ t, mg "FIRST" = some (.int 0 t)) : Df P w K mg base 1 "load_by" ["table", "person"] sp_load_by :=
  Df.of F (ok_load_by F B c_FIRST) hm (fun _ _ _ _ _ _ us hl => match us, hl with | [_, _], _ => rfl) (fun p hp => nomatch hp)

abbrev s_height_by : Stmt := topS 65

theorem sc_height_by : FnScope ["table", "person"] ["table"] (defScope s_height_by) := ⟨rfl, rfl, rfl, by decide +kernel, rfl, by decide +kernel, by decide +kernel⟩

theorem d_height_by (B : Bi mg) (D_persons_of : Df P w K mg base 2 "persons_of" ["table"] sp_persons_of) (D_load_by : Df P w K mg base 1 "load_by" ["table", "person"] sp_load_by) {f : Addr} {cdv : Value} {A : Around} {outer : List Env} {s : Shared} {H : Hp} {E : XK} (hr : Room 2 (A.deeper (envOfC "height_by" (defScope s_height_by) s.heap.objs.size f cdv))) :
    PSs (cxOf CX0 P w K mg base ["table", "person"] "height_by" (defScope s_height_by) f cdv A outer s H E).nox (defBody s_height_by) (t_height_by K sp_persons_of sp_load_by) :=
  (pss_one (ps_ret (pe_callB (cr_max (by rfl)) (by rfl) B.m_max (by decide +kernel) (pa_cons (pe_lc (own := [("person", 1)]) (g := (gName 1)) (tt := tYes) (te := (tCall sp_load_by [] E0 (tCons (tVar 0) (tCons (tVar 1) tNil)))) (by rfl) sc_height_by.nd (pi_list (pe_df D_persons_of (hr.mono (by decide)) (by rfl) (pa_cons (pv 0) pa_nil))) (blkOk_by (N := ["table", "person"]) (sc := defScope s_height_by) (by decide +kernel)) (fun _ _ _ _ _ => (pg_name (i := 1) sc_height_by.nd rfl (Or.inl rfl))) (fun _ _ _ _ _ => pts_nil) (fun _ _ _ _ _ => (pe_df D_load_by (hr.mono (by decide)) (by rfl) (pa_cons (pv 0) (pa_cons (pv 1) pa_nil))))) pa_nil))))

theorem ok_height_by {f : Addr} {fd : FuncData} (F : Fun K "height_by" "height_by" s_height_by f fd) (B : Bi mg) (D_persons_of : Df P w K mg base 2 "persons_of" ["table"] sp_persons_of) (D_load_by : Df P w K mg base 1 "load_by" ["table", "person"] sp_load_by) : FnOk P w K mg base CX0 3 f fd ["table"] sp_height_by :=
  Fun.okT F sc_height_by len_height_by (fun cdv A outer s H E hr => d_height_by B D_persons_of D_load_by hr) sem_height_by

theorem df_height_by {f : Addr} {fd : FuncData} (F : Fun K "height_by" "height_by" s_height_by f fd) (hm : mg "height_by" = some (.ref f)) (B : Bi mg) (D_persons_of : Df P w K mg base 2 "persons_of" ["table"] sp_persons_of) (D_load_by : Df P w K mg base 1 "load_by" ["table", "person"] sp_load_by) : Df P w K mg base 3 "height_by" ["table"] sp_height_by :=
  Df.of F (ok_height_by F B D_persons_of D_load_by) hm (fun _ _ _ _ _ _ us hl => match us, hl with | [_], _ => rfl) (fun p hp => by cases hp; intros; rfl)

abbrev s_pairs_of : Stmt := topS 66

theorem sc_pairs_of : FnScope ["table", "first", "second"] ["table"] (defScope s_pairs_of) := ⟨rfl, rfl, rfl, by decide +kernel, rfl, by decide +kernel, by decide +kernel⟩

theorem d_pairs_of (B : Bi mg) (D_firsts_of : Df P w K mg base 1 "firsts_of" ["table"] sp_firsts_of) (D_seconds_of : Df P w K mg base 1 "seconds_of" ["table"] sp_seconds_of) {f : Addr} {cdv : Value} {A : Around} {outer : List Env} {s : Shared} {H : Hp} {E : XK} (hr : Room 1 (A.deeper (envOfC "pairs_of" (defScope s_pairs_of) s.heap.objs.size f cdv))) :
    PSs (cxOf CX0 P w K mg base ["table", "first", "second"] "pairs_of" (defScope s_pairs_of) f cdv A outer s H E).nox (defBody s_pairs_of) (t_pairs_of K sp_firsts_of sp_seconds_of) :=
  (pss_one (ps_ret (pe_lc2 (own := [("first", 1), ("second", 2)]) (vs1 := [2]) (g := (gName 1)) (tt := tYes) (wi1 := (iList K (tCall sp_seconds_of [] E0 (tCons (tVar 0) tNil)))) (g1 := (gName 2)) (tt1 := tYes) (te := (tTup (tCons (tVar 1) (tCons (tVar 2) tNil)))) (by rfl) sc_pairs_of.nd (pi_list (pe_df D_firsts_of (hr.mono (by decide)) (by rfl) (pa_cons (pv 0) pa_nil))) (blkOk_by (N := ["table", "first", "second"]) (sc := defScope s_pairs_of) (by decide +kernel)) (by decide) (fun _ _ _ _ _ => (pg_name (i := 1) sc_pairs_of.nd rfl (Or.inl rfl))) (fun _ _ _ _ _ => pts_nil) (fun _ _ _ _ _ => (pi_list (pe_df D_seconds_of (hr.mono (by decide)) (by rfl) (pa_cons (pv 0) pa_nil)))) (fun _ _ _ _ _ => (pg_name (i := 2) sc_pairs_of.nd rfl (Or.inl rfl))) (fun _ _ _ _ _ => pts_nil) (fun _ _ _ _ _ => (pe_tup (pa_cons (pv 1) (pa_cons (pv 2) pa_nil)))))))

theorem ok_pairs_of {f : Addr} {fd : FuncData} (F : Fun K "pairs_of" "pairs_of" s_pairs_of f fd) (B : Bi mg) (D_firsts_of : Df P w K mg base 1 "firsts_of" ["table"] sp_firsts_of) (D_seconds_of : Df P w K mg base 1 "seconds_of" ["table"] sp_seconds_of) : FnOk P w K mg base CX0 2 f fd ["table"] sp_pairs_of :=
  Fun.okT F sc_pairs_of len_pairs_of (fun cdv A outer s H E hr => d_pairs_of B D_firsts_of D_seconds_of hr) sem_pairs_of

theorem df_pairs_of {f : Addr} {fd : FuncData} (F : Fun K "pairs_of" "pairs_of" s_pairs_of f fd) (hm : mg "pairs_of" = some (.ref f)) (B : Bi mg) (D_firsts_of : Df P w K mg base 1 "firsts_of" ["table"] sp_firsts_of) (D_seconds_of : Df P w K mg base 1 "seconds_of" ["table"] sp_seconds_of) : Df P w K mg base 2 "pairs_of" ["table"] sp_pairs_of :=
  Df.of F (ok_pairs_of F B D_firsts_of D_seconds_of) hm (fun _ _ _ _ _ _ us hl => match us, hl with | [_], _ => rfl) (fun p hp => by cases hp; intros; rfl)

abbrev s_meetings_by : Stmt := topS 67

theorem sc_meetings_by : FnScope ["table", "found", "first", "second"] ["table"] (defScope s_meetings_by) := ⟨rfl, rfl, rfl, by decide +kernel, rfl, by decide +kernel, by decide +kernel⟩

theorem d_meetings_by (B : Bi mg) (D_pairs_of : Df P w K mg base 2 "pairs_of" ["table"] sp_pairs_of) {f : Addr} {cdv : Value} {A : Around} {outer : List Env} {s : Shared} {H : Hp} {E : XK} (hr : Room 2 (A.deeper (envOfC "meetings_by" (defScope s_meetings_by) s.heap.objs.size f cdv))) :
    PSs (cxOf CX0 P w K mg base ["table", "found", "first", "second"] "meetings_by" (defScope s_meetings_by) f cdv A outer s H E).nox (defBody s_meetings_by) (t_meetings_by K sp_pairs_of) :=
  (pss_cons (ps_set (i := 1) sc_meetings_by.nd rfl (.inl rfl) (pe_lst pa_nil))
    (pss_cons (ps_for PassesOwn.never (by rfl) (pi_list (pe_df D_pairs_of (hr.mono (by decide)) (by rfl) (pa_cons (pv 0) pa_nil))) (pg_tup (by rfl) (pgs_cons (pg_name (i := 2) sc_meetings_by.nd rfl (Or.inl rfl)) (pgs_cons (pg_name (i := 3) sc_meetings_by.nd rfl (Or.inl rfl)) pgs_nil))) (pss_one (ps_expr (pe_bm PySem.F.plainAttrs_list PySem.F.slot_list_extend PySem.F.type_list_extend mt_extend (pv 1) (pa_cons (pe_op op_rep (pe_lst (pa_cons (pe_tup (pa_cons (pv 2) (pa_cons (pv 3) pa_nil))) pa_nil)) (pe_ix ix_tup (pe_ix ix_tup (pv 0) (pv 2) (fun _ _ => rfl)) (pv 3) (fun _ _ => rfl))) pa_nil)))))
    (pss_one (ps_ret (pe_callTy call_tuple_of (by rfl) B.m_tuple (by decide +kernel) (pa_cons (pv 1) pa_nil))))))

theorem ok_meetings_by {f : Addr} {fd : FuncData} (F : Fun K "meetings_by" "meetings_by" s_meetings_by f fd) (B : Bi mg) (D_pairs_of : Df P w K mg base 2 "pairs_of" ["table"] sp_pairs_of) : FnOk P w K mg base CX0 3 f fd ["table"] sp_meetings_by :=
  Fun.okT F sc_meetings_by len_meetings_by (fun cdv A outer s H E hr => d_meetings_by B D_pairs_of hr) sem_meetings_by

theorem df_meetings_by {f : Addr} {fd : FuncData} (F : Fun K "meetings_by" "meetings_by" s_meetings_by f fd) (hm : mg "meetings_by" = some (.ref f)) (B : Bi mg) (D_pairs_of : Df P w K mg base 2 "pairs_of" ["table"] sp_pairs_of) : Df P w K mg base 3 "meetings_by" ["table"] sp_meetings_by :=
  Df.of F (ok_meetings_by F B D_pairs_of) hm (fun _ _ _ _ _ _ us hl => match us, hl with | [_], _ => rfl) (fun p hp => by cases hp; intros; rfl)

abbrev s_is_pair : Stmt := topS 68

theorem sc_is_pair : FnScope ["table", "value"] ["table", "value"] (defScope s_is_pair) := ⟨rfl, rfl, rfl, by decide +kernel, rfl, by decide +kernel, by decide +kernel⟩

theorem d_is_pair (B : Bi mg) (D_is_tuple_of_P : Df P w K mg base 1 "is_tuple_of" ["value", "many"] sp_is_tuple_of_P) (D_is_first : Df P w K mg base 3 "is_first" ["table", "value"] sp_is_first) (D_is_second : Df P w K mg base 3 "is_second" ["table", "value"] sp_is_second) {f : Addr} {cdv : Value} {A : Around} {outer : List Env} {s : Shared} {H : Hp} {E : XK} (hr : Room 3 (A.deeper (envOfC "is_pair" (defScope s_is_pair) s.heap.objs.size f cdv))) :
    PSs (cxOf CX0 P w K mg base ["table", "value"] "is_pair" (defScope s_is_pair) f cdv A outer s H E).nox (defBody s_is_pair) (t_is_pair K sp_is_tuple_of_P sp_is_first sp_is_second) :=
  (pss_one (ps_ret (pe_and (pe_df D_is_tuple_of_P (hr.mono (by decide)) (by rfl) (pa_cons (pv 1) (pa_cons pe_int pa_nil))) (pe_and (pe_df D_is_first (hr.mono (by decide)) (by rfl) (pa_cons (pv 0) (pa_cons (pe_ix ix_tup (pv 1) pe_int (fun _ _ => rfl)) pa_nil))) (pe_one (pe_df D_is_second (hr.mono (by decide)) (by rfl) (pa_cons (pv 0) (pa_cons (pe_ix ix_tup (pv 1) pe_int (fun _ _ => rfl)) pa_nil))))))))

theorem ok_is_pair {f : Addr} {fd : FuncData} (F : Fun K "is_pair" "is_pair" s_is_pair f fd) (B : Bi mg) (D_is_tuple_of_P : Df P w K mg base 1 "is_tuple_of" ["value", "many"] sp_is_tuple_of_P) (D_is_first : Df P w K mg base 3 "is_first" ["table", "value"] sp_is_first) (D_is_second : Df P w K mg base 3 "is_second" ["table", "value"] sp_is_second) : FnOk P w K mg base CX0 4 f fd ["table", "value"] sp_is_pair :=
  Fun.okT F sc_is_pair len_is_pair (fun cdv A outer s H E hr => d_is_pair B D_is_tuple_of_P D_is_first D_is_second hr) sem_is_pair

theorem df_is_pair {f : Addr} {fd : FuncData} (F : Fun K "is_pair" "is_pair" s_is_pair f fd) (hm : mg "is_pair" = some (.ref f)) (B : Bi mg) (D_is_tuple_of_P : Df P w K mg base 1 "is_tuple_of" ["value", "many"] sp_is_tuple_of_P) (D_is_first : Df P w K mg base 3 "is_first" ["table", "value"] sp_is_first) (D_is_second : Df P w K mg base 3 "is_second" ["table", "value"] sp_is_second) : Df P w K mg base 4 "is_pair" ["table", "value"] sp_is_pair :=
  Df.of F (ok_is_pair F B D_is_tuple_of_P D_is_first D_is_second) hm (fun _ _ _ _ _ _ us hl => match us, hl with | [_, _], _ => rfl) (fun p hp => nomatch hp)

abbrev s_are_all_unlike : Stmt := topS 69

theorem sc_are_all_unlike : FnScope ["numbers", "number"] ["numbers"] (defScope s_are_all_unlike) := ⟨rfl, rfl, rfl, by decide +kernel, rfl, by decide +kernel, by decide +kernel⟩

theorem d_are_all_unlike (B : Bi mg) {f : Addr} {cdv : Value} {A : Around} {outer : List Env} {s : Shared} {H : Hp} {E : XK} (hr : Room 0 (A.deeper (envOfC "are_all_unlike" (defScope s_are_all_unlike) s.heap.objs.size f cdv))) :
    PSs (cxOf CX0 P w K mg base ["numbers", "number"] "are_all_unlike" (defScope s_are_all_unlike) f cdv A outer s H E).nox (defBody s_are_all_unlike) (t_are_all_unlike K) :=
  (pss_one (ps_ret (pe_cmpR op_eq (pe_callB call_lenD (by rfl) B.m_len (by decide +kernel) (pa_cons (pe_dc (own := [("number", 1)]) (g := (gName 1)) (tt := tYes) (tk := (tVar 1)) (tv := (tC (.bl true))) (by rfl) sc_are_all_unlike.nd (pi_list (pv 0)) (blkOk_by (N := ["numbers", "number"]) (sc := defScope s_are_all_unlike) (by decide +kernel)) (fun _ _ _ _ _ => (pg_name (i := 1) sc_are_all_unlike.nd rfl (Or.inl rfl))) (fun _ _ _ _ _ => pts_nil) (fun _ _ _ _ _ => (pv 1)) (fun _ _ _ _ _ => pe_bl)) pa_nil)) (pe_callB call_len_seq (by rfl) B.m_len (by decide +kernel) (pa_cons (pv 0) pa_nil)) (nomark _))))

theorem ok_are_all_unlike {f : Addr} {fd : FuncData} (F : Fun K "are_all_unlike" "are_all_unlike" s_are_all_unlike f fd) (B : Bi mg) : FnOk P w K mg base CX0 1 f fd ["numbers"] sp_are_all_unlike :=
  Fun.okT F sc_are_all_unlike len_are_all_unlike (fun cdv A outer s H E hr => d_are_all_unlike B hr) sem_are_all_unlike

theorem df_are_all_unlike {f : Addr} {fd : FuncData} (F : Fun K "are_all_unlike" "are_all_unlike" s_are_all_unlike f fd) (hm : mg "are_all_unlike" = some (.ref f)) (B : Bi mg) : Df P w K mg base 1 "are_all_unlike" ["numbers"] sp_are_all_unlike :=
  Df.of F (ok_are_all_unlike F B) hm (fun _ _ _ _ _ _ us hl => match us, hl with | [_], _ => rfl) (fun p hp => by cases hp; intros; rfl)

abbrev s_is_round_by : Stmt := topS 70

theorem sc_is_round_by : FnScope ["table", "value", "each", "first", "second"] ["table", "value"] (defScope s_is_round_by) := ⟨rfl, rfl, rfl, by decide +kernel, rfl, by decide +kernel, by decide +kernel⟩

theorem d_is_round_by (B : Bi mg) (D_is_pair : Df P w K mg base 4 "is_pair" ["table", "value"] sp_is_pair) (D_are_rising : Df P w K mg base 1 "are_rising" ["value"] sp_are_rising) (D_are_all_unlike : Df P w K mg base 1 "are_all_unlike" ["numbers"] sp_are_all_unlike) {f : Addr} {cdv : Value} {A : Around} {outer : List Env} {s : Shared} {H : Hp} {E : XK} (hr : Room 4 (A.deeper (envOfC "is_round_by" (defScope s_is_round_by) s.heap.objs.size f cdv))) :
    PSs (cxOf CX0 P w K mg base ["table", "value", "each", "first", "second"] "is_round_by" (defScope s_is_round_by) f cdv A outer s H E).nox (defBody s_is_round_by) (t_is_round_by K sp_is_pair sp_are_rising sp_are_all_unlike) :=
  (pss_cons (ps_if (PW.pt (pw_or (pt_not (pt_val (pe_callB call_isi (by rfl) B.m_isinstance (by decide +kernel) (pa_cons (pv 1) (pa_cons (pe_bltn (by rfl) B.m_tuple (by decide +kernel) rfl) pa_nil))))) (pw_or (pt_not (pt_val (pe_callB (cr_all (by rfl)) (by rfl) B.m_all (by decide +kernel) (pa_cons (pe_lc (own := [("each", 2)]) (g := (gName 2)) (tt := tYes) (te := (tCall sp_is_pair [] E0 (tCons (tVar 0) (tCons (tVar 2) tNil)))) (by rfl) sc_is_round_by.nd (pi_tup (pv 1)) (blkOk_by (N := ["table", "value", "each", "first", "second"]) (sc := defScope s_is_round_by) (by decide +kernel)) (fun _ _ _ _ _ => (pg_name (i := 2) sc_is_round_by.nd rfl (Or.inl rfl))) (fun _ _ _ _ _ => pts_nil) (fun _ _ _ _ _ => (pe_df D_is_pair (hr.mono (by decide)) (by rfl) (pa_cons (pv 0) (pa_cons (pv 2) pa_nil))))) pa_nil)))) (pw_or1 (pt_not (pt_val (pe_df D_are_rising (hr.mono (by decide)) (by rfl) (pa_cons (pv 1) pa_nil)))))))) (pss_one (ps_ret pe_bl)) pss_nil)
    (pss_one (ps_ret (pe_and (pe_df D_are_all_unlike (hr.mono (by decide)) (by rfl) (pa_cons (pe_lc (own := [("first", 3), ("second", 4)]) (g := (gTup K 2 (gCons (gName 3) (gCons (gName 4) gNil)))) (tt := tYes) (te := (tVar 3)) (by rfl) sc_is_round_by.nd (pi_tup (pv 1)) (blkOk_by (N := ["table", "value", "each", "first", "second"]) (sc := defScope s_is_round_by) (by decide +kernel)) (fun _ _ _ _ _ => (pg_tup (by rfl) (pgs_cons (pg_name (i := 3) sc_is_round_by.nd rfl (Or.inl rfl)) (pgs_cons (pg_name (i := 4) sc_is_round_by.nd rfl (Or.inl rfl)) pgs_nil)))) (fun _ _ _ _ _ => pts_nil) (fun _ _ _ _ _ => (pv 3))) pa_nil)) (pe_one (pe_df D_are_all_unlike (hr.mono (by decide)) (by rfl) (pa_cons (pe_lc (own := [("first", 3), ("second", 4)]) (g := (gTup K 2 (gCons (gName 3) (gCons (gName 4) gNil)))) (tt := tYes) (te := (tVar 4)) (by rfl) sc_is_round_by.nd (pi_tup (pv 1)) (blkOk_by (N := ["table", "value", "each", "first", "second"]) (sc := defScope s_is_round_by) (by decide +kernel)) (fun _ _ _ _ _ => (pg_tup (by rfl) (pgs_cons (pg_name (i := 3) sc_is_round_by.nd rfl (Or.inl rfl)) (pgs_cons (pg_name (i := 4) sc_is_round_by.nd rfl (Or.inl rfl)) pgs_nil)))) (fun _ _ _ _ _ => pts_nil) (fun _ _ _ _ _ => (pv 4))) pa_nil)))))))

theorem ok_is_round_by {f : Addr} {fd : FuncData} (F : Fun K "is_round_by" "is_round_by" s_is_round_by f fd) (B : Bi mg) (D_is_pair : Df P w K mg base 4 "is_pair" ["table", "value"] sp_is_pair) (D_are_rising : Df P w K mg base 1 "are_rising" ["value"] sp_are_rising) (D_are_all_unlike : Df P w K mg base 1 "are_all_unlike" ["numbers"] sp_are_all_unlike) : FnOk P w K mg base CX0 5 f fd ["table", "value"] sp_is_round_by :=
  Fun.okT F sc_is_round_by len_is_round_by (fun cdv A outer s H E hr => d_is_round_by B D_is_pair D_are_rising D_are_all_unlike hr) sem_is_round_by

theorem df_is_round_by {f : Addr} {fd : FuncData} (F : Fun K "is_round_by" "is_round_by" s_is_round_by f fd) (hm : mg "is_round_by" = some (.ref f)) (B : Bi mg) (D_is_pair : Df P w K mg base 4 "is_pair" ["table", "value"] sp_is_pair) (D_are_rising : Df P w K mg base 1 "are_rising" ["value"] sp_are_rising) (D_are_all_unlike : Df P w K mg base 1 "are_all_unlike" ["numbers"] sp_are_all_unlike) : Df P w K mg base 5 "is_round_by" ["table", "value"] sp_is_round_by :=
  Df.of F (ok_is_round_by F B D_is_pair D_are_rising D_are_all_unlike) hm (fun _ _ _ _ _ _ us hl => match us, hl with | [_, _], _ => rfl) (fun p hp => nomatch hp)

abbrev s_times_in : Stmt := topS 72

theorem sc_times_in : FnScope ["plan", "pair", "each"] ["plan", "pair"] (defScope s_times_in) := ⟨rfl, rfl, rfl, by decide +kernel, rfl, by decide +kernel, by decide +kernel⟩

theorem d_times_in (B : Bi mg) {f : Addr} {cdv : Value} {A : Around} {outer : List Env} {s : Shared} {H : Hp} {E : XK} (hr : Room 0 (A.deeper (envOfC "times_in" (defScope s_times_in) s.heap.objs.size f cdv))) :
    PSs (cxOf CX0 P w K mg base ["plan", "pair", "each"] "times_in" (defScope s_times_in) f cdv A outer s H E).nox (defBody s_times_in) (t_times_in K) :=
  (pss_one (ps_ret (pe_callB call_len_seq (by rfl) B.m_len (by decide +kernel) (pa_cons (pe_lc (own := [("each", 2)]) (g := (gName 2)) (tt := (tTest (tOp (rInT K false) (tVar 1) (tVar 2)))) (te := (tVar 2)) (by rfl) sc_times_in.nd (pi_tup (pv 0)) (blkOk_by (N := ["plan", "pair", "each"]) (sc := defScope s_times_in) (by decide +kernel)) (fun _ _ _ _ _ => (pg_name (i := 2) sc_times_in.nd rfl (Or.inl rfl))) (fun _ _ _ _ _ => (pts_one (pt_cmpR (op_inT (u65 hr)) (pv 1) (pv 2) (by rfl)))) (fun _ _ _ _ _ => (pv 2))) pa_nil))))

theorem ok_times_in {f : Addr} {fd : FuncData} (F : Fun K "times_in" "times_in" s_times_in f fd) (B : Bi mg) : FnOk P w K mg base CX0 1 f fd ["plan", "pair"] sp_times_in :=
  Fun.okT F sc_times_in len_times_in (fun cdv A outer s H E hr => d_times_in B hr) sem_times_in

theorem df_times_in {f : Addr} {fd : FuncData} (F : Fun K "times_in" "times_in" s_times_in f fd) (hm : mg "times_in" = some (.ref f)) (B : Bi mg) : Df P w K mg base 1 "times_in" ["plan", "pair"] sp_times_in :=
  Df.of F (ok_times_in F B) hm (fun _ _ _ _ _ _ us hl => match us, hl with | [_, _], _ => rfl) (fun p hp => nomatch hp)

abbrev s_is_plan_by : Stmt := topS 73

theorem sc_is_plan_by : FnScope ["table", "value", "each", "first", "second"] ["table", "value"] (defScope s_is_plan_by) := ⟨rfl, rfl, rfl, by decide +kernel, rfl, by decide +kernel, by decide +kernel⟩

theorem d_is_plan_by (B : Bi mg) (D_is_round_by : Df P w K mg base 5 "is_round_by" ["table", "value"] sp_is_round_by) (D_pairs_of : Df P w K mg base 2 "pairs_of" ["table"] sp_pairs_of) (D_times_in : Df P w K mg base 1 "times_in" ["plan", "pair"] sp_times_in) {f : Addr} {cdv : Value} {A : Around} {outer : List Env} {s : Shared} {H : Hp} {E : XK} (hr : Room 5 (A.deeper (envOfC "is_plan_by" (defScope s_is_plan_by) s.heap.objs.size f cdv))) :
    PSs (cxOf CX0 P w K mg base ["table", "value", "each", "first", "second"] "is_plan_by" (defScope s_is_plan_by) f cdv A outer s H E).nox (defBody s_is_plan_by) (t_is_plan_by K sp_is_round_by sp_pairs_of sp_times_in) :=
  (pss_cons (ps_if (PW.pt (pw_or (pt_not (pt_val (pe_callB call_isi (by rfl) B.m_isinstance (by decide +kernel) (pa_cons (pv 1) (pa_cons (pe_bltn (by rfl) B.m_tuple (by decide +kernel) rfl) pa_nil))))) (pw_or1 (pt_not (pt_val (pe_callB (cr_all (by rfl)) (by rfl) B.m_all (by decide +kernel) (pa_cons (pe_lc (own := [("each", 2)]) (g := (gName 2)) (tt := tYes) (te := (tCall sp_is_round_by [] E0 (tCons (tVar 0) (tCons (tVar 2) tNil)))) (by rfl) sc_is_plan_by.nd (pi_tup (pv 1)) (blkOk_by (N := ["table", "value", "each", "first", "second"]) (sc := defScope s_is_plan_by) (by decide +kernel)) (fun _ _ _ _ _ => (pg_name (i := 2) sc_is_plan_by.nd rfl (Or.inl rfl))) (fun _ _ _ _ _ => pts_nil) (fun _ _ _ _ _ => (pe_df D_is_round_by (hr.mono (by decide)) (by rfl) (pa_cons (pv 0) (pa_cons (pv 2) pa_nil))))) pa_nil))))))) (pss_one (ps_ret pe_bl)) pss_nil)
    (pss_one (ps_ret (pe_callB (cr_all (by rfl)) (by rfl) B.m_all (by decide +kernel) (pa_cons (pe_lc (own := [("first", 3), ("second", 4)]) (g := (gTup K 2 (gCons (gName 3) (gCons (gName 4) gNil)))) (tt := tYes) (te := (tOp rEq (tCall sp_times_in [] E0 (tCons (tVar 1) (tCons (tTup (tCons (tVar 3) (tCons (tVar 4) tNil))) tNil))) (tOp (rIxT K) (tOp (rIxT K) (tVar 0) (tVar 3)) (tVar 4)))) (by rfl) sc_is_plan_by.nd (pi_list (pe_df D_pairs_of (hr.mono (by decide)) (by rfl) (pa_cons (pv 0) pa_nil))) (blkOk_by (N := ["table", "value", "each", "first", "second"]) (sc := defScope s_is_plan_by) (by decide +kernel)) (fun _ _ _ _ _ => (pg_tup (by rfl) (pgs_cons (pg_name (i := 3) sc_is_plan_by.nd rfl (Or.inl rfl)) (pgs_cons (pg_name (i := 4) sc_is_plan_by.nd rfl (Or.inl rfl)) pgs_nil)))) (fun _ _ _ _ _ => pts_nil) (fun _ _ _ _ _ => (pe_cmpR op_eq (pe_df D_times_in (hr.mono (by decide)) (by rfl) (pa_cons (pv 1) (pa_cons (pe_tup (pa_cons (pv 3) (pa_cons (pv 4) pa_nil))) pa_nil))) (pe_ix ix_tup (pe_ix ix_tup (pv 0) (pv 3) (fun _ _ => rfl)) (pv 4) (fun _ _ => rfl)) (nomark _)))) pa_nil)))))

theorem ok_is_plan_by {f : Addr} {fd : FuncData} (F : Fun K "is_plan_by" "is_plan_by" s_is_plan_by f fd) (B : Bi mg) (D_is_round_by : Df P w K mg base 5 "is_round_by" ["table", "value"] sp_is_round_by) (D_pairs_of : Df P w K mg base 2 "pairs_of" ["table"] sp_pairs_of) (D_times_in : Df P w K mg base 1 "times_in" ["plan", "pair"] sp_times_in) : FnOk P w K mg base CX0 6 f fd ["table", "value"] sp_is_plan_by :=
  Fun.okT F sc_is_plan_by len_is_plan_by (fun cdv A outer s H E hr => d_is_plan_by B D_is_round_by D_pairs_of D_times_in hr) sem_is_plan_by

theorem df_is_plan_by {f : Addr} {fd : FuncData} (F : Fun K "is_plan_by" "is_plan_by" s_is_plan_by f fd) (hm : mg "is_plan_by" = some (.ref f)) (B : Bi mg) (D_is_round_by : Df P w K mg base 5 "is_round_by" ["table", "value"] sp_is_round_by) (D_pairs_of : Df P w K mg base 2 "pairs_of" ["table"] sp_pairs_of) (D_times_in : Df P w K mg base 1 "times_in" ["plan", "pair"] sp_times_in) : Df P w K mg base 6 "is_plan_by" ["table", "value"] sp_is_plan_by :=
  Df.of F (ok_is_plan_by F B D_is_round_by D_pairs_of D_times_in) hm (fun _ _ _ _ _ _ us hl => match us, hl with | [_, _], _ => rfl) (fun p hp => nomatch hp)

abbrev s_check_table : Stmt := topS 75

theorem sc_check_table : FnScope ["value", "index"] ["value"] (defScope s_check_table) := ⟨rfl, rfl, rfl, by decide +kernel, rfl, by decide +kernel, by decide +kernel⟩

theorem d_check_table (B : Bi mg) (D_wrong_in_table : Df P w K mg base 5 "wrong_in_table" ["value"] sp_wrong_in_table) {f : Addr} {cdv : Value} {A : Around} {outer : List Env} {s : Shared} {H : Hp} {E : XK} (hr : Room 5 (A.deeper (envOfC "check_table" (defScope s_check_table) s.heap.objs.size f cdv))) :
    PSs (cxOf CX0 P w K mg base ["value", "index"] "check_table" (defScope s_check_table) f cdv A outer s H E).nox (defBody s_check_table) (t_check_table K sp_wrong_in_table) :=
  (pss_one (ps_for PassesOwn.never (by rfl) (pi_list (pe_df D_wrong_in_table (hr.mono (by decide)) (by rfl) (pa_cons (pv 0) pa_nil))) (pg_name (i := 1) sc_check_table.nd rfl (Or.inl rfl)) (pss_one ps_never)))

theorem ok_check_table {f : Addr} {fd : FuncData} (F : Fun K "check_table" "check_table" s_check_table f fd) (B : Bi mg) (D_wrong_in_table : Df P w K mg base 5 "wrong_in_table" ["value"] sp_wrong_in_table) : FnOk P w K mg base CX0 6 f fd ["value"] sp_check_table :=
  Fun.okT F sc_check_table len_check_table (fun cdv A outer s H E hr => d_check_table B D_wrong_in_table hr) sem_check_table

theorem df_check_table {f : Addr} {fd : FuncData} (F : Fun K "check_table" "check_table" s_check_table f fd) (hm : mg "check_table" = some (.ref f)) (B : Bi mg) (D_wrong_in_table : Df P w K mg base 5 "wrong_in_table" ["value"] sp_wrong_in_table) : Df P w K mg base 6 "check_table" ["value"] sp_check_table :=
  Df.of F (ok_check_table F B D_wrong_in_table) hm (fun _ _ _ _ _ _ us hl => match us, hl with | [_], _ => rfl) (fun p hp => by cases hp; intros; rfl)

abbrev s_check_plan : Stmt := topS 76

theorem sc_check_plan : FnScope ["table", "value"] ["table", "value"] (defScope s_check_plan) := ⟨rfl, rfl, rfl, by decide +kernel, rfl, by decide +kernel, by decide +kernel⟩

theorem d_check_plan (B : Bi mg) (D_is_plan_by : Df P w K mg base 6 "is_plan_by" ["table", "value"] sp_is_plan_by) {f : Addr} {cdv : Value} {A : Around} {outer : List Env} {s : Shared} {H : Hp} {E : XK} (hr : Room 6 (A.deeper (envOfC "check_plan" (defScope s_check_plan) s.heap.objs.size f cdv))) :
    PSs (cxOf CX0 P w K mg base ["table", "value"] "check_plan" (defScope s_check_plan) f cdv A outer s H E).nox (defBody s_check_plan) (t_check_plan K sp_is_plan_by) :=
  (pss_one (ps_if (pt_not (pt_val (pe_df D_is_plan_by (hr.mono (by decide)) (by rfl) (pa_cons (pv 0) (pa_cons (pv 1) pa_nil))))) (pss_one ps_never) pss_nil))

theorem ok_check_plan {f : Addr} {fd : FuncData} (F : Fun K "check_plan" "check_plan" s_check_plan f fd) (B : Bi mg) (D_is_plan_by : Df P w K mg base 6 "is_plan_by" ["table", "value"] sp_is_plan_by) : FnOk P w K mg base CX0 7 f fd ["table", "value"] sp_check_plan :=
  Fun.okT F sc_check_plan len_check_plan (fun cdv A outer s H E hr => d_check_plan B D_is_plan_by hr) sem_check_plan

theorem df_check_plan {f : Addr} {fd : FuncData} (F : Fun K "check_plan" "check_plan" s_check_plan f fd) (hm : mg "check_plan" = some (.ref f)) (B : Bi mg) (D_is_plan_by : Df P w K mg base 6 "is_plan_by" ["table", "value"] sp_is_plan_by) : Df P w K mg base 7 "check_plan" ["table", "value"] sp_check_plan :=
  Df.of F (ok_check_plan F B D_is_plan_by) hm (fun _ _ _ _ _ _ us hl => match us, hl with | [_, _], _ => rfl) (fun p hp => nomatch hp)

abbrev s_check_times : Stmt := topS 77

theorem sc_check_times : FnScope ["value", "low", "high"] ["value", "low", "high"] (defScope s_check_times) := ⟨rfl, rfl, rfl, by decide +kernel, rfl, by decide +kernel, by decide +kernel⟩

theorem d_check_times (B : Bi mg) (D_is_between : Df P w K mg base 2 "is_between" ["value", "low", "high"] sp_is_between) {f : Addr} {cdv : Value} {A : Around} {outer : List Env} {s : Shared} {H : Hp} {E : XK} (hr : Room 2 (A.deeper (envOfC "check_times" (defScope s_check_times) s.heap.objs.size f cdv))) :
    PSs (cxOf CX0 P w K mg base ["value", "low", "high"] "check_times" (defScope s_check_times) f cdv A outer s H E).nox (defBody s_check_times) (t_check_times K sp_is_between) :=
  (pss_one (ps_if (pt_not (pt_val (pe_df D_is_between (hr.mono (by decide)) (by rfl) (pa_cons (pv 0) (pa_cons (pv 1) (pa_cons (pv 2) pa_nil)))))) (pss_one ps_never) pss_nil))

theorem ok_check_times {f : Addr} {fd : FuncData} (F : Fun K "check_times" "check_times" s_check_times f fd) (B : Bi mg) (D_is_between : Df P w K mg base 2 "is_between" ["value", "low", "high"] sp_is_between) : FnOk P w K mg base CX0 3 f fd ["value", "low", "high"] sp_check_times :=
  Fun.okT F sc_check_times len_check_times (fun cdv A outer s H E hr => d_check_times B D_is_between hr) sem_check_times

theorem df_check_times {f : Addr} {fd : FuncData} (F : Fun K "check_times" "check_times" s_check_times f fd) (hm : mg "check_times" = some (.ref f)) (B : Bi mg) (D_is_between : Df P w K mg base 2 "is_between" ["value", "low", "high"] sp_is_between) : Df P w K mg base 3 "check_times" ["value", "low", "high"] sp_check_times :=
  Df.of F (ok_check_times F B D_is_between) hm (fun _ _ _ _ _ _ us hl => match us, hl with | [_, _, _], _ => rfl) (fun p hp => nomatch hp)

abbrev s_is_plan : Stmt := topS 79

theorem sc_is_plan : FnScope ["table", "value"] ["table", "value"] (defScope s_is_plan) := ⟨rfl, rfl, rfl, by decide +kernel, rfl, by decide +kernel, by decide +kernel⟩

theorem d_is_plan (B : Bi mg) (D_check_table : Df P w K mg base 6 "check_table" ["value"] sp_check_table) (D_is_plan_by : Df P w K mg base 6 "is_plan_by" ["table", "value"] sp_is_plan_by) {f : Addr} {cdv : Value} {A : Around} {outer : List Env} {s : Shared} {H : Hp} {E : XK} (hr : Room 6 (A.deeper (envOfC "is_plan" (defScope s_is_plan) s.heap.objs.size f cdv))) :
    PSs (cxOf CX0 P w K mg base ["table", "value"] "is_plan" (defScope s_is_plan) f cdv A outer s H E).nox (defBody s_is_plan) (t_is_plan K sp_check_table sp_is_plan_by) :=
  (pss_cons (ps_expr (pe_df D_check_table (hr.mono (by decide)) (by rfl) (pa_cons (pv 0) pa_nil)))
    (pss_one (ps_ret (pe_df D_is_plan_by (hr.mono (by decide)) (by rfl) (pa_cons (pv 0) (pa_cons (pv 1) pa_nil))))))

theorem ok_is_plan {f : Addr} {fd : FuncData} (F : Fun K "is_plan" "is_plan" s_is_plan f fd) (B : Bi mg) (D_check_table : Df P w K mg base 6 "check_table" ["value"] sp_check_table) (D_is_plan_by : Df P w K mg base 6 "is_plan_by" ["table", "value"] sp_is_plan_by) : FnOk P w K mg base CX0 7 f fd ["table", "value"] sp_is_plan :=
  Fun.okT F sc_is_plan len_is_plan (fun cdv A outer s H E hr => d_is_plan B D_check_table D_is_plan_by hr) sem_is_plan

theorem df_is_plan {f : Addr} {fd : FuncData} (F : Fun K "is_plan" "is_plan" s_is_plan f fd) (hm : mg "is_plan" = some (.ref f)) (B : Bi mg) (D_check_table : Df P w K mg base 6 "check_table" ["value"] sp_check_table) (D_is_plan_by : Df P w K mg base 6 "is_plan_by" ["table", "value"] sp_is_plan_by) : Df P w K mg base 7 "is_plan" ["table", "value"] sp_is_plan :=
  Df.of F (ok_is_plan F B D_check_table D_is_plan_by) hm (fun _ _ _ _ _ _ us hl => match us, hl with | [_, _], _ => rfl) (fun p hp => nomatch hp)

abbrev s_check_planned : Stmt := topS 80

theorem sc_check_planned : FnScope ["table", "plan"] ["table", "plan"] (defScope s_check_planned) := ⟨rfl, rfl, rfl, by decide +kernel, rfl, by decide +kernel, by decide +kernel⟩

theorem d_check_planned (B : Bi mg) (D_check_table : Df P w K mg base 6 "check_table" ["value"] sp_check_table) (D_check_plan : Df P w K mg base 7 "check_plan" ["table", "value"] sp_check_plan) {f : Addr} {cdv : Value} {A : Around} {outer : List Env} {s : Shared} {H : Hp} {E : XK} (hr : Room 7 (A.deeper (envOfC "check_planned" (defScope s_check_planned) s.heap.objs.size f cdv))) :
    PSs (cxOf CX0 P w K mg base ["table", "plan"] "check_planned" (defScope s_check_planned) f cdv A outer s H E).nox (defBody s_check_planned) (t_check_planned K sp_check_table sp_check_plan) :=
  (pss_cons (ps_expr (pe_df D_check_table (hr.mono (by decide)) (by rfl) (pa_cons (pv 0) pa_nil)))
    (pss_one (ps_expr (pe_df D_check_plan (hr.mono (by decide)) (by rfl) (pa_cons (pv 0) (pa_cons (pv 1) pa_nil))))))

theorem ok_check_planned {f : Addr} {fd : FuncData} (F : Fun K "check_planned" "check_planned" s_check_planned f fd) (B : Bi mg) (D_check_table : Df P w K mg base 6 "check_table" ["value"] sp_check_table) (D_check_plan : Df P w K mg base 7 "check_plan" ["table", "value"] sp_check_plan) : FnOk P w K mg base CX0 8 f fd ["table", "plan"] sp_check_planned :=
  Fun.okT F sc_check_planned len_check_planned (fun cdv A outer s H E hr => d_check_planned B D_check_table D_check_plan hr) sem_check_planned

theorem df_check_planned {f : Addr} {fd : FuncData} (F : Fun K "check_planned" "check_planned" s_check_planned f fd) (hm : mg "check_planned" = some (.ref f)) (B : Bi mg) (D_check_table : Df P w K mg base 6 "check_table" ["value"] sp_check_table) (D_check_plan : Df P w K mg base 7 "check_plan" ["table", "value"] sp_check_plan) : Df P w K mg base 8 "check_planned" ["table", "plan"] sp_check_planned :=
  Df.of F (ok_check_planned F B D_check_table D_check_plan) hm (fun _ _ _ _ _ _ us hl => match us, hl with | [_, _], _ => rfl) (fun p hp => nomatch hp)

abbrev s_check_two : Stmt := topS 82

theorem sc_check_two : FnScope ["table", "plan", "one", "two"] ["table", "plan", "one", "two"] (defScope s_check_two) := ⟨rfl, rfl, rfl, by decide +kernel, rfl, by decide +kernel, by decide +kernel⟩

theorem d_check_two (B : Bi mg) (D_check_planned : Df P w K mg base 8 "check_planned" ["table", "plan"] sp_check_planned) (D_check_times : Df P w K mg base 3 "check_times" ["value", "low", "high"] sp_check_times) {f : Addr} {cdv : Value} {A : Around} {outer : List Env} {s : Shared} {H : Hp} {E : XK} (hr : Room 8 (A.deeper (envOfC "check_two" (defScope s_check_two) s.heap.objs.size f cdv))) :
    PSs (cxOf CX0 P w K mg base ["table", "plan", "one", "two"] "check_two" (defScope s_check_two) f cdv A outer s H E).nox (defBody s_check_two) (t_check_two K sp_check_planned sp_check_times) :=
  (pss_cons (ps_expr (pe_df D_check_planned (hr.mono (by decide)) (by rfl) (pa_cons (pv 0) (pa_cons (pv 1) pa_nil))))
    (pss_cons (ps_expr (pe_df D_check_times (hr.mono (by decide)) (by rfl) (pa_cons (pv 2) (pa_cons pe_int (pa_cons (pe_op op_sub (pe_callB call_len_seq (by rfl) B.m_len (by decide +kernel) (pa_cons (pv 1) pa_nil)) pe_int) pa_nil)))))
    (pss_cons (ps_expr (pe_df D_check_times (hr.mono (by decide)) (by rfl) (pa_cons (pv 3) (pa_cons pe_int (pa_cons (pe_op op_sub (pe_callB call_len_seq (by rfl) B.m_len (by decide +kernel) (pa_cons (pv 1) pa_nil)) pe_int) pa_nil)))))
    (pss_one (ps_if (pt_cmpR op_eq (pv 2) (pv 3) (nomark _)) (pss_one ps_never) pss_nil)))))

theorem ok_check_two {f : Addr} {fd : FuncData} (F : Fun K "check_two" "check_two" s_check_two f fd) (B : Bi mg) (D_check_planned : Df P w K mg base 8 "check_planned" ["table", "plan"] sp_check_planned) (D_check_times : Df P w K mg base 3 "check_times" ["value", "low", "high"] sp_check_times) : FnOk P w K mg base CX0 9 f fd ["table", "plan", "one", "two"] sp_check_two :=
  Fun.okT F sc_check_two len_check_two (fun cdv A outer s H E hr => d_check_two B D_check_planned D_check_times hr) sem_check_two

theorem df_check_two {f : Addr} {fd : FuncData} (F : Fun K "check_two" "check_two" s_check_two f fd) (hm : mg "check_two" = some (.ref f)) (B : Bi mg) (D_check_planned : Df P w K mg base 8 "check_planned" ["table", "plan"] sp_check_planned) (D_check_times : Df P w K mg base 3 "check_times" ["value", "low", "high"] sp_check_times) : Df P w K mg base 9 "check_two" ["table", "plan", "one", "two"] sp_check_two :=
  Df.of F (ok_check_two F B D_check_planned D_check_times) hm (fun _ _ _ _ _ _ us hl => match us, hl with | [_, _, _, _], _ => rfl) (fun p hp => nomatch hp)

abbrev s_chains : Stmt := topS 83

theorem sc_chains : FnScope ["table", "plan", "one", "two"] ["table", "plan", "one", "two"] (defScope s_chains) := ⟨rfl, rfl, rfl, by decide +kernel, rfl, by decide +kernel, by decide +kernel⟩

theorem d_chains (B : Bi mg) (D_check_two : Df P w K mg base 9 "check_two" ["table", "plan", "one", "two"] sp_check_two) (D_chains_by : Df P w K mg base 3 "chains_by" ["plan", "one", "two"] sp_chains_by) {f : Addr} {cdv : Value} {A : Around} {outer : List Env} {s : Shared} {H : Hp} {E : XK} (hr : Room 9 (A.deeper (envOfC "chains" (defScope s_chains) s.heap.objs.size f cdv))) :
    PSs (cxOf CX0 P w K mg base ["table", "plan", "one", "two"] "chains" (defScope s_chains) f cdv A outer s H E).nox (defBody s_chains) (t_chains K sp_check_two sp_chains_by) :=
  (pss_cons (ps_expr (pe_df D_check_two (hr.mono (by decide)) (by rfl) (pa_cons (pv 0) (pa_cons (pv 1) (pa_cons (pv 2) (pa_cons (pv 3) pa_nil))))))
    (pss_one (ps_ret (pe_df D_chains_by (hr.mono (by decide)) (by rfl) (pa_cons (pv 1) (pa_cons (pv 2) (pa_cons (pv 3) pa_nil)))))))

theorem ok_chains {f : Addr} {fd : FuncData} (F : Fun K "chains" "chains" s_chains f fd) (B : Bi mg) (D_check_two : Df P w K mg base 9 "check_two" ["table", "plan", "one", "two"] sp_check_two) (D_chains_by : Df P w K mg base 3 "chains_by" ["plan", "one", "two"] sp_chains_by) : FnOk P w K mg base CX0 10 f fd ["table", "plan", "one", "two"] sp_chains :=
  Fun.okT F sc_chains len_chains (fun cdv A outer s H E hr => d_chains B D_check_two D_chains_by hr) sem_chains

theorem df_chains {f : Addr} {fd : FuncData} (F : Fun K "chains" "chains" s_chains f fd) (hm : mg "chains" = some (.ref f)) (B : Bi mg) (D_check_two : Df P w K mg base 9 "check_two" ["table", "plan", "one", "two"] sp_check_two) (D_chains_by : Df P w K mg base 3 "chains_by" ["plan", "one", "two"] sp_chains_by) : Df P w K mg base 10 "chains" ["table", "plan", "one", "two"] sp_chains :=
  Df.of F (ok_chains F B D_check_two D_chains_by) hm (fun _ _ _ _ _ _ us hl => match us, hl with | [_, _, _, _], _ => rfl) (fun p hp => nomatch hp)

abbrev s_is_chain : Stmt := topS 84

theorem sc_is_chain : FnScope ["plan", "one", "two", "value", "chain"] ["plan", "one", "two", "value"] (defScope s_is_chain) := ⟨rfl, rfl, rfl, by decide +kernel, rfl, by decide +kernel, by decide +kernel⟩

theorem d_is_chain (B : Bi mg) (c_repr : mg "repr" = none) (D_chains_by : Df P w K mg base 3 "chains_by" ["plan", "one", "two"] sp_chains_by) {f : Addr} {cdv : Value} {A : Around} {outer : List Env} {s : Shared} {H : Hp} {E : XK} (hG : RoomG 3 (A.deeper (envOfC "is_chain" (defScope s_is_chain) s.heap.objs.size f cdv))) :
    PSs (cxOf CX0 P w K mg base ["plan", "one", "two", "value", "chain"] "is_chain" (defScope s_is_chain) f cdv A outer s H E).nox (defBody s_is_chain) (t_is_chain K sp_chains_by) :=
  have hr := hG.room; (pss_one (ps_ret (pe_callB (cr_any (by rfl)) (by rfl) B.m_any (by decide +kernel) (pa_cons (pe_lc (own := [("chain", 4)]) (g := (gName 4)) (tt := tYes) (te := (tOp rEq (tCB (rRepr K) (tCons (tVar 3) tNil)) (tCB (rRepr K) (tCons (tVar 4) tNil)))) (by rfl) sc_is_chain.nd (pi_tup (pe_df D_chains_by (hr.mono (by decide)) (by rfl) (pa_cons (pv 0) (pa_cons (pv 1) (pa_cons (pv 2) pa_nil))))) (blkOk_by (N := ["plan", "one", "two", "value", "chain"]) (sc := defScope s_is_chain) (by decide +kernel)) (fun _ _ _ _ _ => (pg_name (i := 4) sc_is_chain.nd rfl (Or.inl rfl))) (fun _ _ _ _ _ => pts_nil) (fun _ _ _ _ _ => (pe_cmpR op_eq (pe_callB (cr_repr hG.free hr.units) (by rfl) c_repr (by decide +kernel) (pa_cons (pv 3) pa_nil)) (pe_callB (cr_repr hG.free hr.units) (by rfl) c_repr (by decide +kernel) (pa_cons (pv 4) pa_nil)) (nomark _)))) pa_nil))))

theorem ok_is_chain {f : Addr} {fd : FuncData} (F : Fun K "is_chain" "is_chain" s_is_chain f fd) (B : Bi mg) (c_repr : mg "repr" = none) (D_chains_by : Df P w K mg base 3 "chains_by" ["plan", "one", "two"] sp_chains_by) : FnG P w K mg base 4 f fd ["plan", "one", "two", "value"] sp_is_chain :=
  Fun.okG F sc_is_chain len_is_chain (fun cdv A outer s H E hr => d_is_chain B c_repr D_chains_by hr) sem_is_chain

theorem df_is_chain {f : Addr} {fd : FuncData} (F : Fun K "is_chain" "is_chain" s_is_chain f fd) (hm : mg "is_chain" = some (.ref f)) (B : Bi mg) (c_repr : mg "repr" = none) (D_chains_by : Df P w K mg base 3 "chains_by" ["plan", "one", "two"] sp_chains_by) : DfG P w K mg base 4 "is_chain" ["plan", "one", "two", "value"] sp_is_chain :=
  DfG.of F (ok_is_chain F B c_repr D_chains_by) hm (fun _ _ _ _ _ _ us hl => match us, hl with | [_, _, _, _], _ => rfl)

abbrev s_exchanged : Stmt := topS 85

theorem sc_exchanged : FnScope ["table", "plan", "one", "two", "chain"] ["table", "plan", "one", "two", "chain"] (defScope s_exchanged) := ⟨rfl, rfl, rfl, by decide +kernel, rfl, by decide +kernel, by decide +kernel⟩

theorem d_exchanged (B : Bi mg) (D_check_two : Df P w K mg base 9 "check_two" ["table", "plan", "one", "two"] sp_check_two) (D_is_chain : DfG P w K mg base 4 "is_chain" ["plan", "one", "two", "value"] sp_is_chain) (D_exchanged_by : Df P w K mg base 2 "exchanged_by" ["plan", "one", "two", "chain"] sp_exchanged_by) {f : Addr} {cdv : Value} {A : Around} {outer : List Env} {s : Shared} {H : Hp} {E : XK} (hG : RoomG 9 (A.deeper (envOfC "exchanged" (defScope s_exchanged) s.heap.objs.size f cdv))) :
    PSs (cxOf CX0 P w K mg base ["table", "plan", "one", "two", "chain"] "exchanged" (defScope s_exchanged) f cdv A outer s H E).nox (defBody s_exchanged) (t_exchanged K sp_check_two sp_is_chain sp_exchanged_by) :=
  have hr := hG.room; (pss_cons (ps_expr (pe_df D_check_two (hr.mono (by decide)) (by rfl) (pa_cons (pv 0) (pa_cons (pv 1) (pa_cons (pv 2) (pa_cons (pv 3) pa_nil))))))
    (pss_cons (ps_if (pt_not (pt_val (pe_dfG D_is_chain (hG.mono (by decide)) (by rfl) (pa_cons (pv 1) (pa_cons (pv 2) (pa_cons (pv 3) (pa_cons (pv 4) pa_nil))))))) (pss_one ps_never) pss_nil)
    (pss_one (ps_ret (pe_df D_exchanged_by (hr.mono (by decide)) (by rfl) (pa_cons (pv 1) (pa_cons (pv 2) (pa_cons (pv 3) (pa_cons (pv 4) pa_nil)))))))))

theorem ok_exchanged {f : Addr} {fd : FuncData} (F : Fun K "exchanged" "exchanged" s_exchanged f fd) (B : Bi mg) (D_check_two : Df P w K mg base 9 "check_two" ["table", "plan", "one", "two"] sp_check_two) (D_is_chain : DfG P w K mg base 4 "is_chain" ["plan", "one", "two", "value"] sp_is_chain) (D_exchanged_by : Df P w K mg base 2 "exchanged_by" ["plan", "one", "two", "chain"] sp_exchanged_by) : FnG P w K mg base 10 f fd ["table", "plan", "one", "two", "chain"] sp_exchanged :=
  Fun.okG F sc_exchanged len_exchanged (fun cdv A outer s H E hr => d_exchanged B D_check_two D_is_chain D_exchanged_by hr) sem_exchanged

theorem df_exchanged {f : Addr} {fd : FuncData} (F : Fun K "exchanged" "exchanged" s_exchanged f fd) (hm : mg "exchanged" = some (.ref f)) (B : Bi mg) (D_check_two : Df P w K mg base 9 "check_two" ["table", "plan", "one", "two"] sp_check_two) (D_is_chain : DfG P w K mg base 4 "is_chain" ["plan", "one", "two", "value"] sp_is_chain) (D_exchanged_by : Df P w K mg base 2 "exchanged_by" ["plan", "one", "two", "chain"] sp_exchanged_by) : DfG P w K mg base 10 "exchanged" ["table", "plan", "one", "two", "chain"] sp_exchanged :=
  DfG.of F (ok_exchanged F B D_check_two D_is_chain D_exchanged_by) hm (fun _ _ _ _ _ _ us hl => match us, hl with | [_, _, _, _, _], _ => rfl)

abbrev s_without_own : Stmt := topS 91

theorem sc_without_own : FnScope ["ways", "found", "marks", "many", "cleared", "mark"] ["ways"] (defScope s_without_own) := ⟨rfl, rfl, rfl, by decide +kernel, rfl, by decide +kernel, by decide +kernel⟩

theorem d_without_own (B : Bi mg) (c_OWN : ∃ t, mg "OWN" = some (.int 64 t)) {f : Addr} {cdv : Value} {A : Around} {outer : List Env} {s : Shared} {H : Hp} {E : XK} (hr : Room 0 (A.deeper (envOfC "without_own" (defScope s_without_own) s.heap.objs.size f cdv))) :
    PSs (cxOf CX0 P w K mg base ["ways", "found", "marks", "many", "cleared", "mark"] "without_own" (defScope s_without_own) f cdv A outer s H E).nox (defBody s_without_own) (t_without_own K) :=
  (pss_cons (ps_set (i := 1) sc_without_own.nd rfl (.inl rfl) pe_dnewT)
    (pss_cons (ps_lock (ps_for PassesOwn.never (by rfl) (pi_itemsT (pv 0)) (pg_tup (by rfl) (pgs_cons (pg_name (i := 2) sc_without_own.nd rfl (Or.inl rfl)) (pgs_cons (pg_name (i := 3) sc_without_own.nd rfl (Or.inl rfl)) pgs_nil))) (pss_cons (ps_set (i := 4) sc_without_own.nd rfl (.inl rfl) (pe_callTy call_tuple_of (by rfl) B.m_tuple (by decide +kernel) (pa_cons (pe_callB cr_sortedI (by rfl) B.m_sorted (by decide +kernel) (pa_cons (pe_lc (own := [("mark", 5)]) (g := (gName 5)) (tt := tYes) (te := (tOp oAnd (tVar 5) (tOp oSub (tC (.int 64)) (tC (.int 1))))) (by rfl) sc_without_own.nd (pi_tup (pv 2)) (blkOk_by (N := ["ways", "found", "marks", "many", "cleared", "mark"]) (sc := defScope s_without_own) (by decide +kernel)) (fun _ _ _ _ _ => (pg_name (i := 5) sc_without_own.nd rfl (Or.inl rfl))) (fun _ _ _ _ _ => pts_nil) (fun _ _ _ _ _ => (pe_op op_and (pv 5) (pe_op op_sub (pe_glob (by rfl) c_OWN.choose_spec ⟨_, rfl⟩) pe_int)))) pa_nil)) pa_nil)))
    (pss_one (ps_dput (hu_of hr) (pv 1) (pv 4) (pe_op op_add (pe_dget2 (hu_of hr) (pv 1) (pv 4) pe_int ⟨rfl, rfl, rfl, rfl⟩) (pv 3)) rfl)))))
    (pss_one (ps_ret (pv 1)))))

theorem ok_without_own {f : Addr} {fd : FuncData} (F : Fun K "without_own" "without_own" s_without_own f fd) (B : Bi mg) (c_OWN : ∃ t, mg "OWN" = some (.int 64 t)) : FnOk P w K mg base CX0 1 f fd ["ways"] sp_without_own :=
  Fun.okT F sc_without_own len_without_own (fun cdv A outer s H E hr => d_without_own B c_OWN hr) sem_without_own

theorem df_without_own {f : Addr} {fd : FuncData} (F : Fun K "without_own" "without_own" s_without_own f fd) (hm : mg "without_own" = some (.ref f)) (B : Bi mg) (c_OWN : ∃ t, mg "OWN" = some (.int 64 t)) : Df P w K mg base 1 "without_own" ["ways"] sp_without_own :=
  Df.of F (ok_without_own F B c_OWN) hm (fun _ _ _ _ _ _ us hl => match us, hl with | [_], _ => rfl) (fun p hp => by cases hp; intros; rfl)

abbrev s_laid_into : Stmt := topS 92

theorem sc_laid_into : FnScope ["marks", "index", "second"] ["marks", "index", "second"] (defScope s_laid_into) := ⟨rfl, rfl, rfl, by decide +kernel, rfl, by decide +kernel, by decide +kernel⟩

theorem d_laid_into (B : Bi mg) (c_OWN : ∃ t, mg "OWN" = some (.int 64 t)) {f : Addr} {cdv : Value} {A : Around} {outer : List Env} {s : Shared} {H : Hp} {E : XK} (hr : Room 0 (A.deeper (envOfC "laid_into" (defScope s_laid_into) s.heap.objs.size f cdv))) :
    PSs (cxOf CX0 P w K mg base ["marks", "index", "second"] "laid_into" (defScope s_laid_into) f cdv A outer s H E).nox (defBody s_laid_into) (t_laid_into K) :=
  (pss_one (ps_ret (pe_callTy call_tuple_of (by rfl) B.m_tuple (by decide +kernel) (pa_cons (pe_callB cr_sortedI (by rfl) B.m_sorted (by decide +kernel) (pa_cons (pe_lst (pa_star (pe_slice sl_tupA (pv 0) po_none (po_some (pv 1))) (pa_cons (pe_op op_or (pe_op op_or (pe_ix ix_tup (pv 0) (pv 1) (fun _ _ => rfl)) (pe_op op_shl pe_int (pv 2))) (pe_glob (by rfl) c_OWN.choose_spec ⟨_, rfl⟩)) (pa_star (pe_slice sl_tupA (pv 0) (po_some (pe_op op_add (pv 1) pe_int)) po_none) pa_nil)))) pa_nil)) pa_nil))))

theorem ok_laid_into {f : Addr} {fd : FuncData} (F : Fun K "laid_into" "laid_into" s_laid_into f fd) (B : Bi mg) (c_OWN : ∃ t, mg "OWN" = some (.int 64 t)) : FnOk P w K mg base CX0 1 f fd ["marks", "index", "second"] sp_laid_into :=
  Fun.okT F sc_laid_into len_laid_into (fun cdv A outer s H E hr => d_laid_into B c_OWN hr) sem_laid_into

theorem df_laid_into {f : Addr} {fd : FuncData} (F : Fun K "laid_into" "laid_into" s_laid_into f fd) (hm : mg "laid_into" = some (.ref f)) (B : Bi mg) (c_OWN : ∃ t, mg "OWN" = some (.int 64 t)) : Df P w K mg base 1 "laid_into" ["marks", "index", "second"] sp_laid_into :=
  Df.of F (ok_laid_into F B c_OWN) hm (fun _ _ _ _ _ _ us hl => match us, hl with | [_, _, _], _ => rfl) (fun p hp => nomatch hp)

abbrev s_with_second : Stmt := topS 93

theorem sc_with_second : FnScope ["ways", "second", "found", "marks", "many", "index", "mark", "more"] ["ways", "second"] (defScope s_with_second) := ⟨rfl, rfl, rfl, by decide +kernel, rfl, by decide +kernel, by decide +kernel⟩

theorem d_with_second (B : Bi mg) (c_OWN : ∃ t, mg "OWN" = some (.int 64 t)) (D_laid_into : Df P w K mg base 1 "laid_into" ["marks", "index", "second"] sp_laid_into) {f : Addr} {cdv : Value} {A : Around} {outer : List Env} {s : Shared} {H : Hp} {E : XK} (hr : Room 1 (A.deeper (envOfC "with_second" (defScope s_with_second) s.heap.objs.size f cdv))) :
    PSs (cxOf CX0 P w K mg base ["ways", "second", "found", "marks", "many", "index", "mark", "more"] "with_second" (defScope s_with_second) f cdv A outer s H E).nox (defBody s_with_second) (t_with_second K sp_laid_into) :=
  (pss_cons (ps_set (i := 2) sc_with_second.nd rfl (.inl rfl) pe_dnewT)
    (pss_cons (ps_lock (ps_for PassesOwn.never (by rfl) (pi_itemsT (pv 0)) (pg_tup (by rfl) (pgs_cons (pg_name (i := 3) sc_with_second.nd rfl (Or.inl rfl)) (pgs_cons (pg_name (i := 4) sc_with_second.nd rfl (Or.inl rfl)) pgs_nil))) (pss_one (ps_for PassesOwn.never (by rfl) (pi_enumT (by rfl) B.m_enumerate (pa_cons (pv 3) pa_nil)) (pg_tup (by rfl) (pgs_cons (pg_name (i := 5) sc_with_second.nd rfl (Or.inl rfl)) (pgs_cons (pg_name (i := 6) sc_with_second.nd rfl (Or.inl rfl)) pgs_nil))) (pss_one (ps_if (pt_cmpR op_eq (pe_op op_and (pv 6) (pe_op op_or (pe_op op_shl pe_int (pv 1)) (pe_glob (by rfl) c_OWN.choose_spec ⟨_, rfl⟩))) pe_int (nomark _)) (pss_cons (ps_set (i := 7) sc_with_second.nd rfl (.inl rfl) (pe_df D_laid_into (hr.mono (by decide)) (by rfl) (pa_cons (pv 3) (pa_cons (pv 5) (pa_cons (pv 1) pa_nil)))))
    (pss_one (ps_dput (hu_of hr) (pv 2) (pv 7) (pe_op op_add (pe_dget2 (hu_of hr) (pv 2) (pv 7) pe_int ⟨rfl, rfl, rfl, rfl⟩) (pv 4)) rfl))) pss_nil))))))
    (pss_one (ps_ret (pv 2)))))

theorem ok_with_second {f : Addr} {fd : FuncData} (F : Fun K "with_second" "with_second" s_with_second f fd) (B : Bi mg) (c_OWN : ∃ t, mg "OWN" = some (.int 64 t)) (D_laid_into : Df P w K mg base 1 "laid_into" ["marks", "index", "second"] sp_laid_into) : FnOk P w K mg base CX0 2 f fd ["ways", "second"] sp_with_second :=
  Fun.okT F sc_with_second len_with_second (fun cdv A outer s H E hr => d_with_second B c_OWN D_laid_into hr) sem_with_second

theorem df_with_second {f : Addr} {fd : FuncData} (F : Fun K "with_second" "with_second" s_with_second f fd) (hm : mg "with_second" = some (.ref f)) (B : Bi mg) (c_OWN : ∃ t, mg "OWN" = some (.int 64 t)) (D_laid_into : Df P w K mg base 1 "laid_into" ["marks", "index", "second"] sp_laid_into) : Df P w K mg base 2 "with_second" ["ways", "second"] sp_with_second :=
  Df.of F (ok_with_second F B c_OWN D_laid_into) hm (fun _ _ _ _ _ _ us hl => match us, hl with | [_, _], _ => rfl) (fun p hp => nomatch hp)

abbrev s_orders_of : Stmt := topS 94

theorem sc_orders_of : FnScope ["table", "found", "first", "second"] ["table"] (defScope s_orders_of) := ⟨rfl, rfl, rfl, by decide +kernel, rfl, by decide +kernel, by decide +kernel⟩

theorem d_orders_of (B : Bi mg) (c_factorial : mg "factorial" = some (.builtin "math.factorial")) (D_pairs_of : Df P w K mg base 2 "pairs_of" ["table"] sp_pairs_of) {f : Addr} {cdv : Value} {A : Around} {outer : List Env} {s : Shared} {H : Hp} {E : XK} (hr : Room 2 (A.deeper (envOfC "orders_of" (defScope s_orders_of) s.heap.objs.size f cdv))) :
    PSs (cxOf CX0 P w K mg base ["table", "found", "first", "second"] "orders_of" (defScope s_orders_of) f cdv A outer s H E).nox (defBody s_orders_of) (t_orders_of K sp_pairs_of) :=
  (pss_cons (ps_set (i := 1) sc_orders_of.nd rfl (.inl rfl) pe_int)
    (pss_cons (ps_for PassesOwn.never (by rfl) (pi_list (pe_df D_pairs_of (hr.mono (by decide)) (by rfl) (pa_cons (pv 0) pa_nil))) (pg_tup (by rfl) (pgs_cons (pg_name (i := 2) sc_orders_of.nd rfl (Or.inl rfl)) (pgs_cons (pg_name (i := 3) sc_orders_of.nd rfl (Or.inl rfl)) pgs_nil))) (pss_one (ps_set (i := 1) sc_orders_of.nd rfl (.inl rfl) (pe_op op_mul (pv 1) (pe_fact c_factorial (by rfl) (pe_ix ix_tup (pe_ix ix_tup (pv 0) (pv 2) (fun _ _ => rfl)) (pv 3) (fun _ _ => rfl)))))))
    (pss_one (ps_ret (pv 1)))))

theorem ok_orders_of {f : Addr} {fd : FuncData} (F : Fun K "orders_of" "orders_of" s_orders_of f fd) (B : Bi mg) (c_factorial : mg "factorial" = some (.builtin "math.factorial")) (D_pairs_of : Df P w K mg base 2 "pairs_of" ["table"] sp_pairs_of) : FnOk P w K mg base CX0 3 f fd ["table"] sp_orders_of :=
  Fun.okT F sc_orders_of len_orders_of (fun cdv A outer s H E hr => d_orders_of B c_factorial D_pairs_of hr) sem_orders_of

theorem df_orders_of {f : Addr} {fd : FuncData} (F : Fun K "orders_of" "orders_of" s_orders_of f fd) (hm : mg "orders_of" = some (.ref f)) (B : Bi mg) (c_factorial : mg "factorial" = some (.builtin "math.factorial")) (D_pairs_of : Df P w K mg base 2 "pairs_of" ["table"] sp_pairs_of) : Df P w K mg base 3 "orders_of" ["table"] sp_orders_of :=
  Df.of F (ok_orders_of F B c_factorial D_pairs_of) hm (fun _ _ _ _ _ _ us hl => match us, hl with | [_], _ => rfl) (fun p hp => by cases hp; intros; rfl)

abbrev s_plan_count_by : Stmt := topS 95

theorem sc_plan_count_by : FnScope ["table", "times", "ways", "last", "first", "second"] ["table", "times"] (defScope s_plan_count_by) := ⟨rfl, rfl, rfl, by decide +kernel, rfl, by decide +kernel, by decide +kernel⟩

theorem d_plan_count_by (B : Bi mg) (D_meetings_by : Df P w K mg base 3 "meetings_by" ["table"] sp_meetings_by) (D_without_own : Df P w K mg base 1 "without_own" ["ways"] sp_without_own) (D_with_second : Df P w K mg base 2 "with_second" ["ways", "second"] sp_with_second) (D_orders_of : Df P w K mg base 3 "orders_of" ["table"] sp_orders_of) {f : Addr} {cdv : Value} {A : Around} {outer : List Env} {s : Shared} {H : Hp} {E : XK} (hr : Room 3 (A.deeper (envOfC "plan_count_by" (defScope s_plan_count_by) s.heap.objs.size f cdv))) :
    PSs (cxOf CX0 P w K mg base ["table", "times", "ways", "last", "first", "second"] "plan_count_by" (defScope s_plan_count_by) f cdv A outer s H E).nox (defBody s_plan_count_by) (t_plan_count_by K sp_meetings_by sp_without_own sp_with_second sp_orders_of) :=
  (pss_cons (ps_par (i := 2) (j := 3) (by rfl) sc_plan_count_by.nd rfl rfl (by decide) rfl rfl (pa_cons (pe_disp1T (hu_of hr) (pe_op op_repT (pe_tup (pa_cons pe_int pa_nil)) (pv 1)) pe_int) (pa_cons pe_int pa_nil)) (by rfl))
    (pss_cons (ps_for PassesOwn.never (by rfl) (pi_tup (pe_df D_meetings_by (hr.mono (by decide)) (by rfl) (pa_cons (pv 0) pa_nil))) (pg_tup (by rfl) (pgs_cons (pg_name (i := 4) sc_plan_count_by.nd rfl (Or.inl rfl)) (pgs_cons (pg_name (i := 5) sc_plan_count_by.nd rfl (Or.inl rfl)) pgs_nil))) (pss_cons (ps_if (pt_cmpR op_ne (pv 4) (pv 3) (nomark _)) (pss_one (ps_par (i := 2) (j := 3) (by rfl) sc_plan_count_by.nd rfl rfl (by decide) rfl rfl (pa_cons (pe_df D_without_own (hr.mono (by decide)) (by rfl) (pa_cons (pv 2) pa_nil)) (pa_cons (pv 4) pa_nil)) (by rfl))) pss_nil)
    (pss_one (ps_set (i := 2) sc_plan_count_by.nd rfl (.inl rfl) (pe_df D_with_second (hr.mono (by decide)) (by rfl) (pa_cons (pv 2) (pa_cons (pv 5) pa_nil)))))))
    (pss_one (ps_ret (pe_op op_fdiv (pe_sumValsT (by rfl) (by rfl) B.m_sum (pv 2)) (pe_df D_orders_of (hr.mono (by decide)) (by rfl) (pa_cons (pv 0) pa_nil)))))))

theorem ok_plan_count_by {f : Addr} {fd : FuncData} (F : Fun K "plan_count_by" "plan_count_by" s_plan_count_by f fd) (B : Bi mg) (D_meetings_by : Df P w K mg base 3 "meetings_by" ["table"] sp_meetings_by) (D_without_own : Df P w K mg base 1 "without_own" ["ways"] sp_without_own) (D_with_second : Df P w K mg base 2 "with_second" ["ways", "second"] sp_with_second) (D_orders_of : Df P w K mg base 3 "orders_of" ["table"] sp_orders_of) : FnOk P w K mg base CX0 4 f fd ["table", "times"] sp_plan_count_by :=
  Fun.okT F sc_plan_count_by len_plan_count_by (fun cdv A outer s H E hr => d_plan_count_by B D_meetings_by D_without_own D_with_second D_orders_of hr) sem_plan_count_by

theorem df_plan_count_by {f : Addr} {fd : FuncData} (F : Fun K "plan_count_by" "plan_count_by" s_plan_count_by f fd) (hm : mg "plan_count_by" = some (.ref f)) (B : Bi mg) (D_meetings_by : Df P w K mg base 3 "meetings_by" ["table"] sp_meetings_by) (D_without_own : Df P w K mg base 1 "without_own" ["ways"] sp_without_own) (D_with_second : Df P w K mg base 2 "with_second" ["ways", "second"] sp_with_second) (D_orders_of : Df P w K mg base 3 "orders_of" ["table"] sp_orders_of) : Df P w K mg base 4 "plan_count_by" ["table", "times"] sp_plan_count_by :=
  Df.of F (ok_plan_count_by F B D_meetings_by D_without_own D_with_second D_orders_of) hm (fun _ _ _ _ _ _ us hl => match us, hl with | [_, _], _ => rfl) (fun p hp => nomatch hp)

abbrev s_has_person : Stmt := topS 96

theorem sc_has_person : FnScope ["each", "pair", "first", "second"] ["each", "pair"] (defScope s_has_person) := ⟨rfl, rfl, rfl, by decide +kernel, rfl, by decide +kernel, by decide +kernel⟩

theorem d_has_person (B : Bi mg) {f : Addr} {cdv : Value} {A : Around} {outer : List Env} {s : Shared} {H : Hp} {E : XK} (hr : Room 0 (A.deeper (envOfC "has_person" (defScope s_has_person) s.heap.objs.size f cdv))) :
    PSs (cxOf CX0 P w K mg base ["each", "pair", "first", "second"] "has_person" (defScope s_has_person) f cdv A outer s H E).nox (defBody s_has_person) (t_has_person K) :=
  (pss_one (ps_ret (pe_callB (cr_any (by rfl)) (by rfl) B.m_any (by decide +kernel) (pa_cons (pe_lc (own := [("first", 2), ("second", 3)]) (g := (gTup K 2 (gCons (gName 2) (gCons (gName 3) gNil)))) (tt := tYes) (te := (tOrV (tOp rEq (tOp (rIxT K) (tVar 1) (tC (.int 0))) (tVar 2)) (tOp rEq (tOp (rIxT K) (tVar 1) (tC (.int 1))) (tVar 3)))) (by rfl) sc_has_person.nd (pi_tup (pv 0)) (blkOk_by (N := ["each", "pair", "first", "second"]) (sc := defScope s_has_person) (by decide +kernel)) (fun _ _ _ _ _ => (pg_tup (by rfl) (pgs_cons (pg_name (i := 2) sc_has_person.nd rfl (Or.inl rfl)) (pgs_cons (pg_name (i := 3) sc_has_person.nd rfl (Or.inl rfl)) pgs_nil)))) (fun _ _ _ _ _ => pts_nil) (fun _ _ _ _ _ => (pe_or (pe_cmpR op_eq (pe_ix ix_tup (pv 1) pe_int (fun _ _ => rfl)) (pv 2) (nomark _)) (pe_one (pe_cmpR op_eq (pe_ix ix_tup (pv 1) pe_int (fun _ _ => rfl)) (pv 3) (nomark _)))))) pa_nil))))

theorem ok_has_person {f : Addr} {fd : FuncData} (F : Fun K "has_person" "has_person" s_has_person f fd) (B : Bi mg) : FnOk P w K mg base CX0 1 f fd ["each", "pair"] sp_has_person :=
  Fun.okT F sc_has_person len_has_person (fun cdv A outer s H E hr => d_has_person B hr) sem_has_person

theorem df_has_person {f : Addr} {fd : FuncData} (F : Fun K "has_person" "has_person" s_has_person f fd) (hm : mg "has_person" = some (.ref f)) (B : Bi mg) : Df P w K mg base 1 "has_person" ["each", "pair"] sp_has_person :=
  Df.of F (ok_has_person F B) hm (fun _ _ _ _ _ _ us hl => match us, hl with | [_, _], _ => rfl) (fun p hp => nomatch hp)

abbrev s_laid_plan : Stmt := topS 97

theorem sc_laid_plan : FnScope ["plan", "index", "pair"] ["plan", "index", "pair"] (defScope s_laid_plan) := ⟨rfl, rfl, rfl, by decide +kernel, rfl, by decide +kernel, by decide +kernel⟩

theorem d_laid_plan (B : Bi mg) {f : Addr} {cdv : Value} {A : Around} {outer : List Env} {s : Shared} {H : Hp} {E : XK} (hr : Room 0 (A.deeper (envOfC "laid_plan" (defScope s_laid_plan) s.heap.objs.size f cdv))) :
    PSs (cxOf CX0 P w K mg base ["plan", "index", "pair"] "laid_plan" (defScope s_laid_plan) f cdv A outer s H E).nox (defBody s_laid_plan) (t_laid_plan K) :=
  (pss_one (ps_ret (pe_op op_catA (pe_op op_catA (pe_slice sl_tupA (pv 0) po_none (po_some (pv 1))) (pe_tup (pa_cons (pe_op op_catA (pe_ix ix_tup (pv 0) (pv 1) (fun _ _ => rfl)) (pe_tup (pa_cons (pv 2) pa_nil))) pa_nil))) (pe_slice sl_tupA (pv 0) (po_some (pe_op op_add (pv 1) pe_int)) po_none))))

theorem ok_laid_plan {f : Addr} {fd : FuncData} (F : Fun K "laid_plan" "laid_plan" s_laid_plan f fd) (B : Bi mg) : FnOk P w K mg base CX0 1 f fd ["plan", "index", "pair"] sp_laid_plan :=
  Fun.okT F sc_laid_plan len_laid_plan (fun cdv A outer s H E hr => d_laid_plan B hr) sem_laid_plan

theorem df_laid_plan {f : Addr} {fd : FuncData} (F : Fun K "laid_plan" "laid_plan" s_laid_plan f fd) (hm : mg "laid_plan" = some (.ref f)) (B : Bi mg) : Df P w K mg base 1 "laid_plan" ["plan", "index", "pair"] sp_laid_plan :=
  Df.of F (ok_laid_plan F B) hm (fun _ _ _ _ _ _ us hl => match us, hl with | [_, _, _], _ => rfl) (fun p hp => nomatch hp)

abbrev s_plans_with : Stmt := topS 98

theorem sc_plans_with : FnScope ["found", "pair", "longer", "plan", "last", "places", "index"] ["found", "pair"] (defScope s_plans_with) := ⟨rfl, rfl, rfl, by decide +kernel, rfl, by decide +kernel, by decide +kernel⟩

theorem d_plans_with (B : Bi mg) (D_has_person : Df P w K mg base 1 "has_person" ["each", "pair"] sp_has_person) (D_laid_plan : Df P w K mg base 1 "laid_plan" ["plan", "index", "pair"] sp_laid_plan) {f : Addr} {cdv : Value} {A : Around} {outer : List Env} {s : Shared} {H : Hp} {E : XK} (hr : Room 1 (A.deeper (envOfC "plans_with" (defScope s_plans_with) s.heap.objs.size f cdv))) :
    PSs (cxOf CX0 P w K mg base ["found", "pair", "longer", "plan", "last", "places", "index"] "plans_with" (defScope s_plans_with) f cdv A outer s H E).nox (defBody s_plans_with) (t_plans_with K sp_has_person sp_laid_plan) :=
  (pss_cons (ps_set (i := 2) sc_plans_with.nd rfl (.inl rfl) (pe_lst pa_nil))
    (pss_cons (ps_for PassesOwn.never (by rfl) (pi_list (pv 0)) (pg_tup (by rfl) (pgs_cons (pg_name (i := 3) sc_plans_with.nd rfl (Or.inr rfl)) (pgs_cons (pg_name (i := 4) sc_plans_with.nd rfl (Or.inl rfl)) pgs_nil))) (pss_cons (ps_setLc (i := 5) (own := [("index", 6)]) (g := (gName 6)) (tt := (tNot (tB (tCall sp_has_person [] E0 (tCons (tOp (rIxT K) (tVar 3) (tVar 6)) (tCons (tVar 1) tNil)))))) (te := (tVar 6)) (by rfl) sc_plans_with.nd rfl rfl (sw_true rfl rfl rfl (by decide +kernel)) (pi_range2 (by rfl) B.m_range (pa_cons (pe_op op_add (pv 4) pe_int) (pa_cons (pe_callB call_len_seq (by rfl) B.m_len (by decide +kernel) (pa_cons (pv 3) pa_nil)) pa_nil))) (blkOk_by (N := ["found", "pair", "longer", "plan", "last", "places", "index"]) (sc := defScope s_plans_with) (by decide +kernel)) (fun _ _ _ _ _ => (pg_name (i := 6) sc_plans_with.nd rfl (Or.inl rfl))) (fun _ _ _ _ _ => (pts_one (pt_not (pt_val (pe_df D_has_person (hr.mono (by decide)) (by rfl) (pa_cons (pe_ix ix_tup (pv 3) (pv 6) (fun _ _ => rfl)) (pa_cons (pv 1) pa_nil))))))) (fun _ _ _ _ _ => (pv 6)))
    (pss_one (ps_expr (pe_bm PySem.F.plainAttrs_list PySem.F.slot_list_extend PySem.F.type_list_extend mt_extend (pv 2) (pa_cons (pe_lc (own := [("index", 6)]) (g := (gName 6)) (tt := tYes) (te := (tTup (tCons (tCall sp_laid_plan [] E0 (tCons (tVar 3) (tCons (tVar 6) (tCons (tVar 1) tNil)))) (tCons (tVar 6) tNil)))) (by rfl) sc_plans_with.nd (pi_list (pv 5)) (blkOk_by (N := ["found", "pair", "longer", "plan", "last", "places", "index"]) (sc := defScope s_plans_with) (by decide +kernel)) (fun _ _ _ _ _ => (pg_name (i := 6) sc_plans_with.nd rfl (Or.inl rfl))) (fun _ _ _ _ _ => pts_nil) (fun _ _ _ _ _ => (pe_tup (pa_cons (pe_df D_laid_plan (hr.mono (by decide)) (by rfl) (pa_cons (pv 3) (pa_cons (pv 6) (pa_cons (pv 1) pa_nil)))) (pa_cons (pv 6) pa_nil))))) pa_nil))))))
    (pss_one (ps_ret (pv 2)))))

theorem ok_plans_with {f : Addr} {fd : FuncData} (F : Fun K "plans_with" "plans_with" s_plans_with f fd) (B : Bi mg) (D_has_person : Df P w K mg base 1 "has_person" ["each", "pair"] sp_has_person) (D_laid_plan : Df P w K mg base 1 "laid_plan" ["plan", "index", "pair"] sp_laid_plan) : FnOk P w K mg base CX0 2 f fd ["found", "pair"] sp_plans_with :=
  Fun.okT F sc_plans_with len_plans_with (fun cdv A outer s H E hr => d_plans_with B D_has_person D_laid_plan hr) sem_plans_with

theorem df_plans_with {f : Addr} {fd : FuncData} (F : Fun K "plans_with" "plans_with" s_plans_with f fd) (hm : mg "plans_with" = some (.ref f)) (B : Bi mg) (D_has_person : Df P w K mg base 1 "has_person" ["each", "pair"] sp_has_person) (D_laid_plan : Df P w K mg base 1 "laid_plan" ["plan", "index", "pair"] sp_laid_plan) : Df P w K mg base 2 "plans_with" ["found", "pair"] sp_plans_with :=
  Df.of F (ok_plans_with F B D_has_person D_laid_plan) hm (fun _ _ _ _ _ _ us hl => match us, hl with | [_, _], _ => rfl) (fun p hp => nomatch hp)

abbrev s_all_plans_by : Stmt := topS 99

theorem sc_all_plans_by : FnScope ["table", "times", "found", "first", "second", "laid", "plan", "_"] ["table", "times"] (defScope s_all_plans_by) := ⟨rfl, rfl, rfl, by decide +kernel, rfl, by decide +kernel, by decide +kernel⟩

theorem d_all_plans_by (B : Bi mg) (D_pairs_of : Df P w K mg base 2 "pairs_of" ["table"] sp_pairs_of) (D_plans_with : Df P w K mg base 2 "plans_with" ["found", "pair"] sp_plans_with) {f : Addr} {cdv : Value} {A : Around} {outer : List Env} {s : Shared} {H : Hp} {E : XK} (hr : Room 2 (A.deeper (envOfC "all_plans_by" (defScope s_all_plans_by) s.heap.objs.size f cdv))) :
    PSs (cxOf CX0 P w K mg base ["table", "times", "found", "first", "second", "laid", "plan", "_"] "all_plans_by" (defScope s_all_plans_by) f cdv A outer s H E).nox (defBody s_all_plans_by) (t_all_plans_by K sp_pairs_of sp_plans_with) :=
  (pss_cons (ps_set (i := 2) sc_all_plans_by.nd rfl (.inl rfl) (pe_lst (pa_cons (pe_op op_repT (pe_tup (pa_cons (pe_tup pa_nil) pa_nil)) (pv 1)) pa_nil)))
    (pss_cons (ps_for PassesOwn.never (by rfl) (pi_list (pe_df D_pairs_of (hr.mono (by decide)) (by rfl) (pa_cons (pv 0) pa_nil))) (pg_tup (by rfl) (pgs_cons (pg_name (i := 3) sc_all_plans_by.nd rfl (Or.inl rfl)) (pgs_cons (pg_name (i := 4) sc_all_plans_by.nd rfl (Or.inl rfl)) pgs_nil))) (pss_cons (ps_setLc (i := 5) (own := [("plan", 6)]) (g := (gName 6)) (tt := tYes) (te := (tTup (tCons (tVar 6) (tCons (tUn oNeg (tC (.int 1))) tNil)))) (by rfl) sc_all_plans_by.nd rfl rfl (sw_true rfl rfl rfl (by decide +kernel)) (pi_list (pv 2)) (blkOk_by (N := ["table", "times", "found", "first", "second", "laid", "plan", "_"]) (sc := defScope s_all_plans_by) (by decide +kernel)) (fun _ _ _ _ _ => (pg_name (i := 6) sc_all_plans_by.nd rfl (Or.inl rfl))) (fun _ _ _ _ _ => pts_nil) (fun _ _ _ _ _ => (pe_tup (pa_cons (pv 6) (pa_cons (pe_un un_neg pe_int) pa_nil)))))
    (pss_cons (ps_for PassesOwn.never (by rfl) (pi_range1 (by rfl) B.m_range (pa_cons (pe_ix ix_tup (pe_ix ix_tup (pv 0) (pv 3) (fun _ _ => rfl)) (pv 4) (fun _ _ => rfl)) pa_nil)) (pg_name (i := 7) sc_all_plans_by.nd rfl (Or.inl rfl)) (pss_one (ps_set (i := 5) sc_all_plans_by.nd rfl (.inl rfl) (pe_df D_plans_with (hr.mono (by decide)) (by rfl) (pa_cons (pv 5) (pa_cons (pe_tup (pa_cons (pv 3) (pa_cons (pv 4) pa_nil))) pa_nil))))))
    (pss_one (ps_setLc (i := 2) (own := [("plan", 6), ("_", 7)]) (g := (gTup K 2 (gCons (gName 6) (gCons (gName 7) gNil)))) (tt := tYes) (te := (tVar 6)) (by rfl) sc_all_plans_by.nd rfl rfl (sw_true rfl rfl rfl (by decide +kernel)) (pi_list (pv 5)) (blkOk_by (N := ["table", "times", "found", "first", "second", "laid", "plan", "_"]) (sc := defScope s_all_plans_by) (by decide +kernel)) (fun _ _ _ _ _ => (pg_tup (by rfl) (pgs_cons (pg_name (i := 6) sc_all_plans_by.nd rfl (Or.inl rfl)) (pgs_cons (pg_name (i := 7) sc_all_plans_by.nd rfl (Or.inl rfl)) pgs_nil)))) (fun _ _ _ _ _ => pts_nil) (fun _ _ _ _ _ => (pv 6)))))))
    (pss_one (ps_ret (pe_callTy call_tuple_of (by rfl) B.m_tuple (by decide +kernel) (pa_cons (pe_callB (cr_sortD hr.units) (by rfl) B.m_sorted (by decide +kernel) (pa_cons (pv 2) pa_nil)) pa_nil))))))

theorem ok_all_plans_by {f : Addr} {fd : FuncData} (F : Fun K "all_plans_by" "all_plans_by" s_all_plans_by f fd) (B : Bi mg) (D_pairs_of : Df P w K mg base 2 "pairs_of" ["table"] sp_pairs_of) (D_plans_with : Df P w K mg base 2 "plans_with" ["found", "pair"] sp_plans_with) : FnOk P w K mg base CX0 3 f fd ["table", "times"] sp_all_plans_by :=
  Fun.okT F sc_all_plans_by len_all_plans_by (fun cdv A outer s H E hr => d_all_plans_by B D_pairs_of D_plans_with hr) sem_all_plans_by

theorem df_all_plans_by {f : Addr} {fd : FuncData} (F : Fun K "all_plans_by" "all_plans_by" s_all_plans_by f fd) (hm : mg "all_plans_by" = some (.ref f)) (B : Bi mg) (D_pairs_of : Df P w K mg base 2 "pairs_of" ["table"] sp_pairs_of) (D_plans_with : Df P w K mg base 2 "plans_with" ["found", "pair"] sp_plans_with) : Df P w K mg base 3 "all_plans_by" ["table", "times"] sp_all_plans_by :=
  Df.of F (ok_all_plans_by F B D_pairs_of D_plans_with) hm (fun _ _ _ _ _ _ us hl => match us, hl with | [_, _], _ => rfl) (fun p hp => nomatch hp)

abbrev s_check_few : Stmt := topS 101

theorem sc_check_few : FnScope ["table"] ["table"] (defScope s_check_few) := ⟨rfl, rfl, rfl, by decide +kernel, rfl, by decide +kernel, by decide +kernel⟩

theorem d_check_few (B : Bi mg) (c_MOST_COUNTED_countwork : ∃ t, mg "MOST_COUNTED_countwork" = some (.int 12 t)) (D_total_by : Df P w K mg base 1 "total_by" ["table"] sp_total_by) {f : Addr} {cdv : Value} {A : Around} {outer : List Env} {s : Shared} {H : Hp} {E : XK} (hr : Room 1 (A.deeper (envOfC "check_few" (defScope s_check_few) s.heap.objs.size f cdv))) :
    PSs (cxOf CX0 P w K mg base ["table"] "check_few" (defScope s_check_few) f cdv A outer s H E).nox (defBody s_check_few) (t_check_few K sp_total_by) :=
  (pss_one (ps_if (pt_cmpR op_gt (pe_df D_total_by (hr.mono (by decide)) (by rfl) (pa_cons (pv 0) pa_nil)) (pe_glob (by rfl) c_MOST_COUNTED_countwork.choose_spec ⟨_, rfl⟩) (nomark _)) (pss_one ps_never) pss_nil))

theorem ok_check_few {f : Addr} {fd : FuncData} (F : Fun K "check_few" "check_few" s_check_few f fd) (B : Bi mg) (c_MOST_COUNTED_countwork : ∃ t, mg "MOST_COUNTED_countwork" = some (.int 12 t)) (D_total_by : Df P w K mg base 1 "total_by" ["table"] sp_total_by) : FnOk P w K mg base CX0 2 f fd ["table"] sp_check_few :=
  Fun.okT F sc_check_few len_check_few (fun cdv A outer s H E hr => d_check_few B c_MOST_COUNTED_countwork D_total_by hr) sem_check_few

theorem df_check_few {f : Addr} {fd : FuncData} (F : Fun K "check_few" "check_few" s_check_few f fd) (hm : mg "check_few" = some (.ref f)) (B : Bi mg) (c_MOST_COUNTED_countwork : ∃ t, mg "MOST_COUNTED_countwork" = some (.int 12 t)) (D_total_by : Df P w K mg base 1 "total_by" ["table"] sp_total_by) : Df P w K mg base 2 "check_few" ["table"] sp_check_few :=
  Df.of F (ok_check_few F B c_MOST_COUNTED_countwork D_total_by) hm (fun _ _ _ _ _ _ us hl => match us, hl with | [_], _ => rfl) (fun p hp => by cases hp; intros; rfl)

abbrev s_plan_count : Stmt := topS 102

theorem sc_plan_count : FnScope ["table", "times"] ["table", "times"] (defScope s_plan_count) := ⟨rfl, rfl, rfl, by decide +kernel, rfl, by decide +kernel, by decide +kernel⟩

theorem d_plan_count (B : Bi mg) (c_MOST_ROUNDS : ∃ t, mg "MOST_ROUNDS" = some (.int 8 t)) (D_check_table : Df P w K mg base 6 "check_table" ["value"] sp_check_table) (D_check_times : Df P w K mg base 3 "check_times" ["value", "low", "high"] sp_check_times) (D_check_few : Df P w K mg base 2 "check_few" ["table"] sp_check_few) (D_plan_count_by : Df P w K mg base 4 "plan_count_by" ["table", "times"] sp_plan_count_by) {f : Addr} {cdv : Value} {A : Around} {outer : List Env} {s : Shared} {H : Hp} {E : XK} (hr : Room 6 (A.deeper (envOfC "plan_count" (defScope s_plan_count) s.heap.objs.size f cdv))) :
    PSs (cxOf CX0 P w K mg base ["table", "times"] "plan_count" (defScope s_plan_count) f cdv A outer s H E).nox (defBody s_plan_count) (t_plan_count K sp_check_table sp_check_times sp_check_few sp_plan_count_by) :=
  (pss_cons (ps_expr (pe_df D_check_table (hr.mono (by decide)) (by rfl) (pa_cons (pv 0) pa_nil)))
    (pss_cons (ps_expr (pe_df D_check_times (hr.mono (by decide)) (by rfl) (pa_cons (pv 1) (pa_cons pe_int (pa_cons (pe_glob (by rfl) c_MOST_ROUNDS.choose_spec ⟨_, rfl⟩) pa_nil)))))
    (pss_cons (ps_expr (pe_df D_check_few (hr.mono (by decide)) (by rfl) (pa_cons (pv 0) pa_nil)))
    (pss_one (ps_ret (pe_df D_plan_count_by (hr.mono (by decide)) (by rfl) (pa_cons (pv 0) (pa_cons (pv 1) pa_nil))))))))

theorem ok_plan_count {f : Addr} {fd : FuncData} (F : Fun K "plan_count" "plan_count" s_plan_count f fd) (B : Bi mg) (c_MOST_ROUNDS : ∃ t, mg "MOST_ROUNDS" = some (.int 8 t)) (D_check_table : Df P w K mg base 6 "check_table" ["value"] sp_check_table) (D_check_times : Df P w K mg base 3 "check_times" ["value", "low", "high"] sp_check_times) (D_check_few : Df P w K mg base 2 "check_few" ["table"] sp_check_few) (D_plan_count_by : Df P w K mg base 4 "plan_count_by" ["table", "times"] sp_plan_count_by) : FnOk P w K mg base CX0 7 f fd ["table", "times"] sp_plan_count :=
  Fun.okT F sc_plan_count len_plan_count (fun cdv A outer s H E hr => d_plan_count B c_MOST_ROUNDS D_check_table D_check_times D_check_few D_plan_count_by hr) sem_plan_count

theorem df_plan_count {f : Addr} {fd : FuncData} (F : Fun K "plan_count" "plan_count" s_plan_count f fd) (hm : mg "plan_count" = some (.ref f)) (B : Bi mg) (c_MOST_ROUNDS : ∃ t, mg "MOST_ROUNDS" = some (.int 8 t)) (D_check_table : Df P w K mg base 6 "check_table" ["value"] sp_check_table) (D_check_times : Df P w K mg base 3 "check_times" ["value", "low", "high"] sp_check_times) (D_check_few : Df P w K mg base 2 "check_few" ["table"] sp_check_few) (D_plan_count_by : Df P w K mg base 4 "plan_count_by" ["table", "times"] sp_plan_count_by) : Df P w K mg base 7 "plan_count" ["table", "times"] sp_plan_count :=
  Df.of F (ok_plan_count F B c_MOST_ROUNDS D_check_table D_check_times D_check_few D_plan_count_by) hm (fun _ _ _ _ _ _ us hl => match us, hl with | [_, _], _ => rfl) (fun p hp => nomatch hp)

abbrev s_all_plans : Stmt := topS 103

theorem sc_all_plans : FnScope ["table", "times"] ["table", "times"] (defScope s_all_plans) := ⟨rfl, rfl, rfl, by decide +kernel, rfl, by decide +kernel, by decide +kernel⟩

theorem d_all_plans (B : Bi mg) (c_MOST_TOLD : ∃ t, mg "MOST_TOLD" = some (.int 200 t)) (D_plan_count : Df P w K mg base 7 "plan_count" ["table", "times"] sp_plan_count) (D_all_plans_by : Df P w K mg base 3 "all_plans_by" ["table", "times"] sp_all_plans_by) {f : Addr} {cdv : Value} {A : Around} {outer : List Env} {s : Shared} {H : Hp} {E : XK} (hr : Room 7 (A.deeper (envOfC "all_plans" (defScope s_all_plans) s.heap.objs.size f cdv))) :
    PSs (cxOf CX0 P w K mg base ["table", "times"] "all_plans" (defScope s_all_plans) f cdv A outer s H E).nox (defBody s_all_plans) (t_all_plans K sp_plan_count sp_all_plans_by) :=
  (pss_cons (ps_if (pt_cmpR op_gt (pe_df D_plan_count (hr.mono (by decide)) (by rfl) (pa_cons (pv 0) (pa_cons (pv 1) pa_nil))) (pe_glob (by rfl) c_MOST_TOLD.choose_spec ⟨_, rfl⟩) (nomark _)) (pss_one ps_never) pss_nil)
    (pss_one (ps_ret (pe_df D_all_plans_by (hr.mono (by decide)) (by rfl) (pa_cons (pv 0) (pa_cons (pv 1) pa_nil))))))

theorem ok_all_plans {f : Addr} {fd : FuncData} (F : Fun K "all_plans" "all_plans" s_all_plans f fd) (B : Bi mg) (c_MOST_TOLD : ∃ t, mg "MOST_TOLD" = some (.int 200 t)) (D_plan_count : Df P w K mg base 7 "plan_count" ["table", "times"] sp_plan_count) (D_all_plans_by : Df P w K mg base 3 "all_plans_by" ["table", "times"] sp_all_plans_by) : FnOk P w K mg base CX0 8 f fd ["table", "times"] sp_all_plans :=
  Fun.okT F sc_all_plans len_all_plans (fun cdv A outer s H E hr => d_all_plans B c_MOST_TOLD D_plan_count D_all_plans_by hr) sem_all_plans

theorem df_all_plans {f : Addr} {fd : FuncData} (F : Fun K "all_plans" "all_plans" s_all_plans f fd) (hm : mg "all_plans" = some (.ref f)) (B : Bi mg) (c_MOST_TOLD : ∃ t, mg "MOST_TOLD" = some (.int 200 t)) (D_plan_count : Df P w K mg base 7 "plan_count" ["table", "times"] sp_plan_count) (D_all_plans_by : Df P w K mg base 3 "all_plans_by" ["table", "times"] sp_all_plans_by) : Df P w K mg base 8 "all_plans" ["table", "times"] sp_all_plans :=
  Df.of F (ok_all_plans F B c_MOST_TOLD D_plan_count D_all_plans_by) hm (fun _ _ _ _ _ _ us hl => match us, hl with | [_, _], _ => rfl) (fun p hp => nomatch hp)

abbrev s_height : Stmt := topS 105

theorem sc_height : FnScope ["table"] ["table"] (defScope s_height) := ⟨rfl, rfl, rfl, by decide +kernel, rfl, by decide +kernel, by decide +kernel⟩

theorem d_height (B : Bi mg) (D_check_table : Df P w K mg base 6 "check_table" ["value"] sp_check_table) (D_height_by : Df P w K mg base 3 "height_by" ["table"] sp_height_by) {f : Addr} {cdv : Value} {A : Around} {outer : List Env} {s : Shared} {H : Hp} {E : XK} (hr : Room 6 (A.deeper (envOfC "height" (defScope s_height) s.heap.objs.size f cdv))) :
    PSs (cxOf CX0 P w K mg base ["table"] "height" (defScope s_height) f cdv A outer s H E).nox (defBody s_height) (t_height K sp_check_table sp_height_by) :=
  (pss_cons (ps_expr (pe_df D_check_table (hr.mono (by decide)) (by rfl) (pa_cons (pv 0) pa_nil)))
    (pss_one (ps_ret (pe_df D_height_by (hr.mono (by decide)) (by rfl) (pa_cons (pv 0) pa_nil)))))

theorem ok_height {f : Addr} {fd : FuncData} (F : Fun K "height" "height" s_height f fd) (B : Bi mg) (D_check_table : Df P w K mg base 6 "check_table" ["value"] sp_check_table) (D_height_by : Df P w K mg base 3 "height_by" ["table"] sp_height_by) : FnOk P w K mg base CX0 7 f fd ["table"] sp_height :=
  Fun.okT F sc_height len_height (fun cdv A outer s H E hr => d_height B D_check_table D_height_by hr) sem_height

theorem df_height {f : Addr} {fd : FuncData} (F : Fun K "height" "height" s_height f fd) (hm : mg "height" = some (.ref f)) (B : Bi mg) (D_check_table : Df P w K mg base 6 "check_table" ["value"] sp_check_table) (D_height_by : Df P w K mg base 3 "height_by" ["table"] sp_height_by) : Df P w K mg base 7 "height" ["table"] sp_height :=
  Df.of F (ok_height F B D_check_table D_height_by) hm (fun _ _ _ _ _ _ us hl => match us, hl with | [_], _ => rfl) (fun p hp => by cases hp; intros; rfl)

abbrev s__law_well : Stmt := topS 107

theorem sc__law_well : FnScope ["script", "lap", "own", "stir", "each"] ["script", "lap"] (defScope s__law_well) := ⟨rfl, rfl, rfl, by decide +kernel, rfl, by decide +kernel, by decide +kernel⟩

theorem d__law_well (B : Bi mg) {f : Addr} {cdv : Value} {A : Around} {outer : List Env} {s : Shared} {H : Hp} {E : XK} (hr : Room 0 (A.deeper (envOfC "_law_well" (defScope s__law_well) s.heap.objs.size f cdv))) :
    PSs (cxOf CX0 P w K mg base ["script", "lap", "own", "stir", "each"] "_law_well" (defScope s__law_well) f cdv A outer s H E).nox (defBody s__law_well) (t__law_well K) :=
  (pss_cons (ps_set (i := 2) sc__law_well.nd rfl (.inl rfl) (pe_ifExp (pt_cmpR op_lt (pv 1) (pe_callB call_len_seq (by rfl) B.m_len (by decide +kernel) (pa_cons (pv 0) pa_nil)) (nomark _)) (pe_callTy call_int1 (by rfl) B.m_int (by decide +kernel) (pa_cons (pe_ix ix_list (pv 0) (pv 1) (fun _ _ => rfl)) pa_nil)) pe_int))
    (pss_cons (ps_set (i := 3) sc__law_well.nd rfl (.inl rfl) (pe_op op_add pe_int (pe_op op_mul pe_int (pv 1))))
    (pss_cons (ps_for PassesOwn.never (by rfl) (pi_list (pe_op op_cat (pe_slice sl_list (pv 0) po_none (po_some pe_int)) (pe_lst (pa_cons (pv 2) pa_nil)))) (pg_name (i := 4) sc__law_well.nd rfl (Or.inl rfl)) (pss_one (ps_set (i := 3) sc__law_well.nd rfl (.inl rfl) (pe_op op_mod (pe_callTy call_int1 (by rfl) B.m_int (by decide +kernel) (pa_cons (pe_op op_add (pe_op op_add (pe_op op_mul (pv 3) pe_int) (pe_op op_mod (pe_callTy call_int1 (by rfl) B.m_int (by decide +kernel) (pa_cons (pv 4) pa_nil)) pe_int)) pe_int) pa_nil)) pe_int))))
    (pss_one (ps_ret (pe_lst (pa_cons (pe_ifExp (PW.pt (pw_or (pt_cmpR op_lt (pv 2) pe_int (nomark _)) (pw_or1 (pt_cmpR op_ge (pv 2) (pe_op op_pow pe_int pe_int) (nomark _))))) (pe_callB call_abs (by rfl) B.m_abs (by decide +kernel) (pa_cons (pv 2) pa_nil)) pe_int) (pa_cons (pv 3) (pa_cons pe_int pa_nil)))))))))

theorem ok__law_well {f : Addr} {fd : FuncData} (F : Fun K "_law_well" "_law_well" s__law_well f fd) (B : Bi mg) : FnOk P w K mg base CX0 1 f fd ["script", "lap"] (sp__law_well K) :=
  Fun.okT F sc__law_well len__law_well (fun cdv A outer s H E hr => d__law_well B hr) sem__law_well

theorem df__law_well {f : Addr} {fd : FuncData} (F : Fun K "_law_well" "_law_well" s__law_well f fd) (hm : mg "_law_well" = some (.ref f)) (B : Bi mg) : Df P w K mg base 1 "_law_well" ["script", "lap"] (sp__law_well K) :=
  Df.of F (ok__law_well F B) hm (fun _ _ _ _ _ _ us hl => match us, hl with | [_, _], _ => rfl) (fun p hp => nomatch hp)

abbrev s__law_take : Stmt := topS 108

theorem sc__law_take : FnScope ["well", "many", "told", "span"] ["well", "many"] (defScope s__law_take) := ⟨rfl, rfl, rfl, by decide +kernel, rfl, by decide +kernel, by decide +kernel⟩

theorem d__law_take (B : Bi mg) {f : Addr} {cdv : Value} {A : Around} {outer : List Env} {s : Shared} {H : Hp} {E : XK} (hr : Room 0 (A.deeper (envOfC "_law_take" (defScope s__law_take) s.heap.objs.size f cdv))) :
    PSs (cxOf CX0 P w K mg base ["well", "many", "told", "span"] "_law_take" (defScope s__law_take) f cdv A outer s H E).nox (defBody s__law_take) (t__law_take K) :=
  (pss_cons (ps_if (pt_cmpR op_gt (pe_ix ix_list (pv 0) pe_int (fun _ _ => rfl)) pe_int (nomark _)) (pss_cons (ps_asg (pe_callB call_divmod (by rfl) B.m_divmod (by decide +kernel) (pa_cons (pe_ix ix_list (pv 0) pe_int (fun _ _ => rfl)) (pa_cons (pv 1) pa_nil))) (pg_tup (by rfl) (pgs_cons (pg_sub (pv 0) pe_int set_list) (pgs_cons (pg_name (i := 2) sc__law_take.nd rfl (Or.inl rfl)) pgs_nil))))
    (pss_one (ps_ret (pv 2)))) pss_nil)
    (pss_cons (ps_asg (pe_tup (pa_cons pe_int (pa_cons pe_int pa_nil))) (pg_tup (by rfl) (pgs_cons (pg_name (i := 2) sc__law_take.nd rfl (Or.inl rfl)) (pgs_cons (pg_name (i := 3) sc__law_take.nd rfl (Or.inl rfl)) pgs_nil))))
    (pss_cons (ps_while PassesOwn.never (pt_cmpR op_lt (pv 3) (pe_op op_mul pe_int (pv 1)) (nomark _)) (pss_cons (ps_asg (pe_op op_add (pe_ix ix_list (pv 0) pe_int (fun _ _ => rfl)) pe_int) (pg_sub (pv 0) pe_int set_list))
    (pss_cons (ps_asg (pe_op op_mod (pe_callTy call_int1 (by rfl) B.m_int (by decide +kernel) (pa_cons (pe_op op_add (pe_op op_add (pe_op op_mul (pe_ix ix_list (pv 0) pe_int (fun _ _ => rfl)) pe_int) (pe_op op_mul (pe_ix ix_list (pv 0) pe_int (fun _ _ => rfl)) pe_int)) pe_int) pa_nil)) pe_int) (pg_sub (pv 0) pe_int set_list))
    (pss_one (ps_par (i := 2) (j := 3) (by rfl) sc__law_take.nd rfl rfl (by decide) rfl rfl (pa_cons (pe_op op_add (pe_op op_mul (pv 2) pe_int) (pe_op op_mod (pe_callTy call_int1 (by rfl) B.m_int (by decide +kernel) (pa_cons (pe_op op_fdiv (pe_ix ix_list (pv 0) pe_int (fun _ _ => rfl)) pe_int) pa_nil)) pe_int)) (pa_cons (pe_op op_mul (pv 3) pe_int) pa_nil)) (by rfl))))))
    (pss_one (ps_ret (pe_op op_mod (pe_callTy call_int1 (by rfl) B.m_int (by decide +kernel) (pa_cons (pv 2) pa_nil)) (pv 1)))))))

theorem ok__law_take {f : Addr} {fd : FuncData} (F : Fun K "_law_take" "_law_take" s__law_take f fd) (B : Bi mg) : FnOk P w K mg base CX0 1 f fd ["well", "many"] sp__law_take :=
  Fun.okT F sc__law_take len__law_take (fun cdv A outer s H E hr => d__law_take B hr) sem__law_take

theorem df__law_take {f : Addr} {fd : FuncData} (F : Fun K "_law_take" "_law_take" s__law_take f fd) (hm : mg "_law_take" = some (.ref f)) (B : Bi mg) : Df P w K mg base 1 "_law_take" ["well", "many"] sp__law_take :=
  Df.of F (ok__law_take F B) hm (fun _ _ _ _ _ _ us hl => match us, hl with | [_, _], _ => rfl) (fun p hp => nomatch hp)

abbrev s__law_same : Stmt := topS 109

theorem sc__law_same : FnScope ["told", "due", "k"] ["told", "due"] (defScope s__law_same) := ⟨rfl, rfl, rfl, by decide +kernel, rfl, by decide +kernel, by decide +kernel⟩

theorem d__law_same (B : Bi mg) {f : Addr} {cdv : Value} {A : Around} {outer : List Env} {s : Shared} {H : Hp} {E : XK} (hr : Room 0 (A.deeper (envOfC "_law_same" (defScope s__law_same) s.heap.objs.size f cdv))) :
    PSs (cxOf CX0 P w K mg base ["told", "due", "k"] "_law_same" (defScope s__law_same) f cdv A outer s H E).nox (defBody s__law_same) (t__law_same K) :=
  (pss_cons (ps_if (PW.pt (pw_or (pt_cmpR op_ne (pe_callB call_isi (by rfl) B.m_isinstance (by decide +kernel) (pa_cons (pv 1) (pa_cons (pe_bltn (by rfl) B.m_tuple (by decide +kernel) rfl) pa_nil))) (pe_callB call_isi (by rfl) B.m_isinstance (by decide +kernel) (pa_cons (pv 0) (pa_cons (pe_bltn (by rfl) B.m_tuple (by decide +kernel) rfl) pa_nil))) (nomark _)) (pw_or1 (pt_cmpR op_ne (pe_callB call_isi (by rfl) B.m_isinstance (by decide +kernel) (pa_cons (pv 1) (pa_cons (pe_bltn (by rfl) B.m_list (by decide +kernel) rfl) pa_nil))) (pe_callB call_isi (by rfl) B.m_isinstance (by decide +kernel) (pa_cons (pv 0) (pa_cons (pe_bltn (by rfl) B.m_list (by decide +kernel) rfl) pa_nil))) (nomark _))))) (pss_one (ps_ret pe_bl)) pss_nil)
    (pss_cons (ps_if (pt_val (pe_callB call_isiT (by rfl) B.m_isinstance (by decide +kernel) (pa_cons (pv 1) (pa_cons (pe_tup (pa_cons (pe_bltn (by rfl) B.m_tuple (by decide +kernel) rfl) (pa_cons (pe_bltn (by rfl) B.m_list (by decide +kernel) rfl) pa_nil))) pa_nil)))) (pss_one ps_never) pss_nil)
    (pss_cons (ps_if (PW.pt (pw_or (pt_val (pe_callB call_isi (by rfl) B.m_isinstance (by decide +kernel) (pa_cons (pv 1) (pa_cons (pe_bltn (by rfl) B.m_bool (by decide +kernel) rfl) pa_nil)))) (pw_or1 (pt_val (pe_callB call_isi (by rfl) B.m_isinstance (by decide +kernel) (pa_cons (pv 0) (pa_cons (pe_bltn (by rfl) B.m_bool (by decide +kernel) rfl) pa_nil))))))) (pss_one (ps_ret (pe_and (pe_callB call_isi (by rfl) B.m_isinstance (by decide +kernel) (pa_cons (pv 1) (pa_cons (pe_bltn (by rfl) B.m_bool (by decide +kernel) rfl) pa_nil))) (pe_and (pe_callB call_isi (by rfl) B.m_isinstance (by decide +kernel) (pa_cons (pv 0) (pa_cons (pe_bltn (by rfl) B.m_bool (by decide +kernel) rfl) pa_nil))) (pe_one (pe_cmpR op_eq (pv 1) (pv 0) (nomark _))))))) pss_nil)
    (pss_cons (ps_if (PW.pt (pw_or (pt_val (pe_callB call_isi (by rfl) B.m_isinstance (by decide +kernel) (pa_cons (pv 1) (pa_cons (pe_bltn (by rfl) B.m_int (by decide +kernel) rfl) pa_nil)))) (pw_or1 (pt_val (pe_callB call_isi (by rfl) B.m_isinstance (by decide +kernel) (pa_cons (pv 0) (pa_cons (pe_bltn (by rfl) B.m_int (by decide +kernel) rfl) pa_nil))))))) (pss_one (ps_ret (pe_and (pe_callB call_isi (by rfl) B.m_isinstance (by decide +kernel) (pa_cons (pv 1) (pa_cons (pe_bltn (by rfl) B.m_int (by decide +kernel) rfl) pa_nil))) (pe_and (pe_callB call_isi (by rfl) B.m_isinstance (by decide +kernel) (pa_cons (pv 0) (pa_cons (pe_bltn (by rfl) B.m_int (by decide +kernel) rfl) pa_nil))) (pe_one (pe_cmpR op_eq (pv 1) (pv 0) (nomark _))))))) pss_nil)
    (pss_cons (ps_if (PW.pt (pw_or (pt_val (pe_callB call_isi (by rfl) B.m_isinstance (by decide +kernel) (pa_cons (pv 1) (pa_cons (pe_bltn (by rfl) B.m_str (by decide +kernel) rfl) pa_nil)))) (pw_or1 (pt_val (pe_callB call_isi (by rfl) B.m_isinstance (by decide +kernel) (pa_cons (pv 0) (pa_cons (pe_bltn (by rfl) B.m_str (by decide +kernel) rfl) pa_nil))))))) (pss_one (ps_ret (pe_and (pe_callB call_isi (by rfl) B.m_isinstance (by decide +kernel) (pa_cons (pv 1) (pa_cons (pe_bltn (by rfl) B.m_str (by decide +kernel) rfl) pa_nil))) (pe_and (pe_callB call_isi (by rfl) B.m_isinstance (by decide +kernel) (pa_cons (pv 0) (pa_cons (pe_bltn (by rfl) B.m_str (by decide +kernel) rfl) pa_nil))) (pe_one (pe_cmpR op_eq (pv 1) (pv 0) (nomark _))))))) pss_nil)
    (pss_cons (ps_if (PW.pt (pw_or (pt_cmp (pc_isN (pv 1)) rfl) (pw_or1 (pt_cmp (pc_isN (pv 0)) rfl)))) (pss_one (ps_ret (pe_and (pe_cmp (pc_isN (pv 1)) rfl) (pe_one (pe_cmp (pc_isN (pv 0)) rfl))))) pss_nil)
    (pss_one (ps_ret (pe_and (pe_callB call_isi (by rfl) B.m_isinstance (by decide +kernel) (pa_cons (pv 1) (pa_cons (pe_bltn (by rfl) B.m_dict (by decide +kernel) rfl) pa_nil))) (pe_and (pe_callB call_isi (by rfl) B.m_isinstance (by decide +kernel) (pa_cons (pv 0) (pa_cons (pe_bltn (by rfl) B.m_dict (by decide +kernel) rfl) pa_nil))) (pe_one (pe_chain op_eq op_eq (pe_callB call_len_seq (by rfl) B.m_len (by decide +kernel) (pa_cons (pv 0) pa_nil)) (pe_callB call_len_seq (by rfl) B.m_len (by decide +kernel) (pa_cons (pv 1) pa_nil)) pe_int))))))))))))

theorem ok__law_same {f : Addr} {fd : FuncData} (F : Fun K "_law_same" "_law_same" s__law_same f fd) (B : Bi mg) : FnOk P w K mg base CX0 1 f fd ["told", "due"] sp__law_same :=
  Fun.okT F sc__law_same len__law_same (fun cdv A outer s H E hr => d__law_same B hr) sem__law_same

theorem df__law_same {f : Addr} {fd : FuncData} (F : Fun K "_law_same" "_law_same" s__law_same f fd) (hm : mg "_law_same" = some (.ref f)) (B : Bi mg) : Df P w K mg base 1 "_law_same" ["told", "due"] sp__law_same :=
  Df.of F (ok__law_same F B) hm (fun _ _ _ _ _ _ us hl => match us, hl with | [_, _], _ => rfl) (fun p hp => nomatch hp)

abbrev s__law_whole : Stmt := topS 110

theorem sc__law_whole : FnScope ["value"] ["value"] (defScope s__law_whole) := ⟨rfl, rfl, rfl, by decide +kernel, rfl, by decide +kernel, by decide +kernel⟩

theorem d__law_whole (B : Bi mg) {f : Addr} {cdv : Value} {A : Around} {outer : List Env} {s : Shared} {H : Hp} {E : XK} (hr : Room 0 (A.deeper (envOfC "_law_whole" (defScope s__law_whole) s.heap.objs.size f cdv))) :
    PSs (cxOf CX0 P w K mg base ["value"] "_law_whole" (defScope s__law_whole) f cdv A outer s H E).nox (defBody s__law_whole) (t__law_whole K) :=
  (pss_one (ps_ret (pe_and (pe_callB call_isi (by rfl) B.m_isinstance (by decide +kernel) (pa_cons (pv 0) (pa_cons (pe_bltn (by rfl) B.m_int (by decide +kernel) rfl) pa_nil))) (pe_one (pe_not (pe_callB call_isi (by rfl) B.m_isinstance (by decide +kernel) (pa_cons (pv 0) (pa_cons (pe_bltn (by rfl) B.m_bool (by decide +kernel) rfl) pa_nil))))))))

theorem ok__law_whole {f : Addr} {fd : FuncData} (F : Fun K "_law_whole" "_law_whole" s__law_whole f fd) (B : Bi mg) : FnOk P w K mg base CX0 1 f fd ["value"] sp__law_whole :=
  Fun.okT F sc__law_whole len__law_whole (fun cdv A outer s H E hr => d__law_whole B hr) sem__law_whole

theorem df__law_whole {f : Addr} {fd : FuncData} (F : Fun K "_law_whole" "_law_whole" s__law_whole f fd) (hm : mg "_law_whole" = some (.ref f)) (B : Bi mg) : Df P w K mg base 1 "_law_whole" ["value"] sp__law_whole :=
  Df.of F (ok__law_whole F B) hm (fun _ _ _ _ _ _ us hl => match us, hl with | [_], _ => rfl) (fun p hp => by cases hp; intros; rfl)

abbrev s__law_mixed : Stmt := topS 111

theorem sc__law_mixed : FnScope ["well", "many", "left", "found", "k"] ["well", "many"] (defScope s__law_mixed) := ⟨rfl, rfl, rfl, by decide +kernel, rfl, by decide +kernel, by decide +kernel⟩

theorem d__law_mixed (B : Bi mg) (D__law_take : Df P w K mg base 1 "_law_take" ["well", "many"] sp__law_take) {f : Addr} {cdv : Value} {A : Around} {outer : List Env} {s : Shared} {H : Hp} {E : XK} (hr : Room 1 (A.deeper (envOfC "_law_mixed" (defScope s__law_mixed) s.heap.objs.size f cdv))) :
    PSs (cxOf CX0 P w K mg base ["well", "many", "left", "found", "k"] "_law_mixed" (defScope s__law_mixed) f cdv A outer s H E).nox (defBody s__law_mixed) (t__law_mixed K sp__law_take) :=
  (pss_cons (ps_par (i := 2) (j := 3) (by rfl) sc__law_mixed.nd rfl rfl (by decide) rfl rfl (pa_cons (pe_lc (own := [("k", 4)]) (g := (gName 4)) (tt := tYes) (te := (tVar 4)) (by rfl) sc__law_mixed.nd (pi_range1 (by rfl) B.m_range (pa_cons (pv 1) pa_nil)) (blkOk_by (N := ["well", "many", "left", "found", "k"]) (sc := defScope s__law_mixed) (by decide +kernel)) (fun _ _ _ _ _ => (pg_name (i := 4) sc__law_mixed.nd rfl (Or.inl rfl))) (fun _ _ _ _ _ => pts_nil) (fun _ _ _ _ _ => (pv 4))) (pa_cons (pe_lst pa_nil) pa_nil)) (by rfl))
    (pss_cons (ps_for PassesOwn.never (by rfl) (pi_range1 (by rfl) B.m_range (pa_cons (pv 1) pa_nil)) (pg_name (i := 4) sc__law_mixed.nd rfl (Or.inl rfl)) (pss_one (ps_expr (pe_bm PySem.F.plainAttrs_list PySem.F.slot_list_append PySem.F.type_list_append mt_append (pv 3) (pa_cons (pe_bm PySem.F.plainAttrs_list PySem.F.slot_list_pop PySem.F.type_list_pop mt_popAt (pv 2) (pa_cons (pe_df D__law_take (hr.mono (by decide)) (by rfl) (pa_cons (pv 0) (pa_cons (pe_callB call_len_seq (by rfl) B.m_len (by decide +kernel) (pa_cons (pv 2) pa_nil)) pa_nil))) pa_nil)) pa_nil)))))
    (pss_one (ps_ret (pe_callTy call_tuple_of (by rfl) B.m_tuple (by decide +kernel) (pa_cons (pv 3) pa_nil))))))

theorem ok__law_mixed {f : Addr} {fd : FuncData} (F : Fun K "_law_mixed" "_law_mixed" s__law_mixed f fd) (B : Bi mg) (D__law_take : Df P w K mg base 1 "_law_take" ["well", "many"] sp__law_take) : FnOk P w K mg base CX0 2 f fd ["well", "many"] sp__law_mixed :=
  Fun.okT F sc__law_mixed len__law_mixed (fun cdv A outer s H E hr => d__law_mixed B D__law_take hr) sem__law_mixed

theorem df__law_mixed {f : Addr} {fd : FuncData} (F : Fun K "_law_mixed" "_law_mixed" s__law_mixed f fd) (hm : mg "_law_mixed" = some (.ref f)) (B : Bi mg) (D__law_take : Df P w K mg base 1 "_law_take" ["well", "many"] sp__law_take) : Df P w K mg base 2 "_law_mixed" ["well", "many"] sp__law_mixed :=
  Df.of F (ok__law_mixed F B D__law_take) hm (fun _ _ _ _ _ _ us hl => match us, hl with | [_, _], _ => rfl) (fun p hp => nomatch hp)

abbrev s__law_pairs : Stmt := topS 112

theorem sc__law_pairs : FnScope ["table", "found", "i", "j"] ["table"] (defScope s__law_pairs) := ⟨rfl, rfl, rfl, by decide +kernel, rfl, by decide +kernel, by decide +kernel⟩

theorem d__law_pairs (B : Bi mg) {f : Addr} {cdv : Value} {A : Around} {outer : List Env} {s : Shared} {H : Hp} {E : XK} (hr : Room 0 (A.deeper (envOfC "_law_pairs" (defScope s__law_pairs) s.heap.objs.size f cdv))) :
    PSs (cxOf CX0 P w K mg base ["table", "found", "i", "j"] "_law_pairs" (defScope s__law_pairs) f cdv A outer s H E).nox (defBody s__law_pairs) (t__law_pairs K) :=
  (pss_cons (ps_set (i := 1) sc__law_pairs.nd rfl (.inl rfl) (pe_lst pa_nil))
    (pss_cons (ps_for PassesOwn.never (by rfl) (pi_range1 (by rfl) B.m_range (pa_cons (pe_callB call_len_seq (by rfl) B.m_len (by decide +kernel) (pa_cons (pv 0) pa_nil)) pa_nil)) (pg_name (i := 2) sc__law_pairs.nd rfl (Or.inl rfl)) (pss_one (ps_for PassesOwn.never (by rfl) (pi_range1 (by rfl) B.m_range (pa_cons (pe_callB call_len_seq (by rfl) B.m_len (by decide +kernel) (pa_cons (pe_ix ix_tup (pv 0) pe_int (fun _ _ => rfl)) pa_nil)) pa_nil)) (pg_name (i := 3) sc__law_pairs.nd rfl (Or.inl rfl)) (pss_one (ps_set (i := 1) sc__law_pairs.nd rfl (.inl rfl) (pe_op op_cat (pv 1) (pe_op op_rep (pe_lst (pa_cons (pe_tup (pa_cons (pv 2) (pa_cons (pv 3) pa_nil))) pa_nil)) (pe_ix ix_tup (pe_ix ix_tup (pv 0) (pv 2) (fun _ _ => rfl)) (pv 3) (fun _ _ => rfl)))))))))
    (pss_one (ps_ret (pv 1)))))

theorem ok__law_pairs {f : Addr} {fd : FuncData} (F : Fun K "_law_pairs" "_law_pairs" s__law_pairs f fd) (B : Bi mg) : FnOk P w K mg base CX0 1 f fd ["table"] sp__law_pairs :=
  Fun.okT F sc__law_pairs len__law_pairs (fun cdv A outer s H E hr => d__law_pairs B hr) sem__law_pairs

theorem df__law_pairs {f : Addr} {fd : FuncData} (F : Fun K "_law_pairs" "_law_pairs" s__law_pairs f fd) (hm : mg "_law_pairs" = some (.ref f)) (B : Bi mg) : Df P w K mg base 1 "_law_pairs" ["table"] sp__law_pairs :=
  Df.of F (ok__law_pairs F B) hm (fun _ _ _ _ _ _ us hl => match us, hl with | [_], _ => rfl) (fun p hp => by cases hp; intros; rfl)

abbrev s__law_is_round : Stmt := topS 113

theorem sc__law_is_round : FnScope ["value", "many", "more", "each", "i", "j", "k", "firsts", "seconds"] ["value", "many", "more"] (defScope s__law_is_round) := ⟨rfl, rfl, rfl, by decide +kernel, rfl, by decide +kernel, by decide +kernel⟩

theorem d__law_is_round (B : Bi mg) (D__law_whole : Df P w K mg base 1 "_law_whole" ["value"] sp__law_whole) {f : Addr} {cdv : Value} {A : Around} {outer : List Env} {s : Shared} {H : Hp} {E : XK} (hr : Room 1 (A.deeper (envOfC "_law_is_round" (defScope s__law_is_round) s.heap.objs.size f cdv))) :
    PSs (cxOf CX0 P w K mg base ["value", "many", "more", "each", "i", "j", "k", "firsts", "seconds"] "_law_is_round" (defScope s__law_is_round) f cdv A outer s H E).nox (defBody s__law_is_round) (t__law_is_round K sp__law_whole) :=
  (pss_cons (ps_if (PW.pt (pw_or (pt_not (pt_val (pe_callB call_isi (by rfl) B.m_isinstance (by decide +kernel) (pa_cons (pv 0) (pa_cons (pe_bltn (by rfl) B.m_tuple (by decide +kernel) rfl) pa_nil))))) (pw_or1 (pt_not (pt_val (pe_callB (cr_all (by rfl)) (by rfl) B.m_all (by decide +kernel) (pa_cons (pe_lc (own := [("each", 3)]) (g := (gName 3)) (tt := tYes) (te := (tAndV (tCB (rIsi K) (tCons (tVar 3) (tCons (tC (.ty "tuple")) tNil))) (tAndV (tOp rEq (tCB (rLenQ K) (tCons (tVar 3) tNil)) (tC (.int 2))) (tAndV (tCall sp__law_whole [] E0 (tCons (tOp (rIxT K) (tVar 3) (tC (.int 0))) tNil)) (tCall sp__law_whole [] E0 (tCons (tOp (rIxT K) (tVar 3) (tC (.int 1))) tNil)))))) (by rfl) sc__law_is_round.nd (pi_tup (pv 0)) (blkOk_by (N := ["value", "many", "more", "each", "i", "j", "k", "firsts", "seconds"]) (sc := defScope s__law_is_round) (by decide +kernel)) (fun _ _ _ _ _ => (pg_name (i := 3) sc__law_is_round.nd rfl (Or.inl rfl))) (fun _ _ _ _ _ => pts_nil) (fun _ _ _ _ _ => (pe_and (pe_callB call_isi (by rfl) B.m_isinstance (by decide +kernel) (pa_cons (pv 3) (pa_cons (pe_bltn (by rfl) B.m_tuple (by decide +kernel) rfl) pa_nil))) (pe_and (pe_cmpR op_eq (pe_callB call_len_seq (by rfl) B.m_len (by decide +kernel) (pa_cons (pv 3) pa_nil)) pe_int (nomark _)) (pe_and (pe_df D__law_whole (hr.mono (by decide)) (by rfl) (pa_cons (pe_ix ix_tup (pv 3) pe_int (fun _ _ => rfl)) pa_nil)) (pe_one (pe_df D__law_whole (hr.mono (by decide)) (by rfl) (pa_cons (pe_ix ix_tup (pv 3) pe_int (fun _ _ => rfl)) pa_nil)))))))) pa_nil))))))) (pss_one (ps_ret pe_bl)) pss_nil)
    (pss_cons (ps_if (PW.pt (pw_or (pt_not (pt_val (pe_callB (cr_all (by rfl)) (by rfl) B.m_all (by decide +kernel) (pa_cons (pe_lc (own := [("i", 4), ("j", 5)]) (g := (gTup K 2 (gCons (gName 4) (gCons (gName 5) gNil)))) (tt := tYes) (te := (tAndV (tChain oLe oLt (tC (.int 0)) (tVar 4) (tVar 1)) (tChain oLe oLt (tC (.int 0)) (tVar 5) (tVar 2)))) (by rfl) sc__law_is_round.nd (pi_tup (pv 0)) (blkOk_by (N := ["value", "many", "more", "each", "i", "j", "k", "firsts", "seconds"]) (sc := defScope s__law_is_round) (by decide +kernel)) (fun _ _ _ _ _ => (pg_tup (by rfl) (pgs_cons (pg_name (i := 4) sc__law_is_round.nd rfl (Or.inl rfl)) (pgs_cons (pg_name (i := 5) sc__law_is_round.nd rfl (Or.inl rfl)) pgs_nil)))) (fun _ _ _ _ _ => pts_nil) (fun _ _ _ _ _ => (pe_and (pe_chain op_le op_lt pe_int (pv 4) (pv 1)) (pe_one (pe_chain op_le op_lt pe_int (pv 5) (pv 2)))))) pa_nil)))) (pw_or1 (pt_val (pe_callB (cr_any (by rfl)) (by rfl) B.m_any (by decide +kernel) (pa_cons (pe_lc (own := [("k", 6)]) (g := (gName 6)) (tt := tYes) (te := (tOp (rGeT K) (tOp (rIxT K) (tVar 0) (tVar 6)) (tOp (rIxT K) (tVar 0) (tOp oAdd (tVar 6) (tC (.int 1)))))) (by rfl) sc__law_is_round.nd (pi_range1 (by rfl) B.m_range (pa_cons (pe_op op_sub (pe_callB call_len_seq (by rfl) B.m_len (by decide +kernel) (pa_cons (pv 0) pa_nil)) pe_int) pa_nil)) (blkOk_by (N := ["value", "many", "more", "each", "i", "j", "k", "firsts", "seconds"]) (sc := defScope s__law_is_round) (by decide +kernel)) (fun _ _ _ _ _ => (pg_name (i := 6) sc__law_is_round.nd rfl (Or.inl rfl))) (fun _ _ _ _ _ => pts_nil) (fun _ _ _ _ _ => (pe_cmpR (op_geT hr.units0) (pe_ix ix_tup (pv 0) (pv 6) (fun _ _ => rfl)) (pe_ix ix_tup (pv 0) (pe_op op_add (pv 6) pe_int) (fun _ _ => rfl)) (nomark _)))) pa_nil)))))) (pss_one (ps_ret pe_bl)) pss_nil)
    (pss_cons (ps_asg (pe_tup (pa_cons (pe_lc (own := [("i", 4), ("j", 5)]) (g := (gTup K 2 (gCons (gName 4) (gCons (gName 5) gNil)))) (tt := tYes) (te := (tVar 4)) (by rfl) sc__law_is_round.nd (pi_tup (pv 0)) (blkOk_by (N := ["value", "many", "more", "each", "i", "j", "k", "firsts", "seconds"]) (sc := defScope s__law_is_round) (by decide +kernel)) (fun _ _ _ _ _ => (pg_tup (by rfl) (pgs_cons (pg_name (i := 4) sc__law_is_round.nd rfl (Or.inl rfl)) (pgs_cons (pg_name (i := 5) sc__law_is_round.nd rfl (Or.inl rfl)) pgs_nil)))) (fun _ _ _ _ _ => pts_nil) (fun _ _ _ _ _ => (pv 4))) (pa_cons (pe_lc (own := [("i", 4), ("j", 5)]) (g := (gTup K 2 (gCons (gName 4) (gCons (gName 5) gNil)))) (tt := tYes) (te := (tVar 5)) (by rfl) sc__law_is_round.nd (pi_tup (pv 0)) (blkOk_by (N := ["value", "many", "more", "each", "i", "j", "k", "firsts", "seconds"]) (sc := defScope s__law_is_round) (by decide +kernel)) (fun _ _ _ _ _ => (pg_tup (by rfl) (pgs_cons (pg_name (i := 4) sc__law_is_round.nd rfl (Or.inl rfl)) (pgs_cons (pg_name (i := 5) sc__law_is_round.nd rfl (Or.inl rfl)) pgs_nil)))) (fun _ _ _ _ _ => pts_nil) (fun _ _ _ _ _ => (pv 5))) pa_nil))) (pg_tup (by rfl) (pgs_cons (pg_name (i := 7) sc__law_is_round.nd rfl (Or.inr rfl)) (pgs_cons (pg_name (i := 8) sc__law_is_round.nd rfl (Or.inr rfl)) pgs_nil))))
    (pss_one (ps_ret (pe_and (pe_callB (cr_all (by rfl)) (by rfl) B.m_all (by decide +kernel) (pa_cons (pe_lc (own := [("i", 4)]) (g := (gName 4)) (tt := tYes) (te := (tOp rEq (tBM K "list" (rCntI K) (tVar 7) (tCons (tVar 4) tNil)) (tC (.int 1)))) (by rfl) sc__law_is_round.nd (pi_list (pv 7)) (blkOk_by (N := ["value", "many", "more", "each", "i", "j", "k", "firsts", "seconds"]) (sc := defScope s__law_is_round) (by decide +kernel)) (fun _ _ _ _ _ => (pg_name (i := 4) sc__law_is_round.nd rfl (Or.inl rfl))) (fun _ _ _ _ _ => pts_nil) (fun _ _ _ _ _ => (pe_cmpR op_eq (pe_bm PySem.F.plainAttrs_list PySem.F.slot_list_count PySem.F.type_list_count mt_lcount (pv 7) (pa_cons (pv 4) pa_nil)) pe_int (nomark _)))) pa_nil)) (pe_one (pe_callB (cr_all (by rfl)) (by rfl) B.m_all (by decide +kernel) (pa_cons (pe_lc (own := [("j", 5)]) (g := (gName 5)) (tt := tYes) (te := (tOp rEq (tBM K "list" (rCntI K) (tVar 8) (tCons (tVar 5) tNil)) (tC (.int 1)))) (by rfl) sc__law_is_round.nd (pi_list (pv 8)) (blkOk_by (N := ["value", "many", "more", "each", "i", "j", "k", "firsts", "seconds"]) (sc := defScope s__law_is_round) (by decide +kernel)) (fun _ _ _ _ _ => (pg_name (i := 5) sc__law_is_round.nd rfl (Or.inl rfl))) (fun _ _ _ _ _ => pts_nil) (fun _ _ _ _ _ => (pe_cmpR op_eq (pe_bm PySem.F.plainAttrs_list PySem.F.slot_list_count PySem.F.type_list_count mt_lcount (pv 8) (pa_cons (pv 5) pa_nil)) pe_int (nomark _)))) pa_nil)))))))))

theorem ok__law_is_round {f : Addr} {fd : FuncData} (F : Fun K "_law_is_round" "_law_is_round" s__law_is_round f fd) (B : Bi mg) (D__law_whole : Df P w K mg base 1 "_law_whole" ["value"] sp__law_whole) : FnOk P w K mg base CX0 2 f fd ["value", "many", "more"] sp__law_is_round :=
  Fun.okT F sc__law_is_round len__law_is_round (fun cdv A outer s H E hr => d__law_is_round B D__law_whole hr) sem__law_is_round

theorem df__law_is_round {f : Addr} {fd : FuncData} (F : Fun K "_law_is_round" "_law_is_round" s__law_is_round f fd) (hm : mg "_law_is_round" = some (.ref f)) (B : Bi mg) (D__law_whole : Df P w K mg base 1 "_law_whole" ["value"] sp__law_whole) : Df P w K mg base 2 "_law_is_round" ["value", "many", "more"] sp__law_is_round :=
  Df.of F (ok__law_is_round F B D__law_whole) hm (fun _ _ _ _ _ _ us hl => match us, hl with | [_, _, _], _ => rfl) (fun p hp => nomatch hp)

abbrev s__law_is_plan : Stmt := topS 114

theorem sc__law_is_plan : FnScope ["table", "value", "rounds", "each", "found"] ["table", "value", "rounds"] (defScope s__law_is_plan) := ⟨rfl, rfl, rfl, by decide +kernel, rfl, by decide +kernel, by decide +kernel⟩

theorem d__law_is_plan (B : Bi mg) (D__law_is_round : Df P w K mg base 2 "_law_is_round" ["value", "many", "more"] sp__law_is_round) (D__law_pairs : Df P w K mg base 1 "_law_pairs" ["table"] sp__law_pairs) {f : Addr} {cdv : Value} {A : Around} {outer : List Env} {s : Shared} {H : Hp} {E : XK} (hr : Room 2 (A.deeper (envOfC "_law_is_plan" (defScope s__law_is_plan) s.heap.objs.size f cdv))) :
    PSs (cxOf CX0 P w K mg base ["table", "value", "rounds", "each", "found"] "_law_is_plan" (defScope s__law_is_plan) f cdv A outer s H E).nox (defBody s__law_is_plan) (t__law_is_plan K sp__law_is_round sp__law_pairs) :=
  (pss_cons (ps_if (PW.pt (pw_or (pt_not (pt_val (pe_callB call_isi (by rfl) B.m_isinstance (by decide +kernel) (pa_cons (pv 1) (pa_cons (pe_bltn (by rfl) B.m_tuple (by decide +kernel) rfl) pa_nil))))) (pw_or (pt_cmpR op_ne (pe_callB call_len_seq (by rfl) B.m_len (by decide +kernel) (pa_cons (pv 1) pa_nil)) (pv 2) (nomark _)) (pw_or1 (pt_not (pt_val (pe_callB (cr_all (by rfl)) (by rfl) B.m_all (by decide +kernel) (pa_cons (pe_lc (own := [("each", 3)]) (g := (gName 3)) (tt := tYes) (te := (tCall sp__law_is_round [] E0 (tCons (tVar 3) (tCons (tCB (rLenQ K) (tCons (tVar 0) tNil)) (tCons (tCB (rLenQ K) (tCons (tOp (rIxT K) (tVar 0) (tC (.int 0))) tNil)) tNil))))) (by rfl) sc__law_is_plan.nd (pi_tup (pv 1)) (blkOk_by (N := ["table", "value", "rounds", "each", "found"]) (sc := defScope s__law_is_plan) (by decide +kernel)) (fun _ _ _ _ _ => (pg_name (i := 3) sc__law_is_plan.nd rfl (Or.inl rfl))) (fun _ _ _ _ _ => pts_nil) (fun _ _ _ _ _ => (pe_df D__law_is_round (hr.mono (by decide)) (by rfl) (pa_cons (pv 3) (pa_cons (pe_callB call_len_seq (by rfl) B.m_len (by decide +kernel) (pa_cons (pv 0) pa_nil)) (pa_cons (pe_callB call_len_seq (by rfl) B.m_len (by decide +kernel) (pa_cons (pe_ix ix_tup (pv 0) pe_int (fun _ _ => rfl)) pa_nil)) pa_nil)))))) pa_nil)))))))) (pss_one (ps_ret pe_bl)) pss_nil)
    (pss_cons (ps_set (i := 4) sc__law_is_plan.nd rfl (.inl rfl) (pe_lst pa_nil))
    (pss_cons (ps_for PassesOwn.never (by rfl) (pi_tup (pv 1)) (pg_name (i := 3) sc__law_is_plan.nd rfl (Or.inl rfl)) (pss_one (ps_set (i := 4) sc__law_is_plan.nd rfl (.inl rfl) (pe_op op_cat (pv 4) (pe_callTy call_list_of (by rfl) B.m_list (by decide +kernel) (pa_cons (pv 3) pa_nil))))))
    (pss_one (ps_ret (pe_cmpR (op_eqD hr.units) (pe_callB (cr_sortD hr.units) (by rfl) B.m_sorted (by decide +kernel) (pa_cons (pv 4) pa_nil)) (pe_df D__law_pairs (hr.mono (by decide)) (by rfl) (pa_cons (pv 0) pa_nil)) (nomark _)))))))

theorem ok__law_is_plan {f : Addr} {fd : FuncData} (F : Fun K "_law_is_plan" "_law_is_plan" s__law_is_plan f fd) (B : Bi mg) (D__law_is_round : Df P w K mg base 2 "_law_is_round" ["value", "many", "more"] sp__law_is_round) (D__law_pairs : Df P w K mg base 1 "_law_pairs" ["table"] sp__law_pairs) : FnOk P w K mg base CX0 3 f fd ["table", "value", "rounds"] sp__law_is_plan :=
  Fun.okT F sc__law_is_plan len__law_is_plan (fun cdv A outer s H E hr => d__law_is_plan B D__law_is_round D__law_pairs hr) sem__law_is_plan

theorem df__law_is_plan {f : Addr} {fd : FuncData} (F : Fun K "_law_is_plan" "_law_is_plan" s__law_is_plan f fd) (hm : mg "_law_is_plan" = some (.ref f)) (B : Bi mg) (D__law_is_round : Df P w K mg base 2 "_law_is_round" ["value", "many", "more"] sp__law_is_round) (D__law_pairs : Df P w K mg base 1 "_law_pairs" ["table"] sp__law_pairs) : Df P w K mg base 3 "_law_is_plan" ["table", "value", "rounds"] sp__law_is_plan :=
  Df.of F (ok__law_is_plan F B D__law_is_round D__law_pairs) hm (fun _ _ _ _ _ _ us hl => match us, hl with | [_, _, _], _ => rfl) (fun p hp => nomatch hp)

abbrev s__law_wires_2 : Stmt := topS 115

theorem sc__law_wires_2 : FnScope ["setting", "lines", "half", "columns", "upper", "column", "lower", "ways", "found", "line", "at", "side", "there"] ["setting", "lines"] (defScope s__law_wires_2) := ⟨rfl, rfl, rfl, by decide +kernel, rfl, by decide +kernel, by decide +kernel⟩

theorem d__law_wires_2 (B : Bi mg) {f : Addr} {cdv : Value} {A : Around} {outer : List Env} {s : Shared} {H : Hp} {E : XK} (hr : Room 0 (A.deeper (envOfC "_law_wires" (defScope s__law_wires_2) s.heap.objs.size f cdv))) :
    PSs (cxOf CX0 P w K mg base ["setting", "lines", "half", "columns", "upper", "column", "lower", "ways", "found", "line", "at", "side", "there"] "_law_wires" (defScope s__law_wires_2) f cdv A outer s H E).nox (defBody s__law_wires_2) (t__law_wires_2 K) :=
  (pss_cons (ps_if (pt_cmpR op_eq (pv 1) pe_int (nomark _)) (pss_one (ps_ret (pe_tup (pa_cons (pe_ix ix_tup (pe_ix ix_tup (pv 0) pe_int (fun _ _ => rfl)) pe_int (fun _ _ => rfl)) (pa_cons (pe_op op_sub pe_int (pe_ix ix_tup (pe_ix ix_tup (pv 0) pe_int (fun _ _ => rfl)) pe_int (fun _ _ => rfl))) pa_nil))))) pss_nil)
    (pss_cons ps_never
    (pss_cons ps_never
    (pss_cons ps_never
    (pss_cons ps_never
    (pss_cons ps_never
    (pss_cons ps_never
    (pss_one ps_never))))))))

theorem ok__law_wires_2 {f : Addr} {fd : FuncData} (F : Fun K "_law_wires" "_law_wires" s__law_wires_2 f fd) (B : Bi mg) : FnOk P w K mg base CX0 1 f fd ["setting", "lines"] sp__law_wires_2 :=
  Fun.okT F sc__law_wires_2 len__law_wires_2 (fun cdv A outer s H E hr => d__law_wires_2 B hr) sem__law_wires_2

theorem df__law_wires_2 {f : Addr} {fd : FuncData} (F : Fun K "_law_wires" "_law_wires" s__law_wires_2 f fd) (hm : mg "_law_wires" = some (.ref f)) (B : Bi mg) : Df P w K mg base 1 "_law_wires" ["setting", "lines"] sp__law_wires_2 :=
  Df.of F (ok__law_wires_2 F B) hm (fun _ _ _ _ _ _ us hl => match us, hl with | [_, _], _ => rfl) (fun p hp => nomatch hp)

abbrev s__law_wires : Stmt := topS 115

theorem sc__law_wires : FnScope ["setting", "lines", "half", "columns", "upper", "column", "lower", "ways", "found", "line", "at", "side", "there"] ["setting", "lines"] (defScope s__law_wires) := ⟨rfl, rfl, rfl, by decide +kernel, rfl, by decide +kernel, by decide +kernel⟩

theorem d__law_wires (B : Bi mg) (D__law_wires_2 : Df P w K mg base 1 "_law_wires" ["setting", "lines"] sp__law_wires_2) (D__law_four : Df P w K mg base 1 "_law_four" ["setting"] sp__law_four) {f : Addr} {cdv : Value} {A : Around} {outer : List Env} {s : Shared} {H : Hp} {E : XK} (hr : Room 1 (A.deeper (envOfC "_law_wires" (defScope s__law_wires) s.heap.objs.size f cdv))) :
    PSs (cxOf CX0 P w K mg base ["setting", "lines", "half", "columns", "upper", "column", "lower", "ways", "found", "line", "at", "side", "there"] "_law_wires" (defScope s__law_wires) f cdv A outer s H E).nox (defBody s__law_wires) (t__law_wires K sp__law_wires_2 sp__law_four) :=
  (pss_cons (ps_if (pt_cmpR op_eq (pv 1) pe_int (nomark _)) (pss_one (ps_ret (pe_tup (pa_cons (pe_ix ix_tup (pe_ix ix_tup (pv 0) pe_int (fun _ _ => rfl)) pe_int (fun _ _ => rfl)) (pa_cons (pe_op op_sub pe_int (pe_ix ix_tup (pe_ix ix_tup (pv 0) pe_int (fun _ _ => rfl)) pe_int (fun _ _ => rfl))) pa_nil))))) pss_nil)
    (pss_cons (ps_asg (pe_tup (pa_cons (pe_op op_fdiv (pv 1) pe_int) (pa_cons (pe_callB call_len_seq (by rfl) B.m_len (by decide +kernel) (pa_cons (pv 0) pa_nil)) pa_nil))) (pg_tup (by rfl) (pgs_cons (pg_name (i := 2) sc__law_wires.nd rfl (Or.inr rfl)) (pgs_cons (pg_name (i := 3) sc__law_wires.nd rfl (Or.inl rfl)) pgs_nil))))
    (pss_cons (ps_set (i := 4) sc__law_wires.nd rfl (.inl rfl) (pe_callTy call_tuple_of (by rfl) B.m_tuple (by decide +kernel) (pa_cons (pe_lc (own := [("column", 5)]) (g := (gName 5)) (tt := tYes) (te := (tSl (rSlA K) (tVar 5) tNoPart (tPart (tOp oDiv (tVar 2) (tC (.int 2)))))) (by rfl) sc__law_wires.nd (pi_tup (pe_slice sl_tupA (pv 0) (po_some pe_int) (po_some (pe_op op_sub (pv 3) pe_int)))) (blkOk_by (N := ["setting", "lines", "half", "columns", "upper", "column", "lower", "ways", "found", "line", "at", "side", "there"]) (sc := defScope s__law_wires) (by decide +kernel)) (fun _ _ _ _ _ => (pg_name (i := 5) sc__law_wires.nd rfl (Or.inl rfl))) (fun _ _ _ _ _ => pts_nil) (fun _ _ _ _ _ => (pe_slice sl_tupA (pv 5) po_none (po_some (pe_op op_fdiv (pv 2) pe_int))))) pa_nil)))
    (pss_cons (ps_set (i := 6) sc__law_wires.nd rfl (.inl rfl) (pe_callTy call_tuple_of (by rfl) B.m_tuple (by decide +kernel) (pa_cons (pe_lc (own := [("column", 5)]) (g := (gName 5)) (tt := tYes) (te := (tSl (rSlA K) (tVar 5) (tPart (tOp oDiv (tVar 2) (tC (.int 2)))) tNoPart)) (by rfl) sc__law_wires.nd (pi_tup (pe_slice sl_tupA (pv 0) (po_some pe_int) (po_some (pe_op op_sub (pv 3) pe_int)))) (blkOk_by (N := ["setting", "lines", "half", "columns", "upper", "column", "lower", "ways", "found", "line", "at", "side", "there"]) (sc := defScope s__law_wires) (by decide +kernel)) (fun _ _ _ _ _ => (pg_name (i := 5) sc__law_wires.nd rfl (Or.inl rfl))) (fun _ _ _ _ _ => pts_nil) (fun _ _ _ _ _ => (pe_slice sl_tupA (pv 5) (po_some (pe_op op_fdiv (pv 2) pe_int)) po_none))) pa_nil)))
    (pss_cons (ps_if (pt_cmpR op_eq (pv 2) pe_int (nomark _)) (pss_one (ps_set (i := 7) sc__law_wires.nd rfl (.inl rfl) (pe_tup (pa_cons (pe_df D__law_wires_2 (hr.mono (by decide)) (by rfl) (pa_cons (pv 4) (pa_cons pe_int pa_nil))) (pa_cons (pe_df D__law_wires_2 (hr.mono (by decide)) (by rfl) (pa_cons (pv 6) (pa_cons pe_int pa_nil))) pa_nil))))) (pss_one (ps_set (i := 7) sc__law_wires.nd rfl (.inl rfl) (pe_tup (pa_cons (pe_df D__law_four (hr.mono (by decide)) (by rfl) (pa_cons (pv 4) pa_nil)) (pa_cons (pe_df D__law_four (hr.mono (by decide)) (by rfl) (pa_cons (pv 6) pa_nil)) pa_nil))))))
    (pss_cons (ps_set (i := 8) sc__law_wires.nd rfl (.inl rfl) (pe_lst pa_nil))
    (pss_cons (ps_for PassesOwn.never (by rfl) (pi_range1 (by rfl) B.m_range (pa_cons (pv 1) pa_nil)) (pg_name (i := 9) sc__law_wires.nd rfl (Or.inl rfl)) (pss_cons (ps_par (i := 10) (j := 11) (by rfl) sc__law_wires.nd rfl rfl (by decide) rfl rfl (pa_cons (pe_op op_fdiv (pv 9) pe_int) (pa_cons (pe_op op_mod (pe_callTy call_int1 (by rfl) B.m_int (by decide +kernel) (pa_cons (pe_op op_add (pv 9) (pe_ix ix_tup (pe_ix ix_tup (pv 0) pe_int (fun _ _ => rfl)) (pe_op op_fdiv (pv 9) pe_int) (fun _ _ => rfl))) pa_nil)) pe_int) pa_nil)) (by rfl))
    (pss_cons (ps_set (i := 12) sc__law_wires.nd rfl (.inl rfl) (pe_ix ix_tup (pe_ix ix_tup (pv 7) (pv 11) (fun _ _ => rfl)) (pv 10) (fun _ _ => rfl)))
    (pss_one (ps_expr (pe_bm PySem.F.plainAttrs_list PySem.F.slot_list_append PySem.F.type_list_append mt_append (pv 8) (pa_cons (pe_op op_add (pe_op op_mul pe_int (pv 12)) (pe_op op_mod (pe_callTy call_int1 (by rfl) B.m_int (by decide +kernel) (pa_cons (pe_op op_add (pv 11) (pe_ix ix_tup (pe_ix ix_tup (pv 0) (pe_op op_sub (pv 3) pe_int) (fun _ _ => rfl)) (pv 12) (fun _ _ => rfl))) pa_nil)) pe_int)) pa_nil)))))))
    (pss_one (ps_ret (pe_callTy call_tuple_of (by rfl) B.m_tuple (by decide +kernel) (pa_cons (pv 8) pa_nil)))))))))))

theorem ok__law_wires {f : Addr} {fd : FuncData} (F : Fun K "_law_wires" "_law_wires" s__law_wires f fd) (B : Bi mg) (D__law_wires_2 : Df P w K mg base 1 "_law_wires" ["setting", "lines"] sp__law_wires_2) (D__law_four : Df P w K mg base 1 "_law_four" ["setting"] sp__law_four) : FnOk P w K mg base CX0 2 f fd ["setting", "lines"] sp__law_wires :=
  Fun.okT F sc__law_wires len__law_wires (fun cdv A outer s H E hr => d__law_wires B D__law_wires_2 D__law_four hr) sem__law_wires

theorem df__law_wires {f : Addr} {fd : FuncData} (F : Fun K "_law_wires" "_law_wires" s__law_wires f fd) (hm : mg "_law_wires" = some (.ref f)) (B : Bi mg) (D__law_wires_2 : Df P w K mg base 1 "_law_wires" ["setting", "lines"] sp__law_wires_2) (D__law_four : Df P w K mg base 1 "_law_four" ["setting"] sp__law_four) : Df P w K mg base 2 "_law_wires" ["setting", "lines"] sp__law_wires :=
  Df.of F (ok__law_wires F B D__law_wires_2 D__law_four) hm (fun _ _ _ _ _ _ us hl => match us, hl with | [_, _], _ => rfl) (fun p hp => nomatch hp)

abbrev s__law_four : Stmt := topS 116

theorem sc__law_four : FnScope ["setting", "found", "line", "at", "side", "there"] ["setting"] (defScope s__law_four) := ⟨rfl, rfl, rfl, by decide +kernel, rfl, by decide +kernel, by decide +kernel⟩

theorem d__law_four (B : Bi mg) {f : Addr} {cdv : Value} {A : Around} {outer : List Env} {s : Shared} {H : Hp} {E : XK} (hr : Room 0 (A.deeper (envOfC "_law_four" (defScope s__law_four) s.heap.objs.size f cdv))) :
    PSs (cxOf CX0 P w K mg base ["setting", "found", "line", "at", "side", "there"] "_law_four" (defScope s__law_four) f cdv A outer s H E).nox (defBody s__law_four) (t__law_four K) :=
  (pss_cons (ps_set (i := 1) sc__law_four.nd rfl (.inl rfl) (pe_lst pa_nil))
    (pss_cons (ps_for PassesOwn.never (by rfl) (pi_range1 (by rfl) B.m_range (pa_cons pe_int pa_nil)) (pg_name (i := 2) sc__law_four.nd rfl (Or.inl rfl)) (pss_cons (ps_par (i := 3) (j := 4) (by rfl) sc__law_four.nd rfl rfl (by decide) rfl rfl (pa_cons (pe_op op_fdiv (pv 2) pe_int) (pa_cons (pe_op op_mod (pe_callTy call_int1 (by rfl) B.m_int (by decide +kernel) (pa_cons (pe_op op_add (pv 2) (pe_ix ix_tup (pe_ix ix_tup (pv 0) pe_int (fun _ _ => rfl)) (pe_op op_fdiv (pv 2) pe_int) (fun _ _ => rfl))) pa_nil)) pe_int) pa_nil)) (by rfl))
    (pss_cons (ps_set (i := 5) sc__law_four.nd rfl (.inl rfl) (pe_op op_mod (pe_callTy call_int1 (by rfl) B.m_int (by decide +kernel) (pa_cons (pe_op op_add (pv 3) (pe_ix ix_tup (pe_ix ix_tup (pv 0) pe_int (fun _ _ => rfl)) (pv 4) (fun _ _ => rfl))) pa_nil)) pe_int))
    (pss_one (ps_expr (pe_bm PySem.F.plainAttrs_list PySem.F.slot_list_append PySem.F.type_list_append mt_append (pv 1) (pa_cons (pe_op op_add (pe_op op_mul pe_int (pv 5)) (pe_op op_mod (pe_callTy call_int1 (by rfl) B.m_int (by decide +kernel) (pa_cons (pe_op op_add (pv 4) (pe_ix ix_tup (pe_ix ix_tup (pv 0) pe_int (fun _ _ => rfl)) (pv 5) (fun _ _ => rfl))) pa_nil)) pe_int)) pa_nil)))))))
    (pss_one (ps_ret (pe_callTy call_tuple_of (by rfl) B.m_tuple (by decide +kernel) (pa_cons (pv 1) pa_nil))))))

theorem ok__law_four {f : Addr} {fd : FuncData} (F : Fun K "_law_four" "_law_four" s__law_four f fd) (B : Bi mg) : FnOk P w K mg base CX0 1 f fd ["setting"] sp__law_four :=
  Fun.okT F sc__law_four len__law_four (fun cdv A outer s H E hr => d__law_four B hr) sem__law_four

theorem df__law_four {f : Addr} {fd : FuncData} (F : Fun K "_law_four" "_law_four" s__law_four f fd) (hm : mg "_law_four" = some (.ref f)) (B : Bi mg) : Df P w K mg base 1 "_law_four" ["setting"] sp__law_four :=
  Df.of F (ok__law_four F B) hm (fun _ _ _ _ _ _ us hl => match us, hl with | [_], _ => rfl) (fun p hp => by cases hp; intros; rfl)

abbrev s__law_setting : Stmt := topS 117

theorem sc__law_setting : FnScope ["well", "lines", "columns", "k", "c"] ["well", "lines"] (defScope s__law_setting) := ⟨rfl, rfl, rfl, by decide +kernel, rfl, by decide +kernel, by decide +kernel⟩

theorem d__law_setting (B : Bi mg) (D__law_take : Df P w K mg base 1 "_law_take" ["well", "many"] sp__law_take) {f : Addr} {cdv : Value} {A : Around} {outer : List Env} {s : Shared} {H : Hp} {E : XK} (hr : Room 1 (A.deeper (envOfC "_law_setting" (defScope s__law_setting) s.heap.objs.size f cdv))) :
    PSs (cxOf CX0 P w K mg base ["well", "lines", "columns", "k", "c"] "_law_setting" (defScope s__law_setting) f cdv A outer s H E).nox (defBody s__law_setting) (t__law_setting K sp__law_take) :=
  (pss_cons (ps_set (i := 2) sc__law_setting.nd rfl (.inl rfl) (pe_dget (hu_of hr) (pe_disp (pps_cons pe_int pe_int (pps_cons pe_int pe_int (pps_cons pe_int pe_int pps_nil))) (by rfl) (by rfl) (fun z => by cases z) (by decide)) (pv 1) (fun _ _ => rfl)))
    (pss_one (ps_ret (pe_callTy call_tuple_of (by rfl) B.m_tuple (by decide +kernel) (pa_cons (pe_lc (own := [("c", 4)]) (g := (gName 4)) (tt := tYes) (te := (tCB (rTupQ K) (tCons (tLc (iRng1 (tCons (tOp oDiv (tVar 1) (tC (.int 2))) tNil)) (gName 3) tYes (tCall sp__law_take [] E0 (tCons (tVar 0) (tCons (tC (.int 2)) tNil))) [3]) tNil))) (by rfl) sc__law_setting.nd (pi_range1 (by rfl) B.m_range (pa_cons (pv 2) pa_nil)) (blkOk_by (N := ["well", "lines", "columns", "k", "c"]) (sc := defScope s__law_setting) (by decide +kernel)) (fun _ _ _ _ _ => (pg_name (i := 4) sc__law_setting.nd rfl (Or.inl rfl))) (fun _ _ _ _ _ => pts_nil) (fun _ _ _ _ _ => (pe_callTy call_tuple_of (by rfl) B.m_tuple (by decide +kernel) (pa_cons (pe_lc (own := [("k", 3)]) (g := (gName 3)) (tt := tYes) (te := (tCall sp__law_take [] E0 (tCons (tVar 0) (tCons (tC (.int 2)) tNil)))) (by rfl) sc__law_setting.nd (pi_range1 (by rfl) B.m_range (pa_cons (pe_op op_fdiv (pv 1) pe_int) pa_nil)) (blkOk_by (by kernel_rfl)) (fun _ _ _ _ _ => (pg_name (i := 3) sc__law_setting.nd rfl (Or.inl rfl))) (fun _ _ _ _ _ => pts_nil) (fun _ _ _ _ _ => (pe_df D__law_take (hr.mono (by decide)) (by rfl) (pa_cons (pv 0) (pa_cons pe_int pa_nil))))) pa_nil)))) pa_nil)))))

theorem ok__law_setting {f : Addr} {fd : FuncData} (F : Fun K "_law_setting" "_law_setting" s__law_setting f fd) (B : Bi mg) (D__law_take : Df P w K mg base 1 "_law_take" ["well", "many"] sp__law_take) : FnOk P w K mg base CX0 2 f fd ["well", "lines"] sp__law_setting :=
  Fun.okT F sc__law_setting len__law_setting (fun cdv A outer s H E hr => d__law_setting B D__law_take hr) sem__law_setting

theorem df__law_setting {f : Addr} {fd : FuncData} (F : Fun K "_law_setting" "_law_setting" s__law_setting f fd) (hm : mg "_law_setting" = some (.ref f)) (B : Bi mg) (D__law_take : Df P w K mg base 1 "_law_take" ["well", "many"] sp__law_take) : Df P w K mg base 2 "_law_setting" ["well", "lines"] sp__law_setting :=
  Df.of F (ok__law_setting F B D__law_take) hm (fun _ _ _ _ _ _ us hl => match us, hl with | [_, _], _ => rfl) (fun p hp => nomatch hp)

abbrev s__law_rounds_of : Stmt := topS 118

theorem sc__law_rounds_of : FnScope ["setting", "order", "found", "line", "side"] ["setting", "order"] (defScope s__law_rounds_of) := ⟨rfl, rfl, rfl, by decide +kernel, rfl, by decide +kernel, by decide +kernel⟩

theorem d__law_rounds_of (B : Bi mg) {f : Addr} {cdv : Value} {A : Around} {outer : List Env} {s : Shared} {H : Hp} {E : XK} (hr : Room 0 (A.deeper (envOfC "_law_rounds_of" (defScope s__law_rounds_of) s.heap.objs.size f cdv))) :
    PSs (cxOf CX0 P w K mg base ["setting", "order", "found", "line", "side"] "_law_rounds_of" (defScope s__law_rounds_of) f cdv A outer s H E).nox (defBody s__law_rounds_of) (t__law_rounds_of K) :=
  (pss_cons (ps_set (i := 2) sc__law_rounds_of.nd rfl (.inl rfl) (pe_lst (pa_cons (pe_lst pa_nil) (pa_cons (pe_lst pa_nil) pa_nil))))
    (pss_cons (ps_for PassesOwn.never (by rfl) (pi_range1 (by rfl) B.m_range (pa_cons (pe_callB call_len_seq (by rfl) B.m_len (by decide +kernel) (pa_cons (pv 1) pa_nil)) pa_nil)) (pg_name (i := 3) sc__law_rounds_of.nd rfl (Or.inl rfl)) (pss_cons (ps_set (i := 4) sc__law_rounds_of.nd rfl (.inl rfl) (pe_op op_mod (pe_callTy call_int1 (by rfl) B.m_int (by decide +kernel) (pa_cons (pe_op op_add (pv 3) (pe_ix ix_tup (pe_ix ix_tup (pv 0) pe_int (fun _ _ => rfl)) (pe_op op_fdiv (pv 3) pe_int) (fun _ _ => rfl))) pa_nil)) pe_int))
    (pss_one (ps_expr (pe_bm PySem.F.plainAttrs_list PySem.F.slot_list_append PySem.F.type_list_append mt_append (pe_ix ix_list (pv 2) (pv 4) (fun _ _ => rfl)) (pa_cons (pe_tup (pa_cons (pe_op op_fdiv (pv 3) pe_int) (pa_cons (pe_op op_fdiv (pe_ix ix_tup (pv 1) (pv 3) (fun _ _ => rfl)) pe_int) pa_nil))) pa_nil))))))
    (pss_one (ps_ret (pe_tup (pa_cons (pe_callTy call_tuple_of (by rfl) B.m_tuple (by decide +kernel) (pa_cons (pe_callB (cr_sortD hr.units) (by rfl) B.m_sorted (by decide +kernel) (pa_cons (pe_ix ix_list (pv 2) pe_int (fun _ _ => rfl)) pa_nil)) pa_nil)) (pa_cons (pe_callTy call_tuple_of (by rfl) B.m_tuple (by decide +kernel) (pa_cons (pe_callB (cr_sortD hr.units) (by rfl) B.m_sorted (by decide +kernel) (pa_cons (pe_ix ix_list (pv 2) pe_int (fun _ _ => rfl)) pa_nil)) pa_nil)) pa_nil)))))))

theorem ok__law_rounds_of {f : Addr} {fd : FuncData} (F : Fun K "_law_rounds_of" "_law_rounds_of" s__law_rounds_of f fd) (B : Bi mg) : FnOk P w K mg base CX0 1 f fd ["setting", "order"] sp__law_rounds_of :=
  Fun.okT F sc__law_rounds_of len__law_rounds_of (fun cdv A outer s H E hr => d__law_rounds_of B hr) sem__law_rounds_of

theorem df__law_rounds_of {f : Addr} {fd : FuncData} (F : Fun K "_law_rounds_of" "_law_rounds_of" s__law_rounds_of f fd) (hm : mg "_law_rounds_of" = some (.ref f)) (B : Bi mg) : Df P w K mg base 1 "_law_rounds_of" ["setting", "order"] sp__law_rounds_of :=
  Df.of F (ok__law_rounds_of F B) hm (fun _ _ _ _ _ _ us hl => match us, hl with | [_, _], _ => rfl) (fun p hp => nomatch hp)

abbrev s__law_table_of : Stmt := topS 119

theorem sc__law_table_of : FnScope ["order", "half", "rows", "k", "line", "row"] ["order"] (defScope s__law_table_of) := ⟨rfl, rfl, rfl, by decide +kernel, rfl, by decide +kernel, by decide +kernel⟩

theorem d__law_table_of (B : Bi mg) {f : Addr} {cdv : Value} {A : Around} {outer : List Env} {s : Shared} {H : Hp} {E : XK} (hr : Room 0 (A.deeper (envOfC "_law_table_of" (defScope s__law_table_of) s.heap.objs.size f cdv))) :
    PSs (cxOf CX0 P w K mg base ["order", "half", "rows", "k", "line", "row"] "_law_table_of" (defScope s__law_table_of) f cdv A outer s H E).nox (defBody s__law_table_of) (t__law_table_of K) :=
  (pss_cons (ps_set (i := 1) sc__law_table_of.nd rfl (.inr rfl) (pe_op op_fdiv (pe_callB call_len_seq (by rfl) B.m_len (by decide +kernel) (pa_cons (pv 0) pa_nil)) pe_int))
    (pss_cons (ps_setLc (i := 2) (own := [("k", 3)]) (g := (gName 3)) (tt := tYes) (te := (tOp rRep (tLst (tCons (tC (.int 0)) tNil)) (tVar 1))) (by rfl) sc__law_table_of.nd rfl rfl (sw_true rfl rfl rfl (by decide +kernel)) (pi_range1 (by rfl) B.m_range (pa_cons (pv 1) pa_nil)) (blkOk_by (N := ["order", "half", "rows", "k", "line", "row"]) (sc := defScope s__law_table_of) (by decide +kernel)) (fun _ _ _ _ _ => (pg_name (i := 3) sc__law_table_of.nd rfl (Or.inl rfl))) (fun _ _ _ _ _ => pts_nil) (fun _ _ _ _ _ => (pe_op op_rep (pe_lst (pa_cons pe_int pa_nil)) (pv 1))))
    (pss_cons (ps_for PassesOwn.never (by rfl) (pi_range1 (by rfl) B.m_range (pa_cons (pe_callB call_len_seq (by rfl) B.m_len (by decide +kernel) (pa_cons (pv 0) pa_nil)) pa_nil)) (pg_name (i := 4) sc__law_table_of.nd rfl (Or.inl rfl)) (pss_one (ps_asg (pe_op op_add (pe_ix ix_list (pe_ix ix_list (pv 2) (pe_op op_fdiv (pv 4) pe_int) (fun _ _ => rfl)) (pe_op op_fdiv (pe_ix ix_tup (pv 0) (pv 4) (fun _ _ => rfl)) pe_int) (fun _ _ => rfl)) pe_int) (pg_sub (pe_ix ix_list (pv 2) (pe_op op_fdiv (pv 4) pe_int) (fun _ _ => rfl)) (pe_op op_fdiv (pe_ix ix_tup (pv 0) (pv 4) (fun _ _ => rfl)) pe_int) set_list))))
    (pss_one (ps_ret (pe_callTy call_tuple_of (by rfl) B.m_tuple (by decide +kernel) (pa_cons (pe_lc (own := [("row", 5)]) (g := (gName 5)) (tt := tYes) (te := (tCB (rTupQ K) (tCons (tVar 5) tNil))) (by rfl) sc__law_table_of.nd (pi_list (pv 2)) (blkOk_by (N := ["order", "half", "rows", "k", "line", "row"]) (sc := defScope s__law_table_of) (by decide +kernel)) (fun _ _ _ _ _ => (pg_name (i := 5) sc__law_table_of.nd rfl (Or.inl rfl))) (fun _ _ _ _ _ => pts_nil) (fun _ _ _ _ _ => (pe_callTy call_tuple_of (by rfl) B.m_tuple (by decide +kernel) (pa_cons (pv 5) pa_nil)))) pa_nil)))))))

theorem ok__law_table_of {f : Addr} {fd : FuncData} (F : Fun K "_law_table_of" "_law_table_of" s__law_table_of f fd) (B : Bi mg) : FnOk P w K mg base CX0 1 f fd ["order"] sp__law_table_of :=
  Fun.okT F sc__law_table_of len__law_table_of (fun cdv A outer s H E hr => d__law_table_of B hr) sem__law_table_of

theorem df__law_table_of {f : Addr} {fd : FuncData} (F : Fun K "_law_table_of" "_law_table_of" s__law_table_of f fd) (hm : mg "_law_table_of" = some (.ref f)) (B : Bi mg) : Df P w K mg base 1 "_law_table_of" ["order"] sp__law_table_of :=
  Df.of F (ok__law_table_of F B) hm (fun _ _ _ _ _ _ us hl => match us, hl with | [_], _ => rfl) (fun p hp => by cases hp; intros; rfl)

abbrev s__law_right : Stmt := topS 120

theorem sc__law_right : FnScope ["well", "order", "table", "setting", "plan", "each", "some", "chain", "other"] ["well", "order"] (defScope s__law_right) := ⟨rfl, rfl, rfl, by decide +kernel, rfl, by decide +kernel, by decide +kernel⟩

theorem d__law_right (B : Bi mg) (D_setting_for : Df P w K mg base 5 "setting_for" ["order"] sp_setting_for) (D__law_table_of : Df P w K mg base 1 "_law_table_of" ["order"] sp__law_table_of) (D__law_rounds_of : Df P w K mg base 1 "_law_rounds_of" ["setting", "order"] sp__law_rounds_of) (D__law_wires : Df P w K mg base 2 "_law_wires" ["setting", "lines"] sp__law_wires) (D__law_is_plan : Df P w K mg base 3 "_law_is_plan" ["table", "value", "rounds"] sp__law_is_plan) (D_is_plan : Df P w K mg base 7 "is_plan" ["table", "value"] sp_is_plan) (D__law_same : Df P w K mg base 1 "_law_same" ["told", "due"] sp__law_same) (D_height : Df P w K mg base 7 "height" ["table"] sp_height) (D_chains : Df P w K mg base 10 "chains" ["table", "plan", "one", "two"] sp_chains) (D__law_take : Df P w K mg base 1 "_law_take" ["well", "many"] sp__law_take) (D_exchanged : DfG P w K mg base 10 "exchanged" ["table", "plan", "one", "two", "chain"] sp_exchanged) (D__law_ways : Df P w K mg base 1 "_law_ways" ["order"] sp__law_ways) (D_count_settings : Df P w K mg base 5 "count_settings" ["order"] sp_count_settings) {f : Addr} {cdv : Value} {A : Around} {outer : List Env} {s : Shared} {H : Hp} {E : XK} (hG : RoomG 10 (A.deeper (envOfC "_law_right" (defScope s__law_right) s.heap.objs.size f cdv))) :
    PSs (cxOf CX0 P w K mg base ["well", "order", "table", "setting", "plan", "each", "some", "chain", "other"] "_law_right" (defScope s__law_right) f cdv A outer s H E).nox (defBody s__law_right) (t__law_right K sp_setting_for sp__law_table_of sp__law_rounds_of sp__law_wires sp__law_is_plan sp_is_plan sp__law_same sp_height sp_chains sp__law_take sp_exchanged sp__law_ways sp_count_settings) :=
  have hr := hG.room; (pss_cons (ps_asg (pe_tup (pa_cons (pe_df D__law_table_of (hr.mono (by decide)) (by rfl) (pa_cons (pv 1) pa_nil)) (pa_cons (pe_df D_setting_for (hr.mono (by decide)) (by rfl) (pa_cons (pv 1) pa_nil)) pa_nil))) (pg_tup (by rfl) (pgs_cons (pg_name (i := 2) sc__law_right.nd rfl (Or.inr rfl)) (pgs_cons (pg_name (i := 3) sc__law_right.nd rfl (Or.inl rfl)) pgs_nil))))
    (pss_cons (ps_set (i := 4) sc__law_right.nd rfl (.inl rfl) (pe_df D__law_rounds_of (hr.mono (by decide)) (by rfl) (pa_cons (pv 3) (pa_cons (pv 1) pa_nil))))
    (pss_cons (ps_if (PW.pt (pw_or (pt_cmpR (op_neD hr.units) (pe_df D__law_wires (hr.mono (by decide)) (by rfl) (pa_cons (pv 3) (pa_cons (pe_callB call_len_seq (by rfl) B.m_len (by decide +kernel) (pa_cons (pv 1) pa_nil)) pa_nil))) (pv 1) (nomark _)) (pw_or (pt_not (pt_val (pe_df D__law_is_plan (hr.mono (by decide)) (by rfl) (pa_cons (pv 2) (pa_cons (pv 4) (pa_cons pe_int pa_nil)))))) (pw_or (pt_cmpR op_isnot_bl (pe_df D_is_plan (hr.mono (by decide)) (by rfl) (pa_cons (pv 2) (pa_cons (pv 4) pa_nil))) pe_bl (nomark _)) (pw_or1 (pt_not (pt_val (pe_df D__law_same (hr.mono (by decide)) (by rfl) (pa_cons (pe_df D_height (hr.mono (by decide)) (by rfl) (pa_cons (pv 2) pa_nil)) (pa_cons pe_int pa_nil)))))))))) (pss_one (ps_ret pe_bl)) pss_nil)
    (pss_cons (ps_if (pt_not (pt_val (pe_callB (cr_all (by rfl)) (by rfl) B.m_all (by decide +kernel) (pa_cons (pe_lc (own := [("each", 5)]) (g := (gName 5)) (tt := tYes) (te := (tOp rEq (tCB (rLenQ K) (tCons (tVar 5) tNil)) (tCB (rLenQ K) (tCons (tVar 2) tNil)))) (by rfl) sc__law_right.nd (pi_tup (pv 4)) (blkOk_by (N := ["well", "order", "table", "setting", "plan", "each", "some", "chain", "other"]) (sc := defScope s__law_right) (by decide +kernel)) (fun _ _ _ _ _ => (pg_name (i := 5) sc__law_right.nd rfl (Or.inl rfl))) (fun _ _ _ _ _ => pts_nil) (fun _ _ _ _ _ => (pe_cmpR op_eq (pe_callB call_len_seq (by rfl) B.m_len (by decide +kernel) (pa_cons (pv 5) pa_nil)) (pe_callB call_len_seq (by rfl) B.m_len (by decide +kernel) (pa_cons (pv 2) pa_nil)) (nomark _)))) pa_nil)))) (pss_one (ps_ret pe_bl)) pss_nil)
    (pss_cons (ps_set (i := 6) sc__law_right.nd rfl (.inl rfl) (pe_df D_chains (hr.mono (by decide)) (by rfl) (pa_cons (pv 2) (pa_cons (pv 4) (pa_cons pe_int (pa_cons pe_int pa_nil))))))
    (pss_cons (ps_if (pt_cmpR (op_neD hr.units) (pv 6) (pe_tup pa_nil) (nomark _)) (pss_cons (ps_set (i := 7) sc__law_right.nd rfl (.inl rfl) (pe_ix ix_tup (pv 6) (pe_df D__law_take (hr.mono (by decide)) (by rfl) (pa_cons (pv 0) (pa_cons (pe_callB call_len_seq (by rfl) B.m_len (by decide +kernel) (pa_cons (pv 6) pa_nil)) pa_nil))) (fun _ _ => rfl)))
    (pss_cons (ps_set (i := 8) sc__law_right.nd rfl (.inl rfl) (pe_dfG D_exchanged (hG.mono (by decide)) (by rfl) (pa_cons (pv 2) (pa_cons (pv 4) (pa_cons pe_int (pa_cons pe_int (pa_cons (pv 7) pa_nil)))))))
    (pss_one (ps_if (PW.pt (pw_or (pt_not (pt_val (pe_df D__law_is_plan (hr.mono (by decide)) (by rfl) (pa_cons (pv 2) (pa_cons (pv 8) (pa_cons pe_int pa_nil)))))) (pw_or1 (pt_not (pt_val (pe_callB (cr_all (by rfl)) (by rfl) B.m_all (by decide +kernel) (pa_cons (pe_lc (own := [("each", 5)]) (g := (gName 5)) (tt := tYes) (te := (tOp rEq (tCB (rLenQ K) (tCons (tVar 5) tNil)) (tCB (rLenQ K) (tCons (tVar 2) tNil)))) (by rfl) sc__law_right.nd (pi_tup (pv 8)) (blkOk_by (N := ["well", "order", "table", "setting", "plan", "each", "some", "chain", "other"]) (sc := defScope s__law_right) (by decide +kernel)) (fun _ _ _ _ _ => (pg_name (i := 5) sc__law_right.nd rfl (Or.inl rfl))) (fun _ _ _ _ _ => pts_nil) (fun _ _ _ _ _ => (pe_cmpR op_eq (pe_callB call_len_seq (by rfl) B.m_len (by decide +kernel) (pa_cons (pv 5) pa_nil)) (pe_callB call_len_seq (by rfl) B.m_len (by decide +kernel) (pa_cons (pv 2) pa_nil)) (nomark _)))) pa_nil))))))) (pss_one (ps_ret pe_bl)) pss_nil)))) pss_nil)
    (pss_one (ps_ret (pe_or (pe_cmpR op_gt (pe_callB call_len_seq (by rfl) B.m_len (by decide +kernel) (pa_cons (pv 1) pa_nil)) pe_int (nomark _)) (pe_one (pe_df D__law_same (hr.mono (by decide)) (by rfl) (pa_cons (pe_df D_count_settings (hr.mono (by decide)) (by rfl) (pa_cons (pv 1) pa_nil)) (pa_cons (pe_df D__law_ways (hr.mono (by decide)) (by rfl) (pa_cons (pv 1) pa_nil)) pa_nil)))))))))))))

theorem ok__law_right {f : Addr} {fd : FuncData} (F : Fun K "_law_right" "_law_right" s__law_right f fd) (B : Bi mg) (D_setting_for : Df P w K mg base 5 "setting_for" ["order"] sp_setting_for) (D__law_table_of : Df P w K mg base 1 "_law_table_of" ["order"] sp__law_table_of) (D__law_rounds_of : Df P w K mg base 1 "_law_rounds_of" ["setting", "order"] sp__law_rounds_of) (D__law_wires : Df P w K mg base 2 "_law_wires" ["setting", "lines"] sp__law_wires) (D__law_is_plan : Df P w K mg base 3 "_law_is_plan" ["table", "value", "rounds"] sp__law_is_plan) (D_is_plan : Df P w K mg base 7 "is_plan" ["table", "value"] sp_is_plan) (D__law_same : Df P w K mg base 1 "_law_same" ["told", "due"] sp__law_same) (D_height : Df P w K mg base 7 "height" ["table"] sp_height) (D_chains : Df P w K mg base 10 "chains" ["table", "plan", "one", "two"] sp_chains) (D__law_take : Df P w K mg base 1 "_law_take" ["well", "many"] sp__law_take) (D_exchanged : DfG P w K mg base 10 "exchanged" ["table", "plan", "one", "two", "chain"] sp_exchanged) (D__law_ways : Df P w K mg base 1 "_law_ways" ["order"] sp__law_ways) (D_count_settings : Df P w K mg base 5 "count_settings" ["order"] sp_count_settings) : FnG P w K mg base 11 f fd ["well", "order"] sp__law_right :=
  Fun.okG F sc__law_right len__law_right (fun cdv A outer s H E hr => d__law_right B D_setting_for D__law_table_of D__law_rounds_of D__law_wires D__law_is_plan D_is_plan D__law_same D_height D_chains D__law_take D_exchanged D__law_ways D_count_settings hr) sem__law_right

theorem df__law_right {f : Addr} {fd : FuncData} (F : Fun K "_law_right" "_law_right" s__law_right f fd) (hm : mg "_law_right" = some (.ref f)) (B : Bi mg) (D_setting_for : Df P w K mg base 5 "setting_for" ["order"] sp_setting_for) (D__law_table_of : Df P w K mg base 1 "_law_table_of" ["order"] sp__law_table_of) (D__law_rounds_of : Df P w K mg base 1 "_law_rounds_of" ["setting", "order"] sp__law_rounds_of) (D__law_wires : Df P w K mg base 2 "_law_wires" ["setting", "lines"] sp__law_wires) (D__law_is_plan : Df P w K mg base 3 "_law_is_plan" ["table", "value", "rounds"] sp__law_is_plan) (D_is_plan : Df P w K mg base 7 "is_plan" ["table", "value"] sp_is_plan) (D__law_same : Df P w K mg base 1 "_law_same" ["told", "due"] sp__law_same) (D_height : Df P w K mg base 7 "height" ["table"] sp_height) (D_chains : Df P w K mg base 10 "chains" ["table", "plan", "one", "two"] sp_chains) (D__law_take : Df P w K mg base 1 "_law_take" ["well", "many"] sp__law_take) (D_exchanged : DfG P w K mg base 10 "exchanged" ["table", "plan", "one", "two", "chain"] sp_exchanged) (D__law_ways : Df P w K mg base 1 "_law_ways" ["order"] sp__law_ways) (D_count_settings : Df P w K mg base 5 "count_settings" ["order"] sp_count_settings) : DfG P w K mg base 11 "_law_right" ["well", "order"] sp__law_right :=
  DfG.of F (ok__law_right F B D_setting_for D__law_table_of D__law_rounds_of D__law_wires D__law_is_plan D_is_plan D__law_same D_height D_chains D__law_take D_exchanged D__law_ways D_count_settings) hm (fun _ _ _ _ _ _ us hl => match us, hl with | [_, _], _ => rfl)

abbrev s__law_ways : Stmt := topS 121

theorem sc__law_ways : FnScope ["order", "found", "one", "two", "upper", "ends", "line"] ["order"] (defScope s__law_ways) := ⟨rfl, rfl, rfl, by decide +kernel, rfl, by decide +kernel, by decide +kernel⟩

theorem d__law_ways (B : Bi mg) {f : Addr} {cdv : Value} {A : Around} {outer : List Env} {s : Shared} {H : Hp} {E : XK} (hr : Room 0 (A.deeper (envOfC "_law_ways" (defScope s__law_ways) s.heap.objs.size f cdv))) :
    PSs (cxOf CX0 P w K mg base ["order", "found", "one", "two", "upper", "ends", "line"] "_law_ways" (defScope s__law_ways) f cdv A outer s H E).nox (defBody s__law_ways) (t__law_ways K) :=
  (pss_cons (ps_set (i := 1) sc__law_ways.nd rfl (.inl rfl) pe_int)
    (pss_cons (ps_for PassesOwn.never (by rfl) (pi_tup (pe_tup (pa_cons pe_int (pa_cons pe_int pa_nil)))) (pg_name (i := 2) sc__law_ways.nd rfl (Or.inl rfl)) (pss_one (ps_for PassesOwn.never (by rfl) (pi_tup (pe_tup (pa_cons pe_int (pa_cons pe_int pa_nil)))) (pg_name (i := 3) sc__law_ways.nd rfl (Or.inl rfl)) (pss_cons (ps_set (i := 4) sc__law_ways.nd rfl (.inl rfl) (pe_tup (pa_cons (pv 2) (pa_cons (pe_op op_add pe_int (pv 3)) pa_nil))))
    (pss_cons (ps_setLc (i := 5) (own := [("line", 6)]) (g := (gName 6)) (tt := tYes) (te := (tOp oDiv (tOp (rIxT K) (tVar 0) (tVar 6)) (tC (.int 2)))) (by rfl) sc__law_ways.nd rfl rfl (sw_true rfl rfl rfl (by decide +kernel)) (pi_tup (pv 4)) (blkOk_by (N := ["order", "found", "one", "two", "upper", "ends", "line"]) (sc := defScope s__law_ways) (by decide +kernel)) (fun _ _ _ _ _ => (pg_name (i := 6) sc__law_ways.nd rfl (Or.inl rfl))) (fun _ _ _ _ _ => pts_nil) (fun _ _ _ _ _ => (pe_op op_fdiv (pe_ix ix_tup (pv 0) (pv 6) (fun _ _ => rfl)) pe_int)))
    (pss_one (ps_set (i := 1) sc__law_ways.nd rfl (.inl rfl) (pe_op op_add (pv 1) (pe_callTy call_int1 (by rfl) B.m_int (by decide +kernel) (pa_cons (pe_cmpR op_ne (pe_ix ix_list (pv 5) pe_int (fun _ _ => rfl)) (pe_ix ix_list (pv 5) pe_int (fun _ _ => rfl)) (nomark _)) pa_nil))))))))))
    (pss_one (ps_ret (pv 1)))))

theorem ok__law_ways {f : Addr} {fd : FuncData} (F : Fun K "_law_ways" "_law_ways" s__law_ways f fd) (B : Bi mg) : FnOk P w K mg base CX0 1 f fd ["order"] sp__law_ways :=
  Fun.okT F sc__law_ways len__law_ways (fun cdv A outer s H E hr => d__law_ways B hr) sem__law_ways

theorem df__law_ways {f : Addr} {fd : FuncData} (F : Fun K "_law_ways" "_law_ways" s__law_ways f fd) (hm : mg "_law_ways" = some (.ref f)) (B : Bi mg) : Df P w K mg base 1 "_law_ways" ["order"] sp__law_ways :=
  Df.of F (ok__law_ways F B) hm (fun _ _ _ _ _ _ us hl => match us, hl with | [_], _ => rfl) (fun p hp => by cases hp; intros; rfl)

abbrev s_law : Stmt := topS 122

theorem sc_law : FnScope ["script", "lap", "well", "order", "setting", "four", "table", "every"] ["script"] (defScope s_law) := ⟨rfl, rfl, rfl, by decide +kernel, rfl, by decide +kernel, by decide +kernel⟩

theorem d_law (B : Bi mg) (D__law_well : Df P w K mg base 1 "_law_well" ["script", "lap"] (sp__law_well K)) (D__law_wires : Df P w K mg base 2 "_law_wires" ["setting", "lines"] sp__law_wires) (D__law_setting : Df P w K mg base 2 "_law_setting" ["well", "lines"] sp__law_setting) (D__law_mixed : Df P w K mg base 2 "_law_mixed" ["well", "many"] sp__law_mixed) (D__law_right : DfG P w K mg base 11 "_law_right" ["well", "order"] sp__law_right) (D_led_by : Df P w K mg base 5 "led_by" ["setting"] sp_led_by) (D__law_is_plan : Df P w K mg base 3 "_law_is_plan" ["table", "value", "rounds"] sp__law_is_plan) (D__law_rounds_of : Df P w K mg base 1 "_law_rounds_of" ["setting", "order"] sp__law_rounds_of) (D__law_table_of : Df P w K mg base 1 "_law_table_of" ["order"] sp__law_table_of) (D_all_plans : Df P w K mg base 8 "all_plans" ["table", "times"] sp_all_plans) (D__law_same : Df P w K mg base 1 "_law_same" ["told", "due"] sp__law_same) (D_plan_count : Df P w K mg base 7 "plan_count" ["table", "times"] sp_plan_count) (D_setting_for : Df P w K mg base 5 "setting_for" ["order"] sp_setting_for) {f : Addr} {cdv : Value} {A : Around} {outer : List Env} {s : Shared} {H : Hp} {E : XK} (hG : RoomG 11 (A.deeper (envOfC "law" (defScope s_law) s.heap.objs.size f cdv))) :
    PSs (cxOf CX0 P w K mg base ["script", "lap", "well", "order", "setting", "four", "table", "every"] "law" (defScope s_law) f cdv A outer s H E).nox (defBody s_law) (t_law K (sp__law_well K) sp__law_wires sp__law_setting sp__law_mixed sp__law_right sp_led_by sp__law_is_plan sp__law_rounds_of sp__law_table_of sp_all_plans sp__law_same sp_plan_count sp_setting_for) :=
  have hr := hG.room; (pss_cons (ps_for PassesOwn.never (by rfl) (pi_range1 (by rfl) B.m_range (pa_cons (pe_callB (call_max2 (by rfl)) (by rfl) B.m_max (by decide +kernel) (pa_cons pe_int (pa_cons (pe_callB (call_min2 (by rfl)) (by rfl) B.m_min (by decide +kernel) (pa_cons (pe_callB call_len_seq (by rfl) B.m_len (by decide +kernel) (pa_cons (pv 0) pa_nil)) (pa_cons pe_int pa_nil))) pa_nil))) pa_nil)) (pg_name (i := 1) sc_law.nd rfl (Or.inl rfl)) (pss_cons (ps_set (i := 2) sc_law.nd rfl (.inl rfl) (pe_df D__law_well (hr.mono (by decide)) (by rfl) (pa_cons (pv 0) (pa_cons (pv 1) pa_nil))))
    (pss_cons (ps_for PassesOwn.never (by rfl) (pi_tup (pe_tup (pa_cons (pe_df D__law_mixed (hr.mono (by decide)) (by rfl) (pa_cons (pv 2) (pa_cons pe_int pa_nil))) (pa_cons (pe_df D__law_mixed (hr.mono (by decide)) (by rfl) (pa_cons (pv 2) (pa_cons pe_int pa_nil))) (pa_cons (pe_df D__law_mixed (hr.mono (by decide)) (by rfl) (pa_cons (pv 2) (pa_cons pe_int pa_nil))) (pa_cons (pe_df D__law_mixed (hr.mono (by decide)) (by rfl) (pa_cons (pv 2) (pa_cons pe_int pa_nil))) (pa_cons (pe_df D__law_wires (hr.mono (by decide)) (by rfl) (pa_cons (pe_df D__law_setting (hr.mono (by decide)) (by rfl) (pa_cons (pv 2) (pa_cons pe_int pa_nil))) (pa_cons pe_int pa_nil))) (pa_cons (pe_tupRg (by rfl) (by rfl) B.m_tuple (prg_1 (by rfl) B.m_range pe_int)) pa_nil)))))))) (pg_name (i := 3) sc_law.nd rfl (Or.inl rfl)) (pss_one (ps_if (pt_not (pt_val (pe_dfG D__law_right (hG.mono (by decide)) (by rfl) (pa_cons (pv 2) (pa_cons (pv 3) pa_nil))))) (pss_one (ps_ret pe_bl)) pss_nil)))
    (pss_cons (ps_set (i := 4) sc_law.nd rfl (.inl rfl) (pe_df D__law_setting (hr.mono (by decide)) (by rfl) (pa_cons (pv 2) (pa_cons pe_int pa_nil))))
    (pss_cons (ps_set (i := 3) sc_law.nd rfl (.inl rfl) (pe_df D_led_by (hr.mono (by decide)) (by rfl) (pa_cons (pv 4) pa_nil)))
    (pss_cons (ps_if (pt_not (pt_val (pe_df D__law_is_plan (hr.mono (by decide)) (by rfl) (pa_cons (pe_df D__law_table_of (hr.mono (by decide)) (by rfl) (pa_cons (pv 3) pa_nil)) (pa_cons (pe_df D__law_rounds_of (hr.mono (by decide)) (by rfl) (pa_cons (pv 4) (pa_cons (pv 3) pa_nil))) (pa_cons pe_int pa_nil)))))) (pss_one (ps_ret pe_bl)) pss_nil)
    (pss_cons (ps_set (i := 5) sc_law.nd rfl (.inl rfl) (pe_df D__law_mixed (hr.mono (by decide)) (by rfl) (pa_cons (pv 2) (pa_cons pe_int pa_nil))))
    (pss_cons (ps_set (i := 6) sc_law.nd rfl (.inl rfl) (pe_df D__law_table_of (hr.mono (by decide)) (by rfl) (pa_cons (pv 5) pa_nil)))
    (pss_cons (ps_set (i := 7) sc_law.nd rfl (.inl rfl) (pe_df D_all_plans (hr.mono (by decide)) (by rfl) (pa_cons (pv 6) (pa_cons pe_int pa_nil))))
    (pss_one (ps_if (PW.pt (pw_or (pt_not (pt_val (pe_df D__law_same (hr.mono (by decide)) (by rfl) (pa_cons (pe_df D_plan_count (hr.mono (by decide)) (by rfl) (pa_cons (pv 6) (pa_cons pe_int pa_nil))) (pa_cons (pe_callB call_len_seq (by rfl) B.m_len (by decide +kernel) (pa_cons (pv 7) pa_nil)) pa_nil))))) (pw_or1 (pt_cmpR (op_notInT (u65 hr)) (pe_df D__law_rounds_of (hr.mono (by decide)) (by rfl) (pa_cons (pe_df D_setting_for (hr.mono (by decide)) (by rfl) (pa_cons (pv 5) pa_nil)) (pa_cons (pv 5) pa_nil))) (pv 7) (by rfl))))) (pss_one (ps_ret pe_bl)) pss_nil)))))))))))
    (pss_one (ps_ret pe_bl)))

theorem ok_law {f : Addr} {fd : FuncData} (F : Fun K "law" "law" s_law f fd) (B : Bi mg) (D__law_well : Df P w K mg base 1 "_law_well" ["script", "lap"] (sp__law_well K)) (D__law_wires : Df P w K mg base 2 "_law_wires" ["setting", "lines"] sp__law_wires) (D__law_setting : Df P w K mg base 2 "_law_setting" ["well", "lines"] sp__law_setting) (D__law_mixed : Df P w K mg base 2 "_law_mixed" ["well", "many"] sp__law_mixed) (D__law_right : DfG P w K mg base 11 "_law_right" ["well", "order"] sp__law_right) (D_led_by : Df P w K mg base 5 "led_by" ["setting"] sp_led_by) (D__law_is_plan : Df P w K mg base 3 "_law_is_plan" ["table", "value", "rounds"] sp__law_is_plan) (D__law_rounds_of : Df P w K mg base 1 "_law_rounds_of" ["setting", "order"] sp__law_rounds_of) (D__law_table_of : Df P w K mg base 1 "_law_table_of" ["order"] sp__law_table_of) (D_all_plans : Df P w K mg base 8 "all_plans" ["table", "times"] sp_all_plans) (D__law_same : Df P w K mg base 1 "_law_same" ["told", "due"] sp__law_same) (D_plan_count : Df P w K mg base 7 "plan_count" ["table", "times"] sp_plan_count) (D_setting_for : Df P w K mg base 5 "setting_for" ["order"] sp_setting_for) : FnG P w K mg base 12 f fd ["script"] (sp_law K) :=
  Fun.okG F sc_law len_law (fun cdv A outer s H E hr => d_law B D__law_well D__law_wires D__law_setting D__law_mixed D__law_right D_led_by D__law_is_plan D__law_rounds_of D__law_table_of D_all_plans D__law_same D_plan_count D_setting_for hr) sem_law

theorem df_law {f : Addr} {fd : FuncData} (F : Fun K "law" "law" s_law f fd) (hm : mg "law" = some (.ref f)) (B : Bi mg) (D__law_well : Df P w K mg base 1 "_law_well" ["script", "lap"] (sp__law_well K)) (D__law_wires : Df P w K mg base 2 "_law_wires" ["setting", "lines"] sp__law_wires) (D__law_setting : Df P w K mg base 2 "_law_setting" ["well", "lines"] sp__law_setting) (D__law_mixed : Df P w K mg base 2 "_law_mixed" ["well", "many"] sp__law_mixed) (D__law_right : DfG P w K mg base 11 "_law_right" ["well", "order"] sp__law_right) (D_led_by : Df P w K mg base 5 "led_by" ["setting"] sp_led_by) (D__law_is_plan : Df P w K mg base 3 "_law_is_plan" ["table", "value", "rounds"] sp__law_is_plan) (D__law_rounds_of : Df P w K mg base 1 "_law_rounds_of" ["setting", "order"] sp__law_rounds_of) (D__law_table_of : Df P w K mg base 1 "_law_table_of" ["order"] sp__law_table_of) (D_all_plans : Df P w K mg base 8 "all_plans" ["table", "times"] sp_all_plans) (D__law_same : Df P w K mg base 1 "_law_same" ["told", "due"] sp__law_same) (D_plan_count : Df P w K mg base 7 "plan_count" ["table", "times"] sp_plan_count) (D_setting_for : Df P w K mg base 5 "setting_for" ["order"] sp_setting_for) : DfG P w K mg base 12 "law" ["script"] (sp_law K) :=
  DfG.of F (ok_law F B D__law_well D__law_wires D__law_setting D__law_mixed D__law_right D_led_by D__law_is_plan D__law_rounds_of D__law_table_of D_all_plans D__law_same D_plan_count D_setting_for) hm (fun _ _ _ _ _ _ us hl => match us, hl with | [_], _ => rfl)

end
end K77

/-! HdG: the head of a row whose law is promised only where no repr is under way (FnG of R3). -/
namespace DL
open PySem PySem.Spec PyProof.Rows L2
section
variable {P : Program} {w : World} {K : PySem.W.Frag} {mg mb : Str → Option Value} {k : Nat} {fa a : Addr} {fd : FuncData} {x : Str} {sp : Sp} {s₁ : Shared} {vs : List Value} {ns : List Int}
/-- the tracked heap at the start: the script at most -/
structure Script (P : Program) (w : World) (K : PySem.W.Frag) (a : Addr) (ns : List Int) (h : Heap) (H : Hp) : Prop where
  only : Only H
  sq : SqL K H a (ns.map V.int)
  ok : HOk P w H h
  own : ∀ b u, H b = some u → b = a ∧ K.lookup a = none
theorem script_ex (KX : K.In s₁.heap) (ha : s₁.heap.get? a = some { cls := .type "list", data := .seq vs.toArray }) (hi : IntsAre vs ns) (hl : ns.length ≤ sizeLine) : ∃ H, Script P w K a ns s₁.heap H := by
  have rv := vals_ints hi
  rcases hk : K.lookup a with _ | o
  · refine ⟨fun b => if b = a then some (.frz { cls := .type "list", data := .seq vs.toArray } (.lst (ns.map V.int))) else none, fun b => ?_, .inl (.inr ⟨_, if_pos rfl⟩), fun b u z => ?_, fun b u z => ?_⟩
    · by_cases e : b = a
      · exact .inr ⟨_, _, if_pos e⟩
      · exact .inl (if_neg e)
    · by_cases e : b = a
      · subst e
        cases (if_pos rfl).symm.trans z
        exact ⟨ha, by rw [List.length_map]; exact hl, vs, _, rv, ha⟩
      · cases (if_neg e).symm.trans z
    · by_cases e : b = a
      · exact ⟨e, hk⟩
      · cases (if_neg e).symm.trans z
  · have e := KX a o hk
    rw [ha] at e
    cases e
    exact ⟨fun _ => none, fun _ => .inl rfl, .inr ⟨_, vs.toArray, _, hk, rfl, rfl, rfl, by rw [List.size_toArray, hi.length]; exact hl, by simpa using rv⟩, (fun b u z => nomatch z), (fun b u z => nomatch z)⟩
theorem law_callG (KX : K.In s₁.heap) (hns : s₁.heap.Ns mainGlobals mg) (hb : s₁.heap.Ns builtinsNs mb) (hbb : ∀ x : Str, x ≠ "__name__" → mb x = bootBuiltins x) (hlim : s₁.heap.NoLimit) (hg : s₁.gens = #[])
    (ha : s₁.heap.get? a = some { cls := .type "list", data := .seq vs.toArray }) (hi : IntsAre vs ns) (hl : ns.length ≤ sizeLine) (hr : RoomG k callerA)
    (F : ∀ base : Heap, K.In base → base.Ns mainGlobals mg → FnG P w K mg base k fa fd [x] sp) (hbind : ∀ (s : Shared) (u : Value), BindsTo s fd ⟨[u], []⟩ [(x, u)])
    (hsp : ∀ H : Hp, Only H → SqL K H a (ns.map V.int) → sp [.ref a] H (fun v _ => v = .bl true) fun _ _ _ => False) :
    codeAny (model P w) callerA (.call (.ref fa) ⟨[.ref a], []⟩) (fun r s' => r = .ok (.ret (.bool true)) ∧ OldK s₁.heap s'.heap ∧ s'.os = s₁.os ∧ AllBare s'.gens) s₁ := by
  obtain ⟨H, S⟩ := script_ex (P := P) (w := w) KX ha hi hl
  -- what is not the script stays in the base
  have noneOf : ∀ {b : Addr} {o : Obj}, s₁.heap.get? b = some o → (b = a → K.lookup a = none → False) → H b = none := fun {b o} e h => by
    rcases q : H b with _ | u
    · rfl
    · obtain ⟨e1, e2⟩ := S.own b u q
      exact (h e1 e2).elim
  have nsH : ∀ {b : Addr} {m : Str → Option Value}, s₁.heap.Ns b m → (hidT s₁.heap H).Ns b m := fun {b m} ⟨o, es, ep, e, d, r⟩ =>
    ⟨o, es, ep, hidT_get e (noneOf e fun z _ => by
      subst z
      rw [ha] at e
      cases e
      cases d), d, r⟩
  have inH : K.In (hidT s₁.heap H) := fun b o e => hidT_get (KX b o e) (noneOf (KX b o e) fun z hk => by
    subst z
    rw [hk] at e
    cases e)
  obtain ⟨mc, hm1, hm2⟩ := hlim
  have none0 : ∀ b : Addr, b ∉ ([] : List Addr) := fun b h => nomatch h
  have env : Env0 P w K mg (hidT s₁.heap H) callerA [] s₁ H := ⟨rfl, ⟨inH, nsH hns, ⟨mb, nsH hb, hbb⟩, mc, nsH hm1, hm2⟩, fun b o e => of_hidT e, Nat.le_of_eq (hidT_size _ _), trivial, fun b h => (none0 b h).elim, S.ok, .of_eq hg⟩
  have run := (F _ inH (nsH hns)).run callerA [] s₁ H ⟨[.ref a], []⟩ [.ref a] [.ref a] _ _ hr env (hbind s₁ (.ref a)) (.cons rfl .nil) (hsp H S.only S.sq)
  refine codeAny_mono run fun r s' h => ?_
  match r, h with
  | .error e, h => exact False.elim h
  | .ok .next, h => exact False.elim h
  | .ok .brk, h => exact False.elim h
  | .ok .cont, h => exact False.elim h
  | .ok (.ret u), ⟨v, H', hos, bare, un, ok', rel, q⟩ =>
    have q : v = .bl true := q
    subst q
    have hu : u = Value.bool true := rel
    refine ⟨by rw [hu], OldK.of_keep fun b o e => ?_, hos, bare⟩
    rcases z : H b with _ | t
    · exact un.keep b o e z (none0 b) (fun h => none0 b (by simpa using h))
    · rcases S.only b with y | ⟨ob, xs, y⟩
      · rw [y] at z
        cases z
      · obtain ⟨e1, _⟩ := S.ok b _ y
        obtain ⟨e2, _⟩ := ok' b _ (un.frzs b ob _ y)
        rw [e] at e1
        cases e1
        exact e2
end
theorem walk_ofG {l : PySem.W.OpenLaw} {n k : Nat} {q : Program} {loose : List Str} {XP : (Str → Option Value) → Heap → Prop} {YP : World → Heap → Prop} {d : DefRec} {K : Params → PySem.W.Frag} {sp : World → Sp} {x : Str}
    (hn : l.most = some n) (hn2 : n ≤ sizeLine) (hdf : d.params.defaults = []) (hr : RoomG k callerA)
    (hY : ∀ (w : World) (h : Heap), YP w h → (K w.params).In h)
    (F : ∀ (w : World) (mg : Str → Option Value) (fa : Addr) (h : Heap), (K w.params).In h → h.Ns mainGlobals mg → mg d.name = some (.ref fa) →
      ∃ fd : FuncData, (∀ (s : Shared) (u : Value), BindsTo s fd ⟨[u], []⟩ [(x, u)]) ∧
        ∀ base : Heap, (K w.params).In base → base.Ns mainGlobals mg → FnG l.prog w (K w.params) mg base k fa fd [x] (sp w))
    (hsp : ∀ (w : World) (H : Hp) (a : Addr) (ns : List Int), ns.length ≤ n → Only H → SqL (K w.params) H a (ns.map V.int) → sp w [.ref a] H (fun v _ => v = .bl true) fun _ _ _ => False) :
    PySem.W.WalkO q loose XP YP l.row.toRowW d [] (fun f vs => PySem.call f vs) :=
  Att.attach_call hn hdf fun w s₀ s₁ mg mb fa o pm cd doc a vs ns G Y ho hd hcd hmg hobj hints hlen hg => by
    obtain ⟨fd, hb, hF⟩ := F w mg fa _ (hY w _ Y) G.T.g hmg
    exact law_callG (hY w _ Y) G.T.g G.T.b G.T.builtins G.T.nolimit hg hobj hints (Nat.le_trans hlen hn2) hr hF hb fun H hO hS => hsp w H a ns hlen hO hS
end DL

namespace K77
open PySem PySem.Spec PyProof.Rows L2 DL
/-- a def of the module's, where its name stands -/
structure DefMg (K : PySem.W.Frag) (mg : Str → Option Value) (x : Str) (st : Stmt) : Prop where
  ex : ∃ (f : Addr) (fd : FuncData), Fun K x x st f fd ∧ mg x = some (.ref f)
theorem dm_mk {K : PySem.W.Frag} {h : Heap} {mg : Str → Option Value} {x : Str} {st : Stmt} (X : K.In h) (G : h.Ns mainGlobals mg) {f : Addr} {od an : Option Addr} {sl : Array (Option Value)} {oc kV dc pm cd ct : Value}
    (a : PySem.W.nsIn K mainGlobals x = some (some (.ref f))) (l : K.lookup f = some ⟨oc, od, .func (PySem.W.fnOf x x (defArgs st) (defBody st) (defScope st) .none kV dc pm an cd ct), sl⟩) (c : PySem.W.codeIn K cd x = true) (k : PySem.W.keepIn K (.ref f) = true) : DefMg K mg x st :=
  ⟨f, _, fun_mk (st := st) l c k, PySem.W.mg_of X G a⟩
theorem kd_mk {K : PySem.W.Frag} {h : Heap} {mg : Str → Option Value} {x : Str} {kvs : List (Nat × Nat)} (X : K.In h) (G : h.Ns mainGlobals mg) {d : Addr} {es : Array DictEntry} {n : Nat}
    (a : PySem.W.nsIn K mainGlobals x = some (some (.ref d))) (l : K.lookup d = some ⟨.type "dict", none, .dict es n, #[]⟩) (s : (d == sysModules) = false) (e : EntI es.toList kvs) : KD mg K x kvs := ⟨d, PySem.W.mg_of X G a, es, n, l, s, e⟩
section
variable {P : Program} {w : World} {K : PySem.W.Frag} {mg : Str → Option Value} {base : Heap}
structure Defs (K : PySem.W.Frag) (mg : Str → Option Value) : Prop where
  m_is_whole : DefMg K mg "is_whole" s_is_whole
  m_is_between : DefMg K mg "is_between" s_is_between
  m_is_tuple_of : DefMg K mg "is_tuple_of" s_is_tuple_of
  m_are_rising : DefMg K mg "are_rising" s_are_rising
  m_wrong_in_lines : DefMg K mg "wrong_in_lines" s_wrong_in_lines
  m_is_column : DefMg K mg "is_column" s_is_column
  m_is_setting_by : DefMg K mg "is_setting_by" s_is_setting_by
  m_switched : DefMg K mg "switched" s_switched
  m_parted : DefMg K mg "parted" s_parted
  m_brought_back : DefMg K mg "brought_back" s_brought_back
  m_led_through : DefMg K mg "led_through" s_led_through
  m_led_by_setting : DefMg K mg "led_by_setting" s_led_by_setting
  m_partner_of : DefMg K mg "partner_of" s_partner_of
  m_sides_of : DefMg K mg "sides_of" s_sides_of
  m_first_column : DefMg K mg "first_column" s_first_column
  m_last_column : DefMg K mg "last_column" s_last_column
  m_part_order : DefMg K mg "part_order" s_part_order
  m_column_pair : DefMg K mg "column_pair" s_column_pair
  m_setting_for_by : DefMg K mg "setting_for_by" s_setting_for_by
  m_rows_of : DefMg K mg "rows_of" s_rows_of
  m_all_settings : DefMg K mg "all_settings" s_all_settings
  m_count_settings_by : DefMg K mg "count_settings_by" s_count_settings_by
  m_check_lines : DefMg K mg "check_lines" s_check_lines
  m_led_by : DefMg K mg "led_by" s_led_by
  m_setting_for : DefMg K mg "setting_for" s_setting_for
  m_count_settings : DefMg K mg "count_settings" s_count_settings
  m_lone_pairs : DefMg K mg "lone_pairs" s_lone_pairs
  m_share_person : DefMg K mg "share_person" s_share_person
  m_chain_from : DefMg K mg "chain_from" s_chain_from
  m_chains_by : DefMg K mg "chains_by" s_chains_by
  m_without_and_with : DefMg K mg "without_and_with" s_without_and_with
  m_exchanged_by : DefMg K mg "exchanged_by" s_exchanged_by
  m_is_count_row : DefMg K mg "is_count_row" s_is_count_row
  m_is_row_like : DefMg K mg "is_row_like" s_is_row_like
  m_wrong_in_table : DefMg K mg "wrong_in_table" s_wrong_in_table
  m_total_by : DefMg K mg "total_by" s_total_by
  m_firsts_of : DefMg K mg "firsts_of" s_firsts_of
  m_seconds_of : DefMg K mg "seconds_of" s_seconds_of
  m_is_first : DefMg K mg "is_first" s_is_first
  m_is_second : DefMg K mg "is_second" s_is_second
  m_persons_of : DefMg K mg "persons_of" s_persons_of
  m_load_by : DefMg K mg "load_by" s_load_by
  m_height_by : DefMg K mg "height_by" s_height_by
  m_pairs_of : DefMg K mg "pairs_of" s_pairs_of
  m_meetings_by : DefMg K mg "meetings_by" s_meetings_by
  m_is_pair : DefMg K mg "is_pair" s_is_pair
  m_are_all_unlike : DefMg K mg "are_all_unlike" s_are_all_unlike
  m_is_round_by : DefMg K mg "is_round_by" s_is_round_by
  m_times_in : DefMg K mg "times_in" s_times_in
  m_is_plan_by : DefMg K mg "is_plan_by" s_is_plan_by
  m_check_table : DefMg K mg "check_table" s_check_table
  m_check_plan : DefMg K mg "check_plan" s_check_plan
  m_check_times : DefMg K mg "check_times" s_check_times
  m_is_plan : DefMg K mg "is_plan" s_is_plan
  m_check_planned : DefMg K mg "check_planned" s_check_planned
  m_check_two : DefMg K mg "check_two" s_check_two
  m_chains : DefMg K mg "chains" s_chains
  m_is_chain : DefMg K mg "is_chain" s_is_chain
  m_exchanged : DefMg K mg "exchanged" s_exchanged
  m_without_own : DefMg K mg "without_own" s_without_own
  m_laid_into : DefMg K mg "laid_into" s_laid_into
  m_with_second : DefMg K mg "with_second" s_with_second
  m_orders_of : DefMg K mg "orders_of" s_orders_of
  m_plan_count_by : DefMg K mg "plan_count_by" s_plan_count_by
  m_has_person : DefMg K mg "has_person" s_has_person
  m_laid_plan : DefMg K mg "laid_plan" s_laid_plan
  m_plans_with : DefMg K mg "plans_with" s_plans_with
  m_all_plans_by : DefMg K mg "all_plans_by" s_all_plans_by
  m_check_few : DefMg K mg "check_few" s_check_few
  m_plan_count : DefMg K mg "plan_count" s_plan_count
  m_all_plans : DefMg K mg "all_plans" s_all_plans
  m_height : DefMg K mg "height" s_height
  m__law_well : DefMg K mg "_law_well" s__law_well
  m__law_take : DefMg K mg "_law_take" s__law_take
  m__law_same : DefMg K mg "_law_same" s__law_same
  m__law_whole : DefMg K mg "_law_whole" s__law_whole
  m__law_mixed : DefMg K mg "_law_mixed" s__law_mixed
  m__law_pairs : DefMg K mg "_law_pairs" s__law_pairs
  m__law_is_round : DefMg K mg "_law_is_round" s__law_is_round
  m__law_is_plan : DefMg K mg "_law_is_plan" s__law_is_plan
  m__law_wires : DefMg K mg "_law_wires" s__law_wires_2
  m__law_four : DefMg K mg "_law_four" s__law_four
  m__law_setting : DefMg K mg "_law_setting" s__law_setting
  m__law_rounds_of : DefMg K mg "_law_rounds_of" s__law_rounds_of
  m__law_table_of : DefMg K mg "_law_table_of" s__law_table_of
  m__law_right : DefMg K mg "_law_right" s__law_right
  m__law_ways : DefMg K mg "_law_ways" s__law_ways
  c_COLUMNS_OF : KD mg K "COLUMNS_OF" [(2, 1), (4, 3), (8, 5)]
  c_FIRST : ∃ t, mg "FIRST" = some (.int 0 t)
  c_LINES_OF : KD mg K "LINES_OF" [(1, 2), (3, 4), (5, 8)]
  c_MOST_COUNT : ∃ t, mg "MOST_COUNT" = some (.int 9 t)
  c_MOST_COUNTED_countwork : ∃ t, mg "MOST_COUNTED_countwork" = some (.int 12 t)
  c_MOST_COUNTED_nets : ∃ t, mg "MOST_COUNTED_nets" = some (.int 4 t)
  c_MOST_MEETINGS : ∃ t, mg "MOST_MEETINGS" = some (.int 60 t)
  c_MOST_ROUNDS : ∃ t, mg "MOST_ROUNDS" = some (.int 8 t)
  c_MOST_SIDE : ∃ t, mg "MOST_SIDE" = some (.int 6 t)
  c_MOST_TOLD : ∃ t, mg "MOST_TOLD" = some (.int 200 t)
  c_OWN : ∃ t, mg "OWN" = some (.int 64 t)
  c_SECOND : ∃ t, mg "SECOND" = some (.int 1 t)
  c_factorial : mg "factorial" = some (.builtin "math.factorial")
  c_repr : mg "repr" = none
theorem all_df (B : Bi mg) (M : Defs K mg) {f : Addr} {fd : FuncData} (F : Fun K "law" "law" s_law f fd) : FnG P w K mg base 12 f fd ["script"] (sp_law K) := by
  obtain ⟨_, _, F_is_whole, h_is_whole⟩ := M.m_is_whole.ex
  have D_is_whole := df_is_whole (P := P) (w := w) (base := base) F_is_whole h_is_whole B
  obtain ⟨_, _, F_is_tuple_of, h_is_tuple_of⟩ := M.m_is_tuple_of.ex
  have D_is_tuple_of := df_is_tuple_of (P := P) (w := w) (base := base) F_is_tuple_of h_is_tuple_of B
  obtain ⟨_, _, F_is_tuple_of_P, h_is_tuple_of_P⟩ := M.m_is_tuple_of.ex
  have D_is_tuple_of_P := df_is_tuple_of_P (P := P) (w := w) (base := base) F_is_tuple_of_P h_is_tuple_of_P B
  obtain ⟨_, _, F_are_rising, h_are_rising⟩ := M.m_are_rising.ex
  have D_are_rising := df_are_rising (P := P) (w := w) (base := base) F_are_rising h_are_rising B
  obtain ⟨_, _, F_switched, h_switched⟩ := M.m_switched.ex
  have D_switched := df_switched (P := P) (w := w) (base := base) F_switched h_switched B
  obtain ⟨_, _, F_parted, h_parted⟩ := M.m_parted.ex
  have D_parted := df_parted (P := P) (w := w) (base := base) F_parted h_parted B
  obtain ⟨_, _, F_brought_back, h_brought_back⟩ := M.m_brought_back.ex
  have D_brought_back := df_brought_back (P := P) (w := w) (base := base) F_brought_back h_brought_back B
  obtain ⟨_, _, F_partner_of, h_partner_of⟩ := M.m_partner_of.ex
  have D_partner_of := df_partner_of (P := P) (w := w) (base := base) F_partner_of h_partner_of B
  obtain ⟨_, _, F_first_column, h_first_column⟩ := M.m_first_column.ex
  have D_first_column := df_first_column (P := P) (w := w) (base := base) F_first_column h_first_column B
  obtain ⟨_, _, F_last_column, h_last_column⟩ := M.m_last_column.ex
  have D_last_column := df_last_column (P := P) (w := w) (base := base) F_last_column h_last_column B
  obtain ⟨_, _, F_part_order, h_part_order⟩ := M.m_part_order.ex
  have D_part_order := df_part_order (P := P) (w := w) (base := base) F_part_order h_part_order B
  obtain ⟨_, _, F_rows_of, h_rows_of⟩ := M.m_rows_of.ex
  have D_rows_of := df_rows_of (P := P) (w := w) (base := base) F_rows_of h_rows_of B
  obtain ⟨_, _, F_rows_of_L, h_rows_of_L⟩ := M.m_rows_of.ex
  have D_rows_of_L := df_rows_of_L (P := P) (w := w) (base := base) F_rows_of_L h_rows_of_L B
  obtain ⟨_, _, F_lone_pairs, h_lone_pairs⟩ := M.m_lone_pairs.ex
  have D_lone_pairs := df_lone_pairs (P := P) (w := w) (base := base) F_lone_pairs h_lone_pairs B
  obtain ⟨_, _, F_share_person, h_share_person⟩ := M.m_share_person.ex
  have D_share_person := df_share_person (P := P) (w := w) (base := base) F_share_person h_share_person B
  obtain ⟨_, _, F_without_and_with, h_without_and_with⟩ := M.m_without_and_with.ex
  have D_without_and_with := df_without_and_with (P := P) (w := w) (base := base) F_without_and_with h_without_and_with B
  obtain ⟨_, _, F_total_by, h_total_by⟩ := M.m_total_by.ex
  have D_total_by := df_total_by (P := P) (w := w) (base := base) F_total_by h_total_by B
  obtain ⟨_, _, F_firsts_of, h_firsts_of⟩ := M.m_firsts_of.ex
  have D_firsts_of := df_firsts_of (P := P) (w := w) (base := base) F_firsts_of h_firsts_of B
  obtain ⟨_, _, F_seconds_of, h_seconds_of⟩ := M.m_seconds_of.ex
  have D_seconds_of := df_seconds_of (P := P) (w := w) (base := base) F_seconds_of h_seconds_of B
  obtain ⟨_, _, F_load_by, h_load_by⟩ := M.m_load_by.ex
  have D_load_by := df_load_by (P := P) (w := w) (base := base) F_load_by h_load_by B M.c_FIRST
  obtain ⟨_, _, F_are_all_unlike, h_are_all_unlike⟩ := M.m_are_all_unlike.ex
  have D_are_all_unlike := df_are_all_unlike (P := P) (w := w) (base := base) F_are_all_unlike h_are_all_unlike B
  obtain ⟨_, _, F_times_in, h_times_in⟩ := M.m_times_in.ex
  have D_times_in := df_times_in (P := P) (w := w) (base := base) F_times_in h_times_in B
  obtain ⟨_, _, F_without_own, h_without_own⟩ := M.m_without_own.ex
  have D_without_own := df_without_own (P := P) (w := w) (base := base) F_without_own h_without_own B M.c_OWN
  obtain ⟨_, _, F_laid_into, h_laid_into⟩ := M.m_laid_into.ex
  have D_laid_into := df_laid_into (P := P) (w := w) (base := base) F_laid_into h_laid_into B M.c_OWN
  obtain ⟨_, _, F_has_person, h_has_person⟩ := M.m_has_person.ex
  have D_has_person := df_has_person (P := P) (w := w) (base := base) F_has_person h_has_person B
  obtain ⟨_, _, F_laid_plan, h_laid_plan⟩ := M.m_laid_plan.ex
  have D_laid_plan := df_laid_plan (P := P) (w := w) (base := base) F_laid_plan h_laid_plan B
  obtain ⟨_, _, F__law_well, h__law_well⟩ := M.m__law_well.ex
  have D__law_well := df__law_well (P := P) (w := w) (base := base) F__law_well h__law_well B
  obtain ⟨_, _, F__law_take, h__law_take⟩ := M.m__law_take.ex
  have D__law_take := df__law_take (P := P) (w := w) (base := base) F__law_take h__law_take B
  obtain ⟨_, _, F__law_same, h__law_same⟩ := M.m__law_same.ex
  have D__law_same := df__law_same (P := P) (w := w) (base := base) F__law_same h__law_same B
  obtain ⟨_, _, F__law_whole, h__law_whole⟩ := M.m__law_whole.ex
  have D__law_whole := df__law_whole (P := P) (w := w) (base := base) F__law_whole h__law_whole B
  obtain ⟨_, _, F__law_pairs, h__law_pairs⟩ := M.m__law_pairs.ex
  have D__law_pairs := df__law_pairs (P := P) (w := w) (base := base) F__law_pairs h__law_pairs B
  obtain ⟨_, _, F__law_wires_2, h__law_wires_2⟩ := M.m__law_wires.ex
  have D__law_wires_2 := df__law_wires_2 (P := P) (w := w) (base := base) F__law_wires_2 h__law_wires_2 B
  obtain ⟨_, _, F__law_four, h__law_four⟩ := M.m__law_four.ex
  have D__law_four := df__law_four (P := P) (w := w) (base := base) F__law_four h__law_four B
  obtain ⟨_, _, F__law_rounds_of, h__law_rounds_of⟩ := M.m__law_rounds_of.ex
  have D__law_rounds_of := df__law_rounds_of (P := P) (w := w) (base := base) F__law_rounds_of h__law_rounds_of B
  obtain ⟨_, _, F__law_table_of, h__law_table_of⟩ := M.m__law_table_of.ex
  have D__law_table_of := df__law_table_of (P := P) (w := w) (base := base) F__law_table_of h__law_table_of B
  obtain ⟨_, _, F__law_ways, h__law_ways⟩ := M.m__law_ways.ex
  have D__law_ways := df__law_ways (P := P) (w := w) (base := base) F__law_ways h__law_ways B
  obtain ⟨_, _, F_is_between, h_is_between⟩ := M.m_is_between.ex
  have D_is_between := df_is_between (P := P) (w := w) (base := base) F_is_between h_is_between B D_is_whole
  obtain ⟨_, _, F_led_through, h_led_through⟩ := M.m_led_through.ex
  have D_led_through := df_led_through (P := P) (w := w) (base := base) F_led_through h_led_through B M.c_LINES_OF D_parted D_switched D_brought_back
  obtain ⟨_, _, F_sides_of, h_sides_of⟩ := M.m_sides_of.ex
  have D_sides_of := df_sides_of (P := P) (w := w) (base := base) F_sides_of h_sides_of B D_partner_of
  obtain ⟨_, _, F_all_settings, h_all_settings⟩ := M.m_all_settings.ex
  have D_all_settings := df_all_settings (P := P) (w := w) (base := base) F_all_settings h_all_settings B M.c_COLUMNS_OF D_rows_of_L D_rows_of
  obtain ⟨_, _, F_chain_from, h_chain_from⟩ := M.m_chain_from.ex
  have D_chain_from := df_chain_from (P := P) (w := w) (base := base) F_chain_from h_chain_from B D_share_person
  obtain ⟨_, _, F_exchanged_by, h_exchanged_by⟩ := M.m_exchanged_by.ex
  have D_exchanged_by := df_exchanged_by (P := P) (w := w) (base := base) F_exchanged_by h_exchanged_by B D_without_and_with
  obtain ⟨_, _, F_persons_of, h_persons_of⟩ := M.m_persons_of.ex
  have D_persons_of := df_persons_of (P := P) (w := w) (base := base) F_persons_of h_persons_of B M.c_FIRST M.c_SECOND D_firsts_of D_seconds_of
  obtain ⟨_, _, F_pairs_of, h_pairs_of⟩ := M.m_pairs_of.ex
  have D_pairs_of := df_pairs_of (P := P) (w := w) (base := base) F_pairs_of h_pairs_of B D_firsts_of D_seconds_of
  obtain ⟨_, _, F_with_second, h_with_second⟩ := M.m_with_second.ex
  have D_with_second := df_with_second (P := P) (w := w) (base := base) F_with_second h_with_second B M.c_OWN D_laid_into
  obtain ⟨_, _, F_plans_with, h_plans_with⟩ := M.m_plans_with.ex
  have D_plans_with := df_plans_with (P := P) (w := w) (base := base) F_plans_with h_plans_with B D_has_person D_laid_plan
  obtain ⟨_, _, F_check_few, h_check_few⟩ := M.m_check_few.ex
  have D_check_few := df_check_few (P := P) (w := w) (base := base) F_check_few h_check_few B M.c_MOST_COUNTED_countwork D_total_by
  obtain ⟨_, _, F__law_mixed, h__law_mixed⟩ := M.m__law_mixed.ex
  have D__law_mixed := df__law_mixed (P := P) (w := w) (base := base) F__law_mixed h__law_mixed B D__law_take
  obtain ⟨_, _, F__law_is_round, h__law_is_round⟩ := M.m__law_is_round.ex
  have D__law_is_round := df__law_is_round (P := P) (w := w) (base := base) F__law_is_round h__law_is_round B D__law_whole
  obtain ⟨_, _, F__law_wires, h__law_wires⟩ := M.m__law_wires.ex
  have D__law_wires := df__law_wires (P := P) (w := w) (base := base) F__law_wires h__law_wires B D__law_wires_2 D__law_four
  obtain ⟨_, _, F__law_setting, h__law_setting⟩ := M.m__law_setting.ex
  have D__law_setting := df__law_setting (P := P) (w := w) (base := base) F__law_setting h__law_setting B D__law_take
  obtain ⟨_, _, F_wrong_in_lines, h_wrong_in_lines⟩ := M.m_wrong_in_lines.ex
  have D_wrong_in_lines := df_wrong_in_lines (P := P) (w := w) (base := base) F_wrong_in_lines h_wrong_in_lines B M.c_COLUMNS_OF D_is_between
  obtain ⟨_, _, F_is_column, h_is_column⟩ := M.m_is_column.ex
  have D_is_column := df_is_column (P := P) (w := w) (base := base) F_is_column h_is_column B D_is_tuple_of D_is_between
  obtain ⟨_, _, F_led_by_setting, h_led_by_setting⟩ := M.m_led_by_setting.ex
  have D_led_by_setting := df_led_by_setting (P := P) (w := w) (base := base) F_led_by_setting h_led_by_setting B M.c_LINES_OF D_led_through
  obtain ⟨_, _, F_column_pair, h_column_pair⟩ := M.m_column_pair.ex
  have D_column_pair := df_column_pair (P := P) (w := w) (base := base) F_column_pair h_column_pair B D_sides_of D_first_column D_last_column D_part_order
  obtain ⟨_, _, F_chains_by, h_chains_by⟩ := M.m_chains_by.ex
  have D_chains_by := df_chains_by (P := P) (w := w) (base := base) F_chains_by h_chains_by B D_lone_pairs D_chain_from
  obtain ⟨_, _, F_is_count_row, h_is_count_row⟩ := M.m_is_count_row.ex
  have D_is_count_row := df_is_count_row (P := P) (w := w) (base := base) F_is_count_row h_is_count_row B M.c_MOST_COUNT D_is_tuple_of D_is_between
  obtain ⟨_, _, F_is_first, h_is_first⟩ := M.m_is_first.ex
  have D_is_first := df_is_first (P := P) (w := w) (base := base) F_is_first h_is_first B D_is_between
  obtain ⟨_, _, F_is_second, h_is_second⟩ := M.m_is_second.ex
  have D_is_second := df_is_second (P := P) (w := w) (base := base) F_is_second h_is_second B D_is_between
  obtain ⟨_, _, F_height_by, h_height_by⟩ := M.m_height_by.ex
  have D_height_by := df_height_by (P := P) (w := w) (base := base) F_height_by h_height_by B D_persons_of D_load_by
  obtain ⟨_, _, F_meetings_by, h_meetings_by⟩ := M.m_meetings_by.ex
  have D_meetings_by := df_meetings_by (P := P) (w := w) (base := base) F_meetings_by h_meetings_by B D_pairs_of
  obtain ⟨_, _, F_check_times, h_check_times⟩ := M.m_check_times.ex
  have D_check_times := df_check_times (P := P) (w := w) (base := base) F_check_times h_check_times B D_is_between
  obtain ⟨_, _, F_orders_of, h_orders_of⟩ := M.m_orders_of.ex
  have D_orders_of := df_orders_of (P := P) (w := w) (base := base) F_orders_of h_orders_of B M.c_factorial D_pairs_of
  obtain ⟨_, _, F_all_plans_by, h_all_plans_by⟩ := M.m_all_plans_by.ex
  have D_all_plans_by := df_all_plans_by (P := P) (w := w) (base := base) F_all_plans_by h_all_plans_by B D_pairs_of D_plans_with
  obtain ⟨_, _, F__law_is_plan, h__law_is_plan⟩ := M.m__law_is_plan.ex
  have D__law_is_plan := df__law_is_plan (P := P) (w := w) (base := base) F__law_is_plan h__law_is_plan B D__law_is_round D__law_pairs
  obtain ⟨_, _, F_is_setting_by, h_is_setting_by⟩ := M.m_is_setting_by.ex
  have D_is_setting_by := df_is_setting_by (P := P) (w := w) (base := base) F_is_setting_by h_is_setting_by B M.c_LINES_OF D_is_column
  obtain ⟨_, _, F_setting_for_by, h_setting_for_by⟩ := M.m_setting_for_by.ex
  have D_setting_for_by := df_setting_for_by (P := P) (w := w) (base := base) F_setting_for_by h_setting_for_by B D_column_pair
  obtain ⟨_, _, F_count_settings_by, h_count_settings_by⟩ := M.m_count_settings_by.ex
  have D_count_settings_by := df_count_settings_by (P := P) (w := w) (base := base) F_count_settings_by h_count_settings_by B D_all_settings D_led_by_setting
  obtain ⟨_, _, F_check_lines, h_check_lines⟩ := M.m_check_lines.ex
  have D_check_lines := df_check_lines (P := P) (w := w) (base := base) F_check_lines h_check_lines B D_wrong_in_lines
  obtain ⟨_, _, F_is_row_like, h_is_row_like⟩ := M.m_is_row_like.ex
  have D_is_row_like := df_is_row_like (P := P) (w := w) (base := base) F_is_row_like h_is_row_like B M.c_MOST_SIDE D_is_count_row
  obtain ⟨_, _, F_is_pair, h_is_pair⟩ := M.m_is_pair.ex
  have D_is_pair := df_is_pair (P := P) (w := w) (base := base) F_is_pair h_is_pair B D_is_tuple_of_P D_is_first D_is_second
  obtain ⟨_, _, F_is_chain, h_is_chain⟩ := M.m_is_chain.ex
  have D_is_chain := df_is_chain (P := P) (w := w) (base := base) F_is_chain h_is_chain B M.c_repr D_chains_by
  obtain ⟨_, _, F_plan_count_by, h_plan_count_by⟩ := M.m_plan_count_by.ex
  have D_plan_count_by := df_plan_count_by (P := P) (w := w) (base := base) F_plan_count_by h_plan_count_by B D_meetings_by D_without_own D_with_second D_orders_of
  obtain ⟨_, _, F_led_by, h_led_by⟩ := M.m_led_by.ex
  have D_led_by := df_led_by (P := P) (w := w) (base := base) F_led_by h_led_by B D_is_setting_by D_led_by_setting
  obtain ⟨_, _, F_setting_for, h_setting_for⟩ := M.m_setting_for.ex
  have D_setting_for := df_setting_for (P := P) (w := w) (base := base) F_setting_for h_setting_for B D_check_lines D_setting_for_by
  obtain ⟨_, _, F_count_settings, h_count_settings⟩ := M.m_count_settings.ex
  have D_count_settings := df_count_settings (P := P) (w := w) (base := base) F_count_settings h_count_settings B M.c_MOST_COUNTED_nets D_check_lines D_count_settings_by
  obtain ⟨_, _, F_wrong_in_table, h_wrong_in_table⟩ := M.m_wrong_in_table.ex
  have D_wrong_in_table := df_wrong_in_table (P := P) (w := w) (base := base) F_wrong_in_table h_wrong_in_table B M.c_MOST_SIDE M.c_MOST_MEETINGS D_is_row_like D_total_by
  obtain ⟨_, _, F_is_round_by, h_is_round_by⟩ := M.m_is_round_by.ex
  have D_is_round_by := df_is_round_by (P := P) (w := w) (base := base) F_is_round_by h_is_round_by B D_is_pair D_are_rising D_are_all_unlike
  obtain ⟨_, _, F_is_plan_by, h_is_plan_by⟩ := M.m_is_plan_by.ex
  have D_is_plan_by := df_is_plan_by (P := P) (w := w) (base := base) F_is_plan_by h_is_plan_by B D_is_round_by D_pairs_of D_times_in
  obtain ⟨_, _, F_check_table, h_check_table⟩ := M.m_check_table.ex
  have D_check_table := df_check_table (P := P) (w := w) (base := base) F_check_table h_check_table B D_wrong_in_table
  obtain ⟨_, _, F_check_plan, h_check_plan⟩ := M.m_check_plan.ex
  have D_check_plan := df_check_plan (P := P) (w := w) (base := base) F_check_plan h_check_plan B D_is_plan_by
  obtain ⟨_, _, F_is_plan, h_is_plan⟩ := M.m_is_plan.ex
  have D_is_plan := df_is_plan (P := P) (w := w) (base := base) F_is_plan h_is_plan B D_check_table D_is_plan_by
  obtain ⟨_, _, F_plan_count, h_plan_count⟩ := M.m_plan_count.ex
  have D_plan_count := df_plan_count (P := P) (w := w) (base := base) F_plan_count h_plan_count B M.c_MOST_ROUNDS D_check_table D_check_times D_check_few D_plan_count_by
  obtain ⟨_, _, F_height, h_height⟩ := M.m_height.ex
  have D_height := df_height (P := P) (w := w) (base := base) F_height h_height B D_check_table D_height_by
  obtain ⟨_, _, F_check_planned, h_check_planned⟩ := M.m_check_planned.ex
  have D_check_planned := df_check_planned (P := P) (w := w) (base := base) F_check_planned h_check_planned B D_check_table D_check_plan
  obtain ⟨_, _, F_all_plans, h_all_plans⟩ := M.m_all_plans.ex
  have D_all_plans := df_all_plans (P := P) (w := w) (base := base) F_all_plans h_all_plans B M.c_MOST_TOLD D_plan_count D_all_plans_by
  obtain ⟨_, _, F_check_two, h_check_two⟩ := M.m_check_two.ex
  have D_check_two := df_check_two (P := P) (w := w) (base := base) F_check_two h_check_two B D_check_planned D_check_times
  obtain ⟨_, _, F_chains, h_chains⟩ := M.m_chains.ex
  have D_chains := df_chains (P := P) (w := w) (base := base) F_chains h_chains B D_check_two D_chains_by
  obtain ⟨_, _, F_exchanged, h_exchanged⟩ := M.m_exchanged.ex
  have D_exchanged := df_exchanged (P := P) (w := w) (base := base) F_exchanged h_exchanged B D_check_two D_is_chain D_exchanged_by
  obtain ⟨_, _, F__law_right, h__law_right⟩ := M.m__law_right.ex
  have D__law_right := df__law_right (P := P) (w := w) (base := base) F__law_right h__law_right B D_setting_for D__law_table_of D__law_rounds_of D__law_wires D__law_is_plan D_is_plan D__law_same D_height D_chains D__law_take D_exchanged D__law_ways D_count_settings
  exact ok_law F B D__law_well D__law_wires D__law_setting D__law_mixed D__law_right D_led_by D__law_is_plan D__law_rounds_of D__law_table_of D_all_plans D__law_same D_plan_count D_setting_for
theorem law_mk {h : Heap} {fa : Addr} (X : K.In h) (G : h.Ns mainGlobals mg) (hfa : mg "law" = some (.ref fa)) (B : Bi mg) (M : Defs K mg) (L : DefMg K mg "law" s_law) :
    ∃ fd : FuncData, (∀ (s : Shared) (v : Value), BindsTo s fd ⟨[v], []⟩ [("script", v)]) ∧ ∀ base : Heap, K.In base → base.Ns mainGlobals mg → FnG P w K mg base 12 fa fd ["script"] (sp_law K) := by
  obtain ⟨f, fd, F, hm⟩ := L.ex
  have e := hfa.symm.trans hm
  cases e
  refine ⟨fd, ?_, fun base _ _ => all_df B M F⟩
  obtain ⟨oc, od, kV, doc, pm, an, cdv, ct, osl, e, lk, hcd⟩ := F.ex
  subst e
  exact fun s v => .of_eq rfl
end
end K77

open PySem PySem.W PyProof.Rows
set_option maxHeartbeats 0 in
theorem PySem.Challenge.cw_roundhours_k77_whole_nets_beside_plans_holds : PySem.Challenge.rw_roundhours_k77_whole_nets_beside_plans.Holds := by
  w_on; o_law; k_head; (case hw => w_witness2)
  k_fill
  refine DL.walk_ofG (l := PySem.Challenge.rw_roundhours_k77_whole_nets_beside_plans) (n := 63) (k := 12) (x := "script") (sp := fun w => K77.sp_law _) rfl (by decide) rfl ⟨⟨rfl, by decide, by decide⟩, rfl⟩ (fun w h Y => PySem.W.kIn_of Y) ?F (fun _ _ a ns hl _ hS => ⟨a, ns, rfl, hS, fun _ => rfl⟩)
  case F =>
    intro w mg fa h KX G hmg
    refine' K77.law_mk KX G hmg ?qB ?qM ?qL
    case qB =>
      constructor
      case m_len => exact PySem.W.mg_none_of KX G (by k_is)
      case m_range => exact PySem.W.mg_none_of KX G (by k_is)
      case m_list => exact PySem.W.mg_none_of KX G (by k_is)
      case m_tuple => exact PySem.W.mg_none_of KX G (by k_is)
      case m_isinstance => exact PySem.W.mg_none_of KX G (by k_is)
      case m_int => exact PySem.W.mg_none_of KX G (by k_is)
      case m_bool => exact PySem.W.mg_none_of KX G (by k_is)
      case m_sum => exact PySem.W.mg_none_of KX G (by k_is)
      case m_all => exact PySem.W.mg_none_of KX G (by k_is)
      case m_any => exact PySem.W.mg_none_of KX G (by k_is)
      case m_enumerate => exact PySem.W.mg_none_of KX G (by k_is)
      case m_sorted => exact PySem.W.mg_none_of KX G (by k_is)
      case m_max => exact PySem.W.mg_none_of KX G (by k_is)
      case m_min => exact PySem.W.mg_none_of KX G (by k_is)
      case m_divmod => exact PySem.W.mg_none_of KX G (by k_is)
      case m_abs => exact PySem.W.mg_none_of KX G (by k_is)
      case m_dict => exact PySem.W.mg_none_of KX G (by k_is)
      case m_str => exact PySem.W.mg_none_of KX G (by k_is)
    case qM =>
      constructor
      case m_is_whole => (refine' K77.dm_mk KX G ?qa ?ql ?qc ?qk); (case qa => k_is); (case ql => k_is); (case qc => k_is); (case qk => k_is)
      case m_is_between => (refine' K77.dm_mk KX G ?qa ?ql ?qc ?qk); (case qa => k_is); (case ql => k_is); (case qc => k_is); (case qk => k_is)
      case m_is_tuple_of => (refine' K77.dm_mk KX G ?qa ?ql ?qc ?qk); (case qa => k_is); (case ql => k_is); (case qc => k_is); (case qk => k_is)
      case m_are_rising => (refine' K77.dm_mk KX G ?qa ?ql ?qc ?qk); (case qa => k_is); (case ql => k_is); (case qc => k_is); (case qk => k_is)
      case m_wrong_in_lines => (refine' K77.dm_mk KX G ?qa ?ql ?qc ?qk); (case qa => k_is); (case ql => k_is); (case qc => k_is); (case qk => k_is)
      case m_is_column => (refine' K77.dm_mk KX G ?qa ?ql ?qc ?qk); (case qa => k_is); (case ql => k_is); (case qc => k_is); (case qk => k_is)
      case m_is_setting_by => (refine' K77.dm_mk KX G ?qa ?ql ?qc ?qk); (case qa => k_is); (case ql => k_is); (case qc => k_is); (case qk => k_is)
      case m_switched => (refine' K77.dm_mk KX G ?qa ?ql ?qc ?qk); (case qa => k_is); (case ql => k_is); (case qc => k_is); (case qk => k_is)
      case m_parted => (refine' K77.dm_mk KX G ?qa ?ql ?qc ?qk); (case qa => k_is); (case ql => k_is); (case qc => k_is); (case qk => k_is)
      case m_brought_back => (refine' K77.dm_mk KX G ?qa ?ql ?qc ?qk); (case qa => k_is); (case ql => k_is); (case qc => k_is); (case qk => k_is)
      case m_led_through => (refine' K77.dm_mk KX G ?qa ?ql ?qc ?qk); (case qa => k_is); (case ql => k_is); (case qc => k_is); (case qk => k_is)
      case m_led_by_setting => (refine' K77.dm_mk KX G ?qa ?ql ?qc ?qk); (case qa => k_is); (case ql => k_is); (case qc => k_is); (case qk => k_is)
      case m_partner_of => (refine' K77.dm_mk KX G ?qa ?ql ?qc ?qk); (case qa => k_is); (case ql => k_is); (case qc => k_is); (case qk => k_is)
      case m_sides_of => (refine' K77.dm_mk KX G ?qa ?ql ?qc ?qk); (case qa => k_is); (case ql => k_is); (case qc => k_is); (case qk => k_is)
      case m_first_column => (refine' K77.dm_mk KX G ?qa ?ql ?qc ?qk); (case qa => k_is); (case ql => k_is); (case qc => k_is); (case qk => k_is)
      case m_last_column => (refine' K77.dm_mk KX G ?qa ?ql ?qc ?qk); (case qa => k_is); (case ql => k_is); (case qc => k_is); (case qk => k_is)
      case m_part_order => (refine' K77.dm_mk KX G ?qa ?ql ?qc ?qk); (case qa => k_is); (case ql => k_is); (case qc => k_is); (case qk => k_is)
      case m_column_pair => (refine' K77.dm_mk KX G ?qa ?ql ?qc ?qk); (case qa => k_is); (case ql => k_is); (case qc => k_is); (case qk => k_is)
      case m_setting_for_by => (refine' K77.dm_mk KX G ?qa ?ql ?qc ?qk); (case qa => k_is); (case ql => k_is); (case qc => k_is); (case qk => k_is)
      case m_rows_of => (refine' K77.dm_mk KX G ?qa ?ql ?qc ?qk); (case qa => k_is); (case ql => k_is); (case qc => k_is); (case qk => k_is)
      case m_all_settings => (refine' K77.dm_mk KX G ?qa ?ql ?qc ?qk); (case qa => k_is); (case ql => k_is); (case qc => k_is); (case qk => k_is)
      case m_count_settings_by => (refine' K77.dm_mk KX G ?qa ?ql ?qc ?qk); (case qa => k_is); (case ql => k_is); (case qc => k_is); (case qk => k_is)
      case m_check_lines => (refine' K77.dm_mk KX G ?qa ?ql ?qc ?qk); (case qa => k_is); (case ql => k_is); (case qc => k_is); (case qk => k_is)
      case m_led_by => (refine' K77.dm_mk KX G ?qa ?ql ?qc ?qk); (case qa => k_is); (case ql => k_is); (case qc => k_is); (case qk => k_is)
      case m_setting_for => (refine' K77.dm_mk KX G ?qa ?ql ?qc ?qk); (case qa => k_is); (case ql => k_is); (case qc => k_is); (case qk => k_is)
      case m_count_settings => (refine' K77.dm_mk KX G ?qa ?ql ?qc ?qk); (case qa => k_is); (case ql => k_is); (case qc => k_is); (case qk => k_is)
      case m_lone_pairs => (refine' K77.dm_mk KX G ?qa ?ql ?qc ?qk); (case qa => k_is); (case ql => k_is); (case qc => k_is); (case qk => k_is)
      case m_share_person => (refine' K77.dm_mk KX G ?qa ?ql ?qc ?qk); (case qa => k_is); (case ql => k_is); (case qc => k_is); (case qk => k_is)
      case m_chain_from => (refine' K77.dm_mk KX G ?qa ?ql ?qc ?qk); (case qa => k_is); (case ql => k_is); (case qc => k_is); (case qk => k_is)
      case m_chains_by => (refine' K77.dm_mk KX G ?qa ?ql ?qc ?qk); (case qa => k_is); (case ql => k_is); (case qc => k_is); (case qk => k_is)
      case m_without_and_with => (refine' K77.dm_mk KX G ?qa ?ql ?qc ?qk); (case qa => k_is); (case ql => k_is); (case qc => k_is); (case qk => k_is)
      case m_exchanged_by => (refine' K77.dm_mk KX G ?qa ?ql ?qc ?qk); (case qa => k_is); (case ql => k_is); (case qc => k_is); (case qk => k_is)
      case m_is_count_row => (refine' K77.dm_mk KX G ?qa ?ql ?qc ?qk); (case qa => k_is); (case ql => k_is); (case qc => k_is); (case qk => k_is)
      case m_is_row_like => (refine' K77.dm_mk KX G ?qa ?ql ?qc ?qk); (case qa => k_is); (case ql => k_is); (case qc => k_is); (case qk => k_is)
      case m_wrong_in_table => (refine' K77.dm_mk KX G ?qa ?ql ?qc ?qk); (case qa => k_is); (case ql => k_is); (case qc => k_is); (case qk => k_is)
      case m_total_by => (refine' K77.dm_mk KX G ?qa ?ql ?qc ?qk); (case qa => k_is); (case ql => k_is); (case qc => k_is); (case qk => k_is)
      case m_firsts_of => (refine' K77.dm_mk KX G ?qa ?ql ?qc ?qk); (case qa => k_is); (case ql => k_is); (case qc => k_is); (case qk => k_is)
      case m_seconds_of => (refine' K77.dm_mk KX G ?qa ?ql ?qc ?qk); (case qa => k_is); (case ql => k_is); (case qc => k_is); (case qk => k_is)
      case m_is_first => (refine' K77.dm_mk KX G ?qa ?ql ?qc ?qk); (case qa => k_is); (case ql => k_is); (case qc => k_is); (case qk => k_is)
      case m_is_second => (refine' K77.dm_mk KX G ?qa ?ql ?qc ?qk); (case qa => k_is); (case ql => k_is); (case qc => k_is); (case qk => k_is)
      case m_persons_of => (refine' K77.dm_mk KX G ?qa ?ql ?qc ?qk); (case qa => k_is); (case ql => k_is); (case qc => k_is); (case qk => k_is)
      case m_load_by => (refine' K77.dm_mk KX G ?qa ?ql ?qc ?qk); (case qa => k_is); (case ql => k_is); (case qc => k_is); (case qk => k_is)
      case m_height_by => (refine' K77.dm_mk KX G ?qa ?ql ?qc ?qk); (case qa => k_is); (case ql => k_is); (case qc => k_is); (case qk => k_is)
      case m_pairs_of => (refine' K77.dm_mk KX G ?qa ?ql ?qc ?qk); (case qa => k_is); (case ql => k_is); (case qc => k_is); (case qk => k_is)
      case m_meetings_by => (refine' K77.dm_mk KX G ?qa ?ql ?qc ?qk); (case qa => k_is); (case ql => k_is); (case qc => k_is); (case qk => k_is)
      case m_is_pair => (refine' K77.dm_mk KX G ?qa ?ql ?qc ?qk); (case qa => k_is); (case ql => k_is); (case qc => k_is); (case qk => k_is)
      case m_are_all_unlike => (refine' K77.dm_mk KX G ?qa ?ql ?qc ?qk); (case qa => k_is); (case ql => k_is); (case qc => k_is); (case qk => k_is)
      case m_is_round_by => (refine' K77.dm_mk KX G ?qa ?ql ?qc ?qk); (case qa => k_is); (case ql => k_is); (case qc => k_is); (case qk => k_is)
      case m_times_in => (refine' K77.dm_mk KX G ?qa ?ql ?qc ?qk); (case qa => k_is); (case ql => k_is); (case qc => k_is); (case qk => k_is)
      case m_is_plan_by => (refine' K77.dm_mk KX G ?qa ?ql ?qc ?qk); (case qa => k_is); (case ql => k_is); (case qc => k_is); (case qk => k_is)
      case m_check_table => (refine' K77.dm_mk KX G ?qa ?ql ?qc ?qk); (case qa => k_is); (case ql => k_is); (case qc => k_is); (case qk => k_is)
      case m_check_plan => (refine' K77.dm_mk KX G ?qa ?ql ?qc ?qk); (case qa => k_is); (case ql => k_is); (case qc => k_is); (case qk => k_is)
      case m_check_times => (refine' K77.dm_mk KX G ?qa ?ql ?qc ?qk); (case qa => k_is); (case ql => k_is); (case qc => k_is); (case qk => k_is)
      case m_is_plan => (refine' K77.dm_mk KX G ?qa ?ql ?qc ?qk); (case qa => k_is); (case ql => k_is); (case qc => k_is); (case qk => k_is)
      case m_check_planned => (refine' K77.dm_mk KX G ?qa ?ql ?qc ?qk); (case qa => k_is); (case ql => k_is); (case qc => k_is); (case qk => k_is)
      case m_check_two => (refine' K77.dm_mk KX G ?qa ?ql ?qc ?qk); (case qa => k_is); (case ql => k_is); (case qc => k_is); (case qk => k_is)
      case m_chains => (refine' K77.dm_mk KX G ?qa ?ql ?qc ?qk); (case qa => k_is); (case ql => k_is); (case qc => k_is); (case qk => k_is)
      case m_is_chain => (refine' K77.dm_mk KX G ?qa ?ql ?qc ?qk); (case qa => k_is); (case ql => k_is); (case qc => k_is); (case qk => k_is)
      case m_exchanged => (refine' K77.dm_mk KX G ?qa ?ql ?qc ?qk); (case qa => k_is); (case ql => k_is); (case qc => k_is); (case qk => k_is)
      case m_without_own => (refine' K77.dm_mk KX G ?qa ?ql ?qc ?qk); (case qa => k_is); (case ql => k_is); (case qc => k_is); (case qk => k_is)
      case m_laid_into => (refine' K77.dm_mk KX G ?qa ?ql ?qc ?qk); (case qa => k_is); (case ql => k_is); (case qc => k_is); (case qk => k_is)
      case m_with_second => (refine' K77.dm_mk KX G ?qa ?ql ?qc ?qk); (case qa => k_is); (case ql => k_is); (case qc => k_is); (case qk => k_is)
      case m_orders_of => (refine' K77.dm_mk KX G ?qa ?ql ?qc ?qk); (case qa => k_is); (case ql => k_is); (case qc => k_is); (case qk => k_is)
      case m_plan_count_by => (refine' K77.dm_mk KX G ?qa ?ql ?qc ?qk); (case qa => k_is); (case ql => k_is); (case qc => k_is); (case qk => k_is)
      case m_has_person => (refine' K77.dm_mk KX G ?qa ?ql ?qc ?qk); (case qa => k_is); (case ql => k_is); (case qc => k_is); (case qk => k_is)
      case m_laid_plan => (refine' K77.dm_mk KX G ?qa ?ql ?qc ?qk); (case qa => k_is); (case ql => k_is); (case qc => k_is); (case qk => k_is)
      case m_plans_with => (refine' K77.dm_mk KX G ?qa ?ql ?qc ?qk); (case qa => k_is); (case ql => k_is); (case qc => k_is); (case qk => k_is)
      case m_all_plans_by => (refine' K77.dm_mk KX G ?qa ?ql ?qc ?qk); (case qa => k_is); (case ql => k_is); (case qc => k_is); (case qk => k_is)
      case m_check_few => (refine' K77.dm_mk KX G ?qa ?ql ?qc ?qk); (case qa => k_is); (case ql => k_is); (case qc => k_is); (case qk => k_is)
      case m_plan_count => (refine' K77.dm_mk KX G ?qa ?ql ?qc ?qk); (case qa => k_is); (case ql => k_is); (case qc => k_is); (case qk => k_is)
      case m_all_plans => (refine' K77.dm_mk KX G ?qa ?ql ?qc ?qk); (case qa => k_is); (case ql => k_is); (case qc => k_is); (case qk => k_is)
      case m_height => (refine' K77.dm_mk KX G ?qa ?ql ?qc ?qk); (case qa => k_is); (case ql => k_is); (case qc => k_is); (case qk => k_is)
      case m__law_well => (refine' K77.dm_mk KX G ?qa ?ql ?qc ?qk); (case qa => k_is); (case ql => k_is); (case qc => k_is); (case qk => k_is)
      case m__law_take => (refine' K77.dm_mk KX G ?qa ?ql ?qc ?qk); (case qa => k_is); (case ql => k_is); (case qc => k_is); (case qk => k_is)
      case m__law_same => (refine' K77.dm_mk KX G ?qa ?ql ?qc ?qk); (case qa => k_is); (case ql => k_is); (case qc => k_is); (case qk => k_is)
      case m__law_whole => (refine' K77.dm_mk KX G ?qa ?ql ?qc ?qk); (case qa => k_is); (case ql => k_is); (case qc => k_is); (case qk => k_is)
      case m__law_mixed => (refine' K77.dm_mk KX G ?qa ?ql ?qc ?qk); (case qa => k_is); (case ql => k_is); (case qc => k_is); (case qk => k_is)
      case m__law_pairs => (refine' K77.dm_mk KX G ?qa ?ql ?qc ?qk); (case qa => k_is); (case ql => k_is); (case qc => k_is); (case qk => k_is)
      case m__law_is_round => (refine' K77.dm_mk KX G ?qa ?ql ?qc ?qk); (case qa => k_is); (case ql => k_is); (case qc => k_is); (case qk => k_is)
      case m__law_is_plan => (refine' K77.dm_mk KX G ?qa ?ql ?qc ?qk); (case qa => k_is); (case ql => k_is); (case qc => k_is); (case qk => k_is)
      case m__law_wires => (refine' K77.dm_mk KX G ?qa ?ql ?qc ?qk); (case qa => k_is); (case ql => k_is); (case qc => k_is); (case qk => k_is)
      case m__law_four => (refine' K77.dm_mk KX G ?qa ?ql ?qc ?qk); (case qa => k_is); (case ql => k_is); (case qc => k_is); (case qk => k_is)
      case m__law_setting => (refine' K77.dm_mk KX G ?qa ?ql ?qc ?qk); (case qa => k_is); (case ql => k_is); (case qc => k_is); (case qk => k_is)
      case m__law_rounds_of => (refine' K77.dm_mk KX G ?qa ?ql ?qc ?qk); (case qa => k_is); (case ql => k_is); (case qc => k_is); (case qk => k_is)
      case m__law_table_of => (refine' K77.dm_mk KX G ?qa ?ql ?qc ?qk); (case qa => k_is); (case ql => k_is); (case qc => k_is); (case qk => k_is)
      case m__law_right => (refine' K77.dm_mk KX G ?qa ?ql ?qc ?qk); (case qa => k_is); (case ql => k_is); (case qc => k_is); (case qk => k_is)
      case m__law_ways => (refine' K77.dm_mk KX G ?qa ?ql ?qc ?qk); (case qa => k_is); (case ql => k_is); (case qc => k_is); (case qk => k_is)
      case c_COLUMNS_OF => (refine' K77.kd_mk KX G ?qa ?ql ?qs ?qe); (case qa => k_is); (case ql => k_is); (case qs => decide); (case qe => exact ⟨⟨⟨_, rfl⟩, rfl, _, rfl⟩, ⟨⟨⟨_, rfl⟩, rfl, _, rfl⟩, ⟨⟨⟨_, rfl⟩, rfl, _, rfl⟩, trivial⟩⟩⟩)
      case c_FIRST => exact ⟨_, PySem.W.mg_of KX G (by k_is)⟩
      case c_LINES_OF => (refine' K77.kd_mk KX G ?qa ?ql ?qs ?qe); (case qa => k_is); (case ql => k_is); (case qs => decide); (case qe => exact ⟨⟨⟨_, rfl⟩, rfl, _, rfl⟩, ⟨⟨⟨_, rfl⟩, rfl, _, rfl⟩, ⟨⟨⟨_, rfl⟩, rfl, _, rfl⟩, trivial⟩⟩⟩)
      case c_MOST_COUNT => exact ⟨_, PySem.W.mg_of KX G (by k_is)⟩
      case c_MOST_COUNTED_countwork => exact ⟨_, PySem.W.mg_of KX G (by k_is)⟩
      case c_MOST_COUNTED_nets => exact ⟨_, PySem.W.mg_of KX G (by k_is)⟩
      case c_MOST_MEETINGS => exact ⟨_, PySem.W.mg_of KX G (by k_is)⟩
      case c_MOST_ROUNDS => exact ⟨_, PySem.W.mg_of KX G (by k_is)⟩
      case c_MOST_SIDE => exact ⟨_, PySem.W.mg_of KX G (by k_is)⟩
      case c_MOST_TOLD => exact ⟨_, PySem.W.mg_of KX G (by k_is)⟩
      case c_OWN => exact ⟨_, PySem.W.mg_of KX G (by k_is)⟩
      case c_SECOND => exact ⟨_, PySem.W.mg_of KX G (by k_is)⟩
      case c_factorial => exact PySem.W.mg_of KX G (by k_is)
      case c_repr => exact PySem.W.mg_none_of KX G (by k_is)
    case qL => (refine' K77.dm_mk KX G ?qa ?ql ?qc ?qk); (case qa => k_is); (case ql => k_is); (case qc => k_is); (case qk => k_is)
