import Derived.Test.YtojjoinjabogbaaA4Tb
import Derived.KernelRfl
/- Each function's code computes what the plain function computes. -/
set_option linter.unusedSimpArgs false
set_option linter.deprecated false
set_option linter.unusedSectionVars false
set_option linter.unusedVariables false
set_option maxRecDepth 100000
open Go Go.Proofs
noncomputable section
namespace Go.Sm.A4
/-- By recursors, and of a greater height than all of the functions: the kernel takes these apart first. -/
def obind {α β : Type} (o : Option α) (f : α → Option β) : Option β := let _ := @laws_FnExactLoad22; Option.rec (motive := fun _ => Option β) none (fun a => f a) o
theorem obind_some {α β : Type} {o : Option α} {f : α → Option β} {y : β} (h : obind o f = some y) : ∃ a, o = some a ∧ f a = some y := by
  cases o with
  | none => cases h
  | some a => exact ⟨a, rfl, h⟩
def ocons {β : Type} (l : List (A T)) (f : A T → List (A T) → Option β) : Option β := let _ := @laws_FnExactLoad22; List.rec (motive := fun _ => Option β) none (fun a r _ => f a r) l
theorem ocons_some {β : Type} {l : List (A T)} {f : A T → List (A T) → Option β} {y : β} (h : ocons l f = some y) : ∃ a r, l = a :: r ∧ f a r = some y := by
  cases l with
  | nil => cases h
  | cons a r => exact ⟨a, r, rfl, h⟩
def onil {β : Type} (l : List (A T)) (x : Option β) : Option β := let _ := @laws_FnExactLoad22; List.rec (motive := fun _ => Option β) x (fun _ _ _ => none) l
theorem onil_some {β : Type} {l : List (A T)} {x : Option β} {y : β} (h : onil l x = some y) : l = [] ∧ x = some y := by
  cases l with
  | nil => exact ⟨rfl, h⟩
  | cons a r => cases h
def laws_szLegS_dec (res : Res T) : Option Int := match res.rets, res.outs with
  | [a0], [] => (retV (T := T) 3 a0).bind fun r0 => some (r0)
  | _, _ => none
def laws_szLegS_enc (y : Int) : Res T := ⟨[vR T 3 y], []⟩
theorem laws_szLegS_de (res : Res T) (y : Int) (h : laws_szLegS_dec res = some y) : res = laws_szLegS_enc y := by
  obtain ⟨rets, outs⟩ := res
  unfold laws_szLegS_dec at h
  dsimp only at h
  split at h
  · obtain ⟨r0, h0, h⟩ := Option.bind_eq_some_iff.1 h
    cases h
    rw [retV_eq ok h0]
    rfl
  · cases h
def laws_toLeg_dec (res : Res T) : Option SLeg := match res.rets, res.outs with
  | [a0], [] => (retV (T := T) 132 a0).bind fun r0 => some (r0)
  | _, _ => none
def laws_toLeg_enc (y : SLeg) : Res T := ⟨[vR T 132 y], []⟩
theorem laws_toLeg_de (res : Res T) (y : SLeg) (h : laws_toLeg_dec res = some y) : res = laws_toLeg_enc y := by
  obtain ⟨rets, outs⟩ := res
  unfold laws_toLeg_dec at h
  dsimp only at h
  split at h
  · obtain ⟨r0, h0, h⟩ := Option.bind_eq_some_iff.1 h
    cases h
    rw [retV_eq ok h0]
    rfl
  · cases h
def laws_toLegS_dec (res : Res T) : Option (List SLeg) := match res.rets, res.outs with
  | [a0], [] => (retV (T := T) 36 a0).bind fun r0 => some (r0)
  | _, _ => none
def laws_toLegS_enc (y : List SLeg) : Res T := ⟨[vR T 36 y], []⟩
theorem laws_toLegS_de (res : Res T) (y : List SLeg) (h : laws_toLegS_dec res = some y) : res = laws_toLegS_enc y := by
  obtain ⟨rets, outs⟩ := res
  unfold laws_toLegS_dec at h
  dsimp only at h
  split at h
  · obtain ⟨r0, h0, h⟩ := Option.bind_eq_some_iff.1 h
    cases h
    rw [retV_eq ok h0]
    rfl
  · cases h
def laws_toIntS_dec (res : Res T) : Option (List Int) := match res.rets, res.outs with
  | [a0], [] => (retV (T := T) 24 a0).bind fun r0 => some (r0)
  | _, _ => none
def laws_toIntS_enc (y : List Int) : Res T := ⟨[vR T 24 y], []⟩
theorem laws_toIntS_de (res : Res T) (y : List Int) (h : laws_toIntS_dec res = some y) : res = laws_toIntS_enc y := by
  obtain ⟨rets, outs⟩ := res
  unfold laws_toIntS_dec at h
  dsimp only at h
  split at h
  · obtain ⟨r0, h0, h⟩ := Option.bind_eq_some_iff.1 h
    cases h
    rw [retV_eq ok h0]
    rfl
  · cases h
def spec_l1In_dec (res : Res T) : Option Bool := match res.rets, res.outs with
  | [a0], [] => (retV (T := T) 4 a0).bind fun r0 => some (r0)
  | _, _ => none
def spec_l1In_enc (y : Bool) : Res T := ⟨[vR T 4 y], []⟩
theorem spec_l1In_de (res : Res T) (y : Bool) (h : spec_l1In_dec res = some y) : res = spec_l1In_enc y := by
  obtain ⟨rets, outs⟩ := res
  unfold spec_l1In_dec at h
  dsimp only at h
  split at h
  · obtain ⟨r0, h0, h⟩ := Option.bind_eq_some_iff.1 h
    cases h
    rw [retV_eq ok h0]
    rfl
  · cases h
def spec_l1Minute_dec (res : Res T) : Option Bool := match res.rets, res.outs with
  | [a0], [] => (retV (T := T) 4 a0).bind fun r0 => some (r0)
  | _, _ => none
def spec_l1Minute_enc (y : Bool) : Res T := ⟨[vR T 4 y], []⟩
theorem spec_l1Minute_de (res : Res T) (y : Bool) (h : spec_l1Minute_dec res = some y) : res = spec_l1Minute_enc y := by
  obtain ⟨rets, outs⟩ := res
  unfold spec_l1Minute_dec at h
  dsimp only at h
  split at h
  · obtain ⟨r0, h0, h⟩ := Option.bind_eq_some_iff.1 h
    cases h
    rw [retV_eq ok h0]
    rfl
  · cases h
def spec_LegsOk_dec (res : Res T) : Option Bool := match res.rets, res.outs with
  | [a0], [] => (retV (T := T) 4 a0).bind fun r0 => some (r0)
  | _, _ => none
def spec_LegsOk_enc (y : Bool) : Res T := ⟨[vR T 4 y], []⟩
theorem spec_LegsOk_de (res : Res T) (y : Bool) (h : spec_LegsOk_dec res = some y) : res = spec_LegsOk_enc y := by
  obtain ⟨rets, outs⟩ := res
  unfold spec_LegsOk_dec at h
  dsimp only at h
  split at h
  · obtain ⟨r0, h0, h⟩ := Option.bind_eq_some_iff.1 h
    cases h
    rw [retV_eq ok h0]
    rfl
  · cases h
def spec_l18Turn_dec (res : Res T) : Option Int := match res.rets, res.outs with
  | [a0], [] => (retV (T := T) 3 a0).bind fun r0 => some (r0)
  | _, _ => none
def spec_l18Turn_enc (y : Int) : Res T := ⟨[vR T 3 y], []⟩
theorem spec_l18Turn_de (res : Res T) (y : Int) (h : spec_l18Turn_dec res = some y) : res = spec_l18Turn_enc y := by
  obtain ⟨rets, outs⟩ := res
  unfold spec_l18Turn_dec at h
  dsimp only at h
  split at h
  · obtain ⟨r0, h0, h⟩ := Option.bind_eq_some_iff.1 h
    cases h
    rw [retV_eq ok h0]
    rfl
  · cases h
def spec_l22Way_dec (res : Res T) : Option Bool := match res.rets, res.outs with
  | [a0], [] => (retV (T := T) 4 a0).bind fun r0 => some (r0)
  | _, _ => none
def spec_l22Way_enc (y : Bool) : Res T := ⟨[vR T 4 y], []⟩
theorem spec_l22Way_de (res : Res T) (y : Bool) (h : spec_l22Way_dec res = some y) : res = spec_l22Way_enc y := by
  obtain ⟨rets, outs⟩ := res
  unfold spec_l22Way_dec at h
  dsimp only at h
  split at h
  · obtain ⟨r0, h0, h⟩ := Option.bind_eq_some_iff.1 h
    cases h
    rw [retV_eq ok h0]
    rfl
  · cases h
def spec_Load22_dec (res : Res T) : Option (List SLeg × Int) := match res.rets, res.outs with
  | [a0, a1], [] => (retV (T := T) 36 a0).bind fun r0 => (retV (T := T) 3 a1).bind fun r1 => some (r0, r1)
  | _, _ => none
def spec_Load22_enc (y : List SLeg × Int) : Res T := ⟨[vR T 36 y.1, vR T 3 y.2], []⟩
theorem spec_Load22_de (res : Res T) (y : List SLeg × Int) (h : spec_Load22_dec res = some y) : res = spec_Load22_enc y := by
  obtain ⟨rets, outs⟩ := res
  unfold spec_Load22_dec at h
  dsimp only at h
  split at h
  · obtain ⟨r0, h0, h⟩ := Option.bind_eq_some_iff.1 h
    obtain ⟨r1, h1, h⟩ := Option.bind_eq_some_iff.1 h
    cases h
    rw [retV_eq ok h0, retV_eq ok h1]
    rfl
  · cases h
def impl_own_impl_Leg_dec (res : Res T) : Option (List SLeg) := match res.rets, res.outs with
  | [a0], [] => (retV (T := T) 36 a0).bind fun r0 => some (r0)
  | _, _ => none
def impl_own_impl_Leg_enc (y : List SLeg) : Res T := ⟨[vR T 36 y], []⟩
theorem impl_own_impl_Leg_de (res : Res T) (y : List SLeg) (h : impl_own_impl_Leg_dec res = some y) : res = impl_own_impl_Leg_enc y := by
  obtain ⟨rets, outs⟩ := res
  unfold impl_own_impl_Leg_dec at h
  dsimp only at h
  split at h
  · obtain ⟨r0, h0, h⟩ := Option.bind_eq_some_iff.1 h
    cases h
    rw [retV_eq ok h0]
    rfl
  · cases h
def impl_in_dec (res : Res T) : Option Bool := match res.rets, res.outs with
  | [a0], [] => (retV (T := T) 4 a0).bind fun r0 => some (r0)
  | _, _ => none
def impl_in_enc (y : Bool) : Res T := ⟨[vR T 4 y], []⟩
theorem impl_in_de (res : Res T) (y : Bool) (h : impl_in_dec res = some y) : res = impl_in_enc y := by
  obtain ⟨rets, outs⟩ := res
  unfold impl_in_dec at h
  dsimp only at h
  split at h
  · obtain ⟨r0, h0, h⟩ := Option.bind_eq_some_iff.1 h
    cases h
    rw [retV_eq ok h0]
    rfl
  · cases h
def impl_linePort_dec (res : Res T) : Option Bool := match res.rets, res.outs with
  | [a0], [] => (retV (T := T) 4 a0).bind fun r0 => some (r0)
  | _, _ => none
def impl_linePort_enc (y : Bool) : Res T := ⟨[vR T 4 y], []⟩
theorem impl_linePort_de (res : Res T) (y : Bool) (h : impl_linePort_dec res = some y) : res = impl_linePort_enc y := by
  obtain ⟨rets, outs⟩ := res
  unfold impl_linePort_dec at h
  dsimp only at h
  split at h
  · obtain ⟨r0, h0, h⟩ := Option.bind_eq_some_iff.1 h
    cases h
    rw [retV_eq ok h0]
    rfl
  · cases h
def impl_minuteOk_dec (res : Res T) : Option Bool := match res.rets, res.outs with
  | [a0], [] => (retV (T := T) 4 a0).bind fun r0 => some (r0)
  | _, _ => none
def impl_minuteOk_enc (y : Bool) : Res T := ⟨[vR T 4 y], []⟩
theorem impl_minuteOk_de (res : Res T) (y : Bool) (h : impl_minuteOk_dec res = some y) : res = impl_minuteOk_enc y := by
  obtain ⟨rets, outs⟩ := res
  unfold impl_minuteOk_dec at h
  dsimp only at h
  split at h
  · obtain ⟨r0, h0, h⟩ := Option.bind_eq_some_iff.1 h
    cases h
    rw [retV_eq ok h0]
    rfl
  · cases h
def impl_LegsOk_dec (res : Res T) : Option Bool := match res.rets, res.outs with
  | [a0], [] => (retV (T := T) 4 a0).bind fun r0 => some (r0)
  | _, _ => none
def impl_LegsOk_enc (y : Bool) : Res T := ⟨[vR T 4 y], []⟩
theorem impl_LegsOk_de (res : Res T) (y : Bool) (h : impl_LegsOk_dec res = some y) : res = impl_LegsOk_enc y := by
  obtain ⟨rets, outs⟩ := res
  unfold impl_LegsOk_dec at h
  dsimp only at h
  split at h
  · obtain ⟨r0, h0, h⟩ := Option.bind_eq_some_iff.1 h
    cases h
    rw [retV_eq ok h0]
    rfl
  · cases h
def slices_Index_int_int_dec (res : Res T) : Option Int := match res.rets, res.outs with
  | [a0], [] => (retV (T := T) 3 a0).bind fun r0 => some (r0)
  | _, _ => none
def slices_Index_int_int_enc (y : Int) : Res T := ⟨[vR T 3 y], []⟩
theorem slices_Index_int_int_de (res : Res T) (y : Int) (h : slices_Index_int_int_dec res = some y) : res = slices_Index_int_int_enc y := by
  obtain ⟨rets, outs⟩ := res
  unfold slices_Index_int_int_dec at h
  dsimp only at h
  split at h
  · obtain ⟨r0, h0, h⟩ := Option.bind_eq_some_iff.1 h
    cases h
    rw [retV_eq ok h0]
    rfl
  · cases h
def slices_Contains_int_int_dec (res : Res T) : Option Bool := match res.rets, res.outs with
  | [a0], [] => (retV (T := T) 4 a0).bind fun r0 => some (r0)
  | _, _ => none
def slices_Contains_int_int_enc (y : Bool) : Res T := ⟨[vR T 4 y], []⟩
theorem slices_Contains_int_int_de (res : Res T) (y : Bool) (h : slices_Contains_int_int_dec res = some y) : res = slices_Contains_int_int_enc y := by
  obtain ⟨rets, outs⟩ := res
  unfold slices_Contains_int_int_dec at h
  dsimp only at h
  split at h
  · obtain ⟨r0, h0, h⟩ := Option.bind_eq_some_iff.1 h
    cases h
    rw [retV_eq ok h0]
    rfl
  · cases h
def impl_changes_dec (res : Res T) : Option Bool := match res.rets, res.outs with
  | [a0], [] => (retV (T := T) 4 a0).bind fun r0 => some (r0)
  | _, _ => none
def impl_changes_enc (y : Bool) : Res T := ⟨[vR T 4 y], []⟩
theorem impl_changes_de (res : Res T) (y : Bool) (h : impl_changes_dec res = some y) : res = impl_changes_enc y := by
  obtain ⟨rets, outs⟩ := res
  unfold impl_changes_dec at h
  dsimp only at h
  split at h
  · obtain ⟨r0, h0, h⟩ := Option.bind_eq_some_iff.1 h
    cases h
    rw [retV_eq ok h0]
    rfl
  · cases h
def impl_Load22_dec (res : Res T) : Option (List SLeg × Int) := match res.rets, res.outs with
  | [a0, a1], [] => (retV (T := T) 36 a0).bind fun r0 => (retV (T := T) 3 a1).bind fun r1 => some (r0, r1)
  | _, _ => none
def impl_Load22_enc (y : List SLeg × Int) : Res T := ⟨[vR T 36 y.1, vR T 3 y.2], []⟩
theorem impl_Load22_de (res : Res T) (y : List SLeg × Int) (h : impl_Load22_dec res = some y) : res = impl_Load22_enc y := by
  obtain ⟨rets, outs⟩ := res
  unfold impl_Load22_dec at h
  dsimp only at h
  split at h
  · obtain ⟨r0, h0, h⟩ := Option.bind_eq_some_iff.1 h
    obtain ⟨r1, h1, h⟩ := Option.bind_eq_some_iff.1 h
    cases h
    rw [retV_eq ok h0, retV_eq ok h1]
    rfl
  · cases h
def laws_eqLeg_dec (res : Res T) : Option Bool := match res.rets, res.outs with
  | [a0], [] => (retV (T := T) 4 a0).bind fun r0 => some (r0)
  | _, _ => none
def laws_eqLeg_enc (y : Bool) : Res T := ⟨[vR T 4 y], []⟩
theorem laws_eqLeg_de (res : Res T) (y : Bool) (h : laws_eqLeg_dec res = some y) : res = laws_eqLeg_enc y := by
  obtain ⟨rets, outs⟩ := res
  unfold laws_eqLeg_dec at h
  dsimp only at h
  split at h
  · obtain ⟨r0, h0, h⟩ := Option.bind_eq_some_iff.1 h
    cases h
    rw [retV_eq ok h0]
    rfl
  · cases h
def laws_eqLegS_dec (res : Res T) : Option Bool := match res.rets, res.outs with
  | [a0], [] => (retV (T := T) 4 a0).bind fun r0 => some (r0)
  | _, _ => none
def laws_eqLegS_enc (y : Bool) : Res T := ⟨[vR T 4 y], []⟩
theorem laws_eqLegS_de (res : Res T) (y : Bool) (h : laws_eqLegS_dec res = some y) : res = laws_eqLegS_enc y := by
  obtain ⟨rets, outs⟩ := res
  unfold laws_eqLegS_dec at h
  dsimp only at h
  split at h
  · obtain ⟨r0, h0, h⟩ := Option.bind_eq_some_iff.1 h
    cases h
    rw [retV_eq ok h0]
    rfl
  · cases h
def laws_eqIntS_dec (res : Res T) : Option Bool := match res.rets, res.outs with
  | [a0], [] => (retV (T := T) 4 a0).bind fun r0 => some (r0)
  | _, _ => none
def laws_eqIntS_enc (y : Bool) : Res T := ⟨[vR T 4 y], []⟩
theorem laws_eqIntS_de (res : Res T) (y : Bool) (h : laws_eqIntS_dec res = some y) : res = laws_eqIntS_enc y := by
  obtain ⟨rets, outs⟩ := res
  unfold laws_eqIntS_dec at h
  dsimp only at h
  split at h
  · obtain ⟨r0, h0, h⟩ := Option.bind_eq_some_iff.1 h
    cases h
    rw [retV_eq ok h0]
    rfl
  · cases h
def laws_markLegS_dec (res : Res T) : Option (Int × List SLeg) := match res.rets, res.outs with
  | [a0], [b0] => (retV (T := T) 3 a0).bind fun r0 => (outS (T := T) 132 b0).bind fun r1 => some (r0, r1)
  | _, _ => none
def laws_markLegS_enc (y : Int × List SLeg) : Res T := ⟨[vR T 3 y.1], [.sl 132 y.2]⟩
theorem laws_markLegS_de (res : Res T) (y : Int × List SLeg) (h : laws_markLegS_dec res = some y) : res = laws_markLegS_enc y := by
  obtain ⟨rets, outs⟩ := res
  unfold laws_markLegS_dec at h
  dsimp only at h
  split at h
  · obtain ⟨r0, h0, h⟩ := Option.bind_eq_some_iff.1 h
    obtain ⟨r1, h1, h⟩ := Option.bind_eq_some_iff.1 h
    cases h
    rw [retV_eq ok h0, outS_eq h1]
    rfl
  · cases h
def laws_markIntS_dec (res : Res T) : Option (Int × List Int) := match res.rets, res.outs with
  | [a0], [b0] => (retV (T := T) 3 a0).bind fun r0 => (outS (T := T) 3 b0).bind fun r1 => some (r0, r1)
  | _, _ => none
def laws_markIntS_enc (y : Int × List Int) : Res T := ⟨[vR T 3 y.1], [.sl 3 y.2]⟩
theorem laws_markIntS_de (res : Res T) (y : Int × List Int) (h : laws_markIntS_dec res = some y) : res = laws_markIntS_enc y := by
  obtain ⟨rets, outs⟩ := res
  unfold laws_markIntS_dec at h
  dsimp only at h
  split at h
  · obtain ⟨r0, h0, h⟩ := Option.bind_eq_some_iff.1 h
    obtain ⟨r1, h1, h⟩ := Option.bind_eq_some_iff.1 h
    cases h
    rw [retV_eq ok h0, outS_eq h1]
    rfl
  · cases h
def laws_heldLegS_dec (res : Res T) : Option Int := match res.rets, res.outs with
  | [a0], [] => (retV (T := T) 3 a0).bind fun r0 => some (r0)
  | _, _ => none
def laws_heldLegS_enc (y : Int) : Res T := ⟨[vR T 3 y], []⟩
theorem laws_heldLegS_de (res : Res T) (y : Int) (h : laws_heldLegS_dec res = some y) : res = laws_heldLegS_enc y := by
  obtain ⟨rets, outs⟩ := res
  unfold laws_heldLegS_dec at h
  dsimp only at h
  split at h
  · obtain ⟨r0, h0, h⟩ := Option.bind_eq_some_iff.1 h
    cases h
    rw [retV_eq ok h0]
    rfl
  · cases h
def laws_FnExactLoad22_dec (res : Res T) : Option Bool := match res.rets, res.outs with
  | [a0], [] => (retV (T := T) 4 a0).bind fun r0 => some (r0)
  | _, _ => none
def laws_FnExactLoad22_enc (y : Bool) : Res T := ⟨[vR T 4 y], []⟩
theorem laws_FnExactLoad22_de (res : Res T) (y : Bool) (h : laws_FnExactLoad22_dec res = some y) : res = laws_FnExactLoad22_enc y := by
  obtain ⟨rets, outs⟩ := res
  unfold laws_FnExactLoad22_dec at h
  dsimp only at h
  split at h
  · obtain ⟨r0, h0, h⟩ := Option.bind_eq_some_iff.1 h
    cases h
    rw [retV_eq ok h0]
    rfl
  · cases h
def laws_szLegS_D (n : Nat) (r0 : List (A T)) : Option Int := ocons r0 fun a0 r1 => ocons r1 fun a1 r2 => onil r2 (obind (argV (T := T) 34 a0) fun a0 => obind (argV (T := T) 3 a1) fun left1 => laws_szLegS n a0 left1)
def laws_szLegS_ent (n : Nat) : Ent T := ⟨24, 0, [], Int, laws_szLegS_D n, laws_szLegS_enc⟩
def laws_toLeg_D (n : Nat) (r0 : List (A T)) : Option SLeg := ocons r0 fun a0 r1 => onil r1 (obind (argV (T := T) 163 a0) fun a0 => laws_toLeg n a0)
def laws_toLeg_ent (n : Nat) : Ent T := ⟨111, 1, [], SLeg, laws_toLeg_D n, laws_toLeg_enc⟩
def laws_toLegS_D (n : Nat) (r0 : List (A T)) : Option (List SLeg) := ocons r0 fun a0 r1 => onil r1 (obind (argV (T := T) 34 a0) fun a0 => laws_toLegS n a0)
def laws_toLegS_ent (n : Nat) : Ent T := ⟨26, 2, [], List SLeg, laws_toLegS_D n, laws_toLegS_enc⟩
def laws_toIntS_D (n : Nat) (r0 : List (A T)) : Option (List Int) := ocons r0 fun a0 r1 => onil r1 (obind (argV (T := T) 24 a0) fun a0 => laws_toIntS n a0)
def laws_toIntS_ent (n : Nat) : Ent T := ⟨27, 3, [], List Int, laws_toIntS_D n, laws_toIntS_enc⟩
def spec_l1In_D (n : Nat) (r0 : List (A T)) : Option Bool := ocons r0 fun a0 r1 => ocons r1 fun a1 r2 => ocons r2 fun a2 r3 => onil r3 (obind (argV (T := T) 3 a0) fun x0 => obind (argV (T := T) 3 a1) fun a1 => obind (argV (T := T) 3 a2) fun b2 => spec_l1In n x0 a1 b2)
def spec_l1In_ent (n : Nat) : Ent T := ⟨101, 4, [], Bool, spec_l1In_D n, spec_l1In_enc⟩
def spec_l1Minute_D (n : Nat) (r0 : List (A T)) : Option Bool := ocons r0 fun a0 r1 => onil r1 (obind (argV (T := T) 3 a0) fun x0 => spec_l1Minute n x0)
def spec_l1Minute_ent (n : Nat) : Ent T := ⟨212, 5, [], Bool, spec_l1Minute_D n, spec_l1Minute_enc⟩
def spec_LegsOk_D (n : Nat) (r0 : List (A T)) : Option Bool := ocons r0 fun a0 r1 => onil r1 (obind (argV (T := T) 36 a0) fun legs0 => spec_LegsOk n legs0)
def spec_LegsOk_ent (n : Nat) : Ent T := ⟨109, 6, [], Bool, spec_LegsOk_D n, spec_LegsOk_enc⟩
def spec_l18Turn_D (n : Nat) (r0 : List (A T)) : Option Int := ocons r0 fun a0 r1 => ocons r1 fun a1 r2 => onil r2 (obind (argV (T := T) 24 a0) fun order0 => obind (argV (T := T) 3 a1) fun box1 => spec_l18Turn n order0 box1)
def spec_l18Turn_ent (n : Nat) : Ent T := ⟨213, 7, [], Int, spec_l18Turn_D n, spec_l18Turn_enc⟩
def spec_l22Way_D (n : Nat) (r0 : List (A T)) : Option Bool := ocons r0 fun a0 r1 => ocons r1 fun a1 r2 => onil r2 (obind (argV (T := T) 36 a0) fun legs0 => obind (argV (T := T) 24 a1) fun way1 => spec_l22Way n legs0 way1)
def spec_l22Way_ent (n : Nat) : Ent T := ⟨110, 8, [], Bool, spec_l22Way_D n, spec_l22Way_enc⟩
def spec_Load22_D (n : Nat) (r0 : List (A T)) : Option (List SLeg × Int) := ocons r0 fun a0 r1 => ocons r1 fun a1 r2 => ocons r2 fun a2 r3 => onil r3 (obind (argV (T := T) 36 a0) fun legs0 => obind (argV (T := T) 24 a1) fun way1 => obind (argV (T := T) 3 a2) fun many2 => spec_Load22 n legs0 way1 many2)
def spec_Load22_ent (n : Nat) : Ent T := ⟨25, 9, [], List SLeg × Int, spec_Load22_D n, spec_Load22_enc⟩
def impl_own_impl_Leg_D (n : Nat) (r0 : List (A T)) : Option (List SLeg) := ocons r0 fun a0 r1 => onil r1 (obind (argV (T := T) 36 a0) fun l0 => impl_own_impl_Leg n l0)
def impl_own_impl_Leg_ent (n : Nat) : Ent T := ⟨112, 10, [], List SLeg, impl_own_impl_Leg_D n, impl_own_impl_Leg_enc⟩
def impl_in_D (n : Nat) (r0 : List (A T)) : Option Bool := ocons r0 fun a0 r1 => ocons r1 fun a1 r2 => ocons r2 fun a2 r3 => onil r3 (obind (argV (T := T) 3 a0) fun n0 => obind (argV (T := T) 3 a1) fun least1 => obind (argV (T := T) 3 a2) fun most2 => impl_in n n0 least1 most2)
def impl_in_ent (n : Nat) : Ent T := ⟨113, 11, [], Bool, impl_in_D n, impl_in_enc⟩
def impl_linePort_D (n : Nat) (r0 : List (A T)) : Option Bool := ocons r0 fun a0 r1 => onil r1 (obind (argV (T := T) 3 a0) fun n0 => impl_linePort n n0)
def impl_linePort_ent (n : Nat) : Ent T := ⟨188, 12, [], Bool, impl_linePort_D n, impl_linePort_enc⟩
def impl_minuteOk_D (n : Nat) (r0 : List (A T)) : Option Bool := ocons r0 fun a0 r1 => onil r1 (obind (argV (T := T) 3 a0) fun n0 => impl_minuteOk n n0)
def impl_minuteOk_ent (n : Nat) : Ent T := ⟨189, 13, [], Bool, impl_minuteOk_D n, impl_minuteOk_enc⟩
def impl_LegsOk_D (n : Nat) (r0 : List (A T)) : Option Bool := ocons r0 fun a0 r1 => onil r1 (obind (argV (T := T) 36 a0) fun legs0 => impl_LegsOk n legs0)
def impl_LegsOk_ent (n : Nat) : Ent T := ⟨90, 14, [], Bool, impl_LegsOk_D n, impl_LegsOk_enc⟩
def slices_Index_int_int_D (n : Nat) (r0 : List (A T)) : Option Int := ocons r0 fun a0 r1 => ocons r1 fun a1 r2 => onil r2 (obind (argV (T := T) 24 a0) fun s0 => obind (argV (T := T) 3 a1) fun v1 => slices_Index_int_int n s0 v1)
def slices_Index_int_int_ent (n : Nat) : Ent T := ⟨214, 15, [], Int, slices_Index_int_int_D n, slices_Index_int_int_enc⟩
def slices_Contains_int_int_D (n : Nat) (r0 : List (A T)) : Option Bool := ocons r0 fun a0 r1 => ocons r1 fun a1 r2 => onil r2 (obind (argV (T := T) 24 a0) fun s0 => obind (argV (T := T) 3 a1) fun v1 => slices_Contains_int_int n s0 v1)
def slices_Contains_int_int_ent (n : Nat) : Ent T := ⟨114, 16, [], Bool, slices_Contains_int_int_D n, slices_Contains_int_int_enc⟩
def impl_changes_D (n : Nat) (r0 : List (A T)) : Option Bool := ocons r0 fun a0 r1 => ocons r1 fun a1 r2 => ocons r2 fun a2 r3 => onil r3 (obind (argV (T := T) 132 a0) fun i0 => obind (argV (T := T) 132 a1) fun j1 => obind (argV (T := T) 3 a2) fun change2 => impl_changes n i0 j1 change2)
def impl_changes_ent (n : Nat) : Ent T := ⟨115, 17, [], Bool, impl_changes_D n, impl_changes_enc⟩
def impl_Load22_D (n : Nat) (r0 : List (A T)) : Option (List SLeg × Int) := ocons r0 fun a0 r1 => ocons r1 fun a1 r2 => ocons r2 fun a2 r3 => onil r3 (obind (argV (T := T) 36 a0) fun legs0 => obind (argV (T := T) 24 a1) fun way1 => obind (argV (T := T) 3 a2) fun many2 => impl_Load22 n legs0 way1 many2)
def impl_Load22_ent (n : Nat) : Ent T := ⟨28, 18, [], List SLeg × Int, impl_Load22_D n, impl_Load22_enc⟩
def laws_eqLeg_D (n : Nat) (r0 : List (A T)) : Option Bool := ocons r0 fun a0 r1 => ocons r1 fun a1 r2 => onil r2 (obind (argV (T := T) 132 a0) fun a0 => obind (argV (T := T) 132 a1) fun b1 => laws_eqLeg n a0 b1)
def laws_eqLeg_ent (n : Nat) : Ent T := ⟨116, 19, [], Bool, laws_eqLeg_D n, laws_eqLeg_enc⟩
def laws_eqLegS_D (n : Nat) (r0 : List (A T)) : Option Bool := ocons r0 fun a0 r1 => ocons r1 fun a1 r2 => onil r2 (obind (argV (T := T) 36 a0) fun a0 => obind (argV (T := T) 36 a1) fun b1 => laws_eqLegS n a0 b1)
def laws_eqLegS_ent (n : Nat) : Ent T := ⟨29, 20, [], Bool, laws_eqLegS_D n, laws_eqLegS_enc⟩
def laws_eqIntS_D (n : Nat) (r0 : List (A T)) : Option Bool := ocons r0 fun a0 r1 => ocons r1 fun a1 r2 => onil r2 (obind (argV (T := T) 24 a0) fun a0 => obind (argV (T := T) 24 a1) fun b1 => laws_eqIntS n a0 b1)
def laws_eqIntS_ent (n : Nat) : Ent T := ⟨19, 21, [], Bool, laws_eqIntS_D n, laws_eqIntS_enc⟩
def laws_markLegS_D (n : Nat) (r0 : List (A T)) : Option (Int × List SLeg) := ocons r0 fun a0 r1 => ocons r1 fun a1 r2 => onil r2 (obind (argV (T := T) 36 a0) fun a0 => obind (argV (T := T) 3 a1) fun k1 => laws_markLegS n a0 k1)
def laws_markLegS_ent (n : Nat) : Ent T := ⟨30, 22, [], Int × List SLeg, laws_markLegS_D n, laws_markLegS_enc⟩
def laws_markIntS_D (n : Nat) (r0 : List (A T)) : Option (Int × List Int) := ocons r0 fun a0 r1 => ocons r1 fun a1 r2 => onil r2 (obind (argV (T := T) 24 a0) fun a0 => obind (argV (T := T) 3 a1) fun k1 => laws_markIntS n a0 k1)
def laws_markIntS_ent (n : Nat) : Ent T := ⟨22, 23, [], Int × List Int, laws_markIntS_D n, laws_markIntS_enc⟩
def laws_heldLegS_D (n : Nat) (r0 : List (A T)) : Option Int := ocons r0 fun a0 r1 => ocons r1 fun a1 r2 => onil r2 (obind (argV (T := T) 36 a0) fun a0 => obind (argV (T := T) 3 a1) fun k1 => laws_heldLegS n a0 k1)
def laws_heldLegS_ent (n : Nat) : Ent T := ⟨31, 24, [], Int, laws_heldLegS_D n, laws_heldLegS_enc⟩
def laws_FnExactLoad22_D (n : Nat) (r0 : List (A T)) : Option Bool := ocons r0 fun a0 r1 => ocons r1 fun a1 r2 => ocons r2 fun a2 r3 => onil r3 (obind (argV (T := T) 34 a0) fun aLegs0 => obind (argV (T := T) 24 a1) fun aWay1 => obind (argV (T := T) 3 a2) fun aMany2 => laws_FnExactLoad22 n aLegs0 aWay1 aMany2)
def laws_FnExactLoad22_ent (n : Nat) : Ent T := ⟨4, 25, [], Bool, laws_FnExactLoad22_D n, laws_FnExactLoad22_enc⟩
def ents (n : Nat) : List (Ent T) := [laws_szLegS_ent n, laws_toLeg_ent n, laws_toLegS_ent n, laws_toIntS_ent n, spec_l1In_ent n, spec_l1Minute_ent n, spec_LegsOk_ent n, spec_l18Turn_ent n, spec_l22Way_ent n, spec_Load22_ent n, impl_own_impl_Leg_ent n, impl_in_ent n, impl_linePort_ent n, impl_minuteOk_ent n, impl_LegsOk_ent n, slices_Index_int_int_ent n, slices_Contains_int_int_ent n, impl_changes_ent n, impl_Load22_ent n, laws_eqLeg_ent n, laws_eqLegS_ent n, laws_eqIntS_ent n, laws_markLegS_ent n, laws_markIntS_ent n, laws_heldLegS_ent n, laws_FnExactLoad22_ent n]
abbrev Phi (n i : Nat) {R : Type} (f : Nat) (ar : List (A T)) (K : Res T → Option R) : Option R := PhiE (ents n) i f ar K
theorem mixed : Try.prog.follows .mixedOrders = true := by kernel_rfl
noncomputable def laws_szLegS_code : Code := match Try.f24.body with | some c => c | none => .skip
def laws_szLegS_ann : Ann := fun id => none
def laws_szLegS_Ls (n : Nat) : Nat → Option (LSpec T) := fun id => none
theorem laws_szLegS_tie (n : Nat) (a0 : List SLeg) (left1 : Int) : evF (T := T) (Phi n 0) (laws_szLegS_Ls n) laws_szLegS_ann n Try.f24 (sg 24) [vA T 34 a0, vA T 3 left1] laws_szLegS_dec = laws_szLegS n a0 left1 := by kernel_rfl
theorem laws_szLegS_lo (n : Nat) : LoopsOk (T := T) (Phi n 0) (laws_szLegS_Ls n) laws_szLegS_ann n laws_szLegS_code := loopsOk_all (cs := []) (by kernel_rfl) trivial
theorem laws_szLegS_ok (n : Nat) : EntOk Try.prog (ents n) (laws_szLegS_ent n) := by
  intro hs ar y hg h
  replace h : laws_szLegS_D n ar = some y := h
  unfold laws_szLegS_D at h
  replace h := ocons_some h
  obtain ⟨a0, r0, rfl, h⟩ := h
  replace h := ocons_some h
  obtain ⟨a1, r1, rfl, h⟩ := h
  replace h := onil_some h
  obtain ⟨rfl, h⟩ := h
  obtain ⟨a0, qh0, h⟩ := obind_some h
  obtain ⟨left1, qh1, h⟩ := obind_some h
  rw [argV_eq ok qh0, argV_eq ok qh1]
  exact call_of (phiE_nat _ _) hs ok mixed Try.func24 (c := laws_szLegS_code) (by kernel_rfl) (laws_szLegS_lo n) (by kernel_rfl) (by kernel_rfl) (by kernel_rfl) laws_szLegS_de ((laws_szLegS_tie n a0 left1).trans h)
noncomputable def laws_toLeg_code : Code := match Try.f111.body with | some c => c | none => .skip
def laws_toLeg_ann : Ann := fun id => none
def laws_toLeg_Ls (n : Nat) : Nat → Option (LSpec T) := fun id => none
theorem laws_toLeg_tie (n : Nat) (a0 : SLeg) : evF (T := T) (Phi n 1) (laws_toLeg_Ls n) laws_toLeg_ann n Try.f111 (sg 111) [vA T 163 a0] laws_toLeg_dec = laws_toLeg n a0 := by kernel_rfl
theorem laws_toLeg_lo (n : Nat) : LoopsOk (T := T) (Phi n 1) (laws_toLeg_Ls n) laws_toLeg_ann n laws_toLeg_code := loopsOk_all (cs := []) (by kernel_rfl) trivial
theorem laws_toLeg_ok (n : Nat) : EntOk Try.prog (ents n) (laws_toLeg_ent n) := by
  intro hs ar y hg h
  replace h : laws_toLeg_D n ar = some y := h
  unfold laws_toLeg_D at h
  replace h := ocons_some h
  obtain ⟨a0, r0, rfl, h⟩ := h
  replace h := onil_some h
  obtain ⟨rfl, h⟩ := h
  obtain ⟨a0, qh0, h⟩ := obind_some h
  rw [argV_eq ok qh0]
  exact call_of (phiE_nat _ _) hs ok mixed Try.func111 (c := laws_toLeg_code) (by kernel_rfl) (laws_toLeg_lo n) (by kernel_rfl) (by kernel_rfl) (by kernel_rfl) laws_toLeg_de ((laws_toLeg_tie n a0).trans h)
noncomputable def laws_toLegS_code : Code := match Try.f26.body with | some c => c | none => .skip
def laws_toLegS_3_sv : List Sv := [.one (.arr 163), .one (.own 3000000 132 false), .one (.int .i64)]
def laws_toLegS_3_so : List So := [.arr 132 false]
def laws_toLegS_3_emb (c : List SLeg) (x : Int × List SLeg) : EVs T laws_toLegS_3_sv × EOs T laws_toLegS_3_so := ((c, (), x.1, ()), (x.2, ()))
def laws_toLegS_3_prj (y : EVs T laws_toLegS_3_sv × EOs T laws_toLegS_3_so) : List SLeg × (Int × List SLeg) := ((y.1.1), (y.1.2.2.1, y.2.1))
def laws_toLegS_3_b (n : Nat) {R : Type} (K : Ex → Sm.St T → Option R) (c : List SLeg) (x : Int × List SLeg) (J : (Int × List SLeg) → Option R) : Option R :=
  laws_toLegS_L3 n (fun (y0 : List SLeg) => K (.exit 0) (stOf (T := T) [3] [3000000] [.one (.own 3000000 132 false)] [.arr 132 false] ((), ()) (y0, ()))) (fun z0 z1 => J (z0, z1)) c x.1 x.2
def laws_toLegS_3_sp (n : Nat) : LSpec T := mkSpec T ⟨[((.reg 3), 3000000, 132)], [0, 3, 4], [3000000]⟩ laws_toLegS_3_sv laws_toLegS_3_so (List SLeg) (Int × List SLeg) laws_toLegS_3_emb laws_toLegS_3_prj (laws_toLegS_3_b n)
noncomputable def laws_toLegS_3_c : Code := ((loopCodes laws_toLegS_code)[0]?).getD .skip
def laws_toLegS_ann : Ann := fun id => bif Nat.beq id 3000003 then some ⟨[((.reg 3), 3000000, 132)], [3], [3000000]⟩ else none
def laws_toLegS_Ls (n : Nat) : Nat → Option (LSpec T) := fun id => bif Nat.beq id 3 then some (laws_toLegS_3_sp n) else none
theorem laws_toLegS_3_le (n : Nat) : LoopEq (T := T) (Phi n 2) (laws_toLegS_Ls n) laws_toLegS_ann n laws_toLegS_3_c (laws_toLegS_3_sp n) := ⟨mkSpec_dec (fun y => rfl), fun c x => by kernel_rfl, fun K J c x => by kernel_rfl⟩
theorem laws_toLegS_tie (n : Nat) (a0 : List SLeg) : evF (T := T) (Phi n 2) (laws_toLegS_Ls n) laws_toLegS_ann n Try.f26 (sg 26) [vA T 34 a0] laws_toLegS_dec = laws_toLegS n a0 := by kernel_rfl
theorem laws_toLegS_lo (n : Nat) : LoopsOk (T := T) (Phi n 2) (laws_toLegS_Ls n) laws_toLegS_ann n laws_toLegS_code := loopsOk_all (cs := [laws_toLegS_3_c]) (by kernel_rfl) ⟨⟨_, by kernel_rfl, laws_toLegS_3_le n⟩, trivial⟩
theorem laws_toLegS_ok (n : Nat) : EntOk Try.prog (ents n) (laws_toLegS_ent n) := by
  intro hs ar y hg h
  replace h : laws_toLegS_D n ar = some y := h
  unfold laws_toLegS_D at h
  replace h := ocons_some h
  obtain ⟨a0, r0, rfl, h⟩ := h
  replace h := onil_some h
  obtain ⟨rfl, h⟩ := h
  obtain ⟨a0, qh0, h⟩ := obind_some h
  rw [argV_eq ok qh0]
  exact call_of (phiE_nat _ _) hs ok mixed Try.func26 (c := laws_toLegS_code) (by kernel_rfl) (laws_toLegS_lo n) (by kernel_rfl) (by kernel_rfl) (by kernel_rfl) laws_toLegS_de ((laws_toLegS_tie n a0).trans h)
noncomputable def laws_toIntS_code : Code := match Try.f27.body with | some c => c | none => .skip
def laws_toIntS_3_sv : List Sv := [.one (.arr 3), .one (.own 3000000 3 false), .one (.int .i64)]
def laws_toIntS_3_so : List So := [.arr 3 false]
def laws_toIntS_3_emb (c : List Int) (x : Int × List Int) : EVs T laws_toIntS_3_sv × EOs T laws_toIntS_3_so := ((c, (), x.1, ()), (x.2, ()))
def laws_toIntS_3_prj (y : EVs T laws_toIntS_3_sv × EOs T laws_toIntS_3_so) : List Int × (Int × List Int) := ((y.1.1), (y.1.2.2.1, y.2.1))
def laws_toIntS_3_b (n : Nat) {R : Type} (K : Ex → Sm.St T → Option R) (c : List Int) (x : Int × List Int) (J : (Int × List Int) → Option R) : Option R :=
  laws_toIntS_L3 n (fun (y0 : List Int) => K (.exit 0) (stOf (T := T) [3] [3000000] [.one (.own 3000000 3 false)] [.arr 3 false] ((), ()) (y0, ()))) (fun z0 z1 => J (z0, z1)) c x.1 x.2
def laws_toIntS_3_sp (n : Nat) : LSpec T := mkSpec T ⟨[((.reg 3), 3000000, 3)], [0, 3, 4], [3000000]⟩ laws_toIntS_3_sv laws_toIntS_3_so (List Int) (Int × List Int) laws_toIntS_3_emb laws_toIntS_3_prj (laws_toIntS_3_b n)
noncomputable def laws_toIntS_3_c : Code := ((loopCodes laws_toIntS_code)[0]?).getD .skip
def laws_toIntS_ann : Ann := fun id => bif Nat.beq id 3000003 then some ⟨[((.reg 3), 3000000, 3)], [3], [3000000]⟩ else none
def laws_toIntS_Ls (n : Nat) : Nat → Option (LSpec T) := fun id => bif Nat.beq id 3 then some (laws_toIntS_3_sp n) else none
theorem laws_toIntS_3_le (n : Nat) : LoopEq (T := T) (Phi n 3) (laws_toIntS_Ls n) laws_toIntS_ann n laws_toIntS_3_c (laws_toIntS_3_sp n) := ⟨mkSpec_dec (fun y => rfl), fun c x => by kernel_rfl, fun K J c x => by kernel_rfl⟩
theorem laws_toIntS_tie (n : Nat) (a0 : List Int) : evF (T := T) (Phi n 3) (laws_toIntS_Ls n) laws_toIntS_ann n Try.f27 (sg 27) [vA T 24 a0] laws_toIntS_dec = laws_toIntS n a0 := by kernel_rfl
theorem laws_toIntS_lo (n : Nat) : LoopsOk (T := T) (Phi n 3) (laws_toIntS_Ls n) laws_toIntS_ann n laws_toIntS_code := loopsOk_all (cs := [laws_toIntS_3_c]) (by kernel_rfl) ⟨⟨_, by kernel_rfl, laws_toIntS_3_le n⟩, trivial⟩
theorem laws_toIntS_ok (n : Nat) : EntOk Try.prog (ents n) (laws_toIntS_ent n) := by
  intro hs ar y hg h
  replace h : laws_toIntS_D n ar = some y := h
  unfold laws_toIntS_D at h
  replace h := ocons_some h
  obtain ⟨a0, r0, rfl, h⟩ := h
  replace h := onil_some h
  obtain ⟨rfl, h⟩ := h
  obtain ⟨a0, qh0, h⟩ := obind_some h
  rw [argV_eq ok qh0]
  exact call_of (phiE_nat _ _) hs ok mixed Try.func27 (c := laws_toIntS_code) (by kernel_rfl) (laws_toIntS_lo n) (by kernel_rfl) (by kernel_rfl) (by kernel_rfl) laws_toIntS_de ((laws_toIntS_tie n a0).trans h)
noncomputable def spec_l1In_code : Code := match Try.f101.body with | some c => c | none => .skip
def spec_l1In_ann : Ann := fun id => none
def spec_l1In_Ls (n : Nat) : Nat → Option (LSpec T) := fun id => none
theorem spec_l1In_tie (n : Nat) (x0 : Int) (a1 : Int) (b2 : Int) : evF (T := T) (Phi n 4) (spec_l1In_Ls n) spec_l1In_ann n Try.f101 (sg 101) [vA T 3 x0, vA T 3 a1, vA T 3 b2] spec_l1In_dec = spec_l1In n x0 a1 b2 := by kernel_rfl
theorem spec_l1In_lo (n : Nat) : LoopsOk (T := T) (Phi n 4) (spec_l1In_Ls n) spec_l1In_ann n spec_l1In_code := loopsOk_all (cs := []) (by kernel_rfl) trivial
theorem spec_l1In_ok (n : Nat) : EntOk Try.prog (ents n) (spec_l1In_ent n) := by
  intro hs ar y hg h
  replace h : spec_l1In_D n ar = some y := h
  unfold spec_l1In_D at h
  replace h := ocons_some h
  obtain ⟨a0, r0, rfl, h⟩ := h
  replace h := ocons_some h
  obtain ⟨a1, r1, rfl, h⟩ := h
  replace h := ocons_some h
  obtain ⟨a2, r2, rfl, h⟩ := h
  replace h := onil_some h
  obtain ⟨rfl, h⟩ := h
  obtain ⟨x0, qh0, h⟩ := obind_some h
  obtain ⟨a1, qh1, h⟩ := obind_some h
  obtain ⟨b2, qh2, h⟩ := obind_some h
  rw [argV_eq ok qh0, argV_eq ok qh1, argV_eq ok qh2]
  exact call_of (phiE_nat _ _) hs ok mixed Try.func101 (c := spec_l1In_code) (by kernel_rfl) (spec_l1In_lo n) (by kernel_rfl) (by kernel_rfl) (by kernel_rfl) spec_l1In_de ((spec_l1In_tie n x0 a1 b2).trans h)
noncomputable def spec_l1Minute_code : Code := match Try.f212.body with | some c => c | none => .skip
def spec_l1Minute_ann : Ann := fun id => none
def spec_l1Minute_Ls (n : Nat) : Nat → Option (LSpec T) := fun id => none
theorem spec_l1Minute_tie (n : Nat) (x0 : Int) : evF (T := T) (Phi n 5) (spec_l1Minute_Ls n) spec_l1Minute_ann n Try.f212 (sg 212) [vA T 3 x0] spec_l1Minute_dec = spec_l1Minute n x0 := by kernel_rfl
theorem spec_l1Minute_lo (n : Nat) : LoopsOk (T := T) (Phi n 5) (spec_l1Minute_Ls n) spec_l1Minute_ann n spec_l1Minute_code := loopsOk_all (cs := []) (by kernel_rfl) trivial
theorem spec_l1Minute_ok (n : Nat) : EntOk Try.prog (ents n) (spec_l1Minute_ent n) := by
  intro hs ar y hg h
  replace h : spec_l1Minute_D n ar = some y := h
  unfold spec_l1Minute_D at h
  replace h := ocons_some h
  obtain ⟨a0, r0, rfl, h⟩ := h
  replace h := onil_some h
  obtain ⟨rfl, h⟩ := h
  obtain ⟨x0, qh0, h⟩ := obind_some h
  rw [argV_eq ok qh0]
  exact call_of (phiE_nat _ _) hs ok mixed Try.func212 (c := spec_l1Minute_code) (by kernel_rfl) (spec_l1Minute_lo n) (by kernel_rfl) (by kernel_rfl) (by kernel_rfl) spec_l1Minute_de ((spec_l1Minute_tie n x0).trans h)
noncomputable def spec_LegsOk_code : Code := match Try.f109.body with | some c => c | none => .skip
def spec_LegsOk_2_sv : List Sv := [.one (.arr 132), .one (.int .i64)]
def spec_LegsOk_2_so : List So := []
def spec_LegsOk_2_emb (c : List SLeg) (x : Int) : EVs T spec_LegsOk_2_sv × EOs T spec_LegsOk_2_so := ((c, x, ()), ())
def spec_LegsOk_2_prj (y : EVs T spec_LegsOk_2_sv × EOs T spec_LegsOk_2_so) : List SLeg × Int := ((y.1.1), (y.1.2.1))
def spec_LegsOk_2_b (n : Nat) {R : Type} (K : Ex → Sm.St T → Option R) (c : List SLeg) (x : Int) (J : Int → Option R) : Option R :=
  spec_LegsOk_L2 n (K (.exit 0) (stOf (T := T) [0] [] [.one (.arr 132)] [] (c, ()) ())) (fun (y0 : Bool) => K .ret (stOf (T := T) [2] [] [.one (.bool)] [] (y0, ()) ())) J c x
def spec_LegsOk_2_sp (n : Nat) : LSpec T := mkSpec T ⟨[], [0, 3], []⟩ spec_LegsOk_2_sv spec_LegsOk_2_so (List SLeg) (Int) spec_LegsOk_2_emb spec_LegsOk_2_prj (spec_LegsOk_2_b n)
noncomputable def spec_LegsOk_2_c : Code := ((loopCodes spec_LegsOk_code)[0]?).getD .skip
def spec_LegsOk_8_sv : List Sv := [.one (.arr 132), .one (.int .i64), .one (.ptr 32 0 0), .one (.int .i64)]
def spec_LegsOk_8_so : List So := [.var [.int .i64, .int .i64, .int .i64, .int .i64, .int .i64, .int .i64]]
def spec_LegsOk_8_emb (c : List SLeg × Int × SLeg) (x : Int) : EVs T spec_LegsOk_8_sv × EOs T spec_LegsOk_8_so := ((c.1, c.2.1, (), x, ()), ((c.2.2.Service, c.2.2.From, c.2.2.To, c.2.2.Leaves, c.2.2.Comes, c.2.2.Room, ()), ()))
def spec_LegsOk_8_prj (y : EVs T spec_LegsOk_8_sv × EOs T spec_LegsOk_8_so) : (List SLeg × Int × SLeg) × Int := ((y.1.1, y.1.2.1, ((⟨y.2.1.1, y.2.1.2.1, y.2.1.2.2.1, y.2.1.2.2.2.1, y.2.1.2.2.2.2.1, y.2.1.2.2.2.2.2.1⟩ : SLeg) : SLeg)), (y.1.2.2.2.1))
def spec_LegsOk_8_b (n : Nat) {R : Type} (K : Ex → Sm.St T → Option R) (c : List SLeg × Int × SLeg) (x : Int) (J : Int → Option R) : Option R :=
  spec_LegsOk_L8 n (K (.exit 2) (stOf (T := T) [0, 3] [] [.one (.arr 132), .one (.int .i64)] [] (c.1, c.2.1, ()) ())) (fun (y0 : Bool) => K .ret (stOf (T := T) [2] [] [.one (.bool)] [] (y0, ()) ())) J c.1 c.2.1 x c.2.2
def spec_LegsOk_8_sp (n : Nat) : LSpec T := mkSpec T ⟨[], [0, 3, 4, 5], [32]⟩ spec_LegsOk_8_sv spec_LegsOk_8_so (List SLeg × Int × SLeg) (Int) spec_LegsOk_8_emb spec_LegsOk_8_prj (spec_LegsOk_8_b n)
noncomputable def spec_LegsOk_8_c : Code := ((loopCodes spec_LegsOk_code)[1]?).getD .skip
def spec_LegsOk_ann : Ann := fun id => bif Nat.beq id 3000002 then some ⟨[], [0], []⟩ else bif Nat.beq id 2000002 then some ⟨[], [2], []⟩ else bif Nat.beq id 5000008 then some ⟨[], [0, 3], []⟩ else bif Nat.beq id 2000008 then some ⟨[], [2], []⟩ else none
def spec_LegsOk_Ls (n : Nat) : Nat → Option (LSpec T) := fun id => bif Nat.beq id 2 then some (spec_LegsOk_2_sp n) else bif Nat.beq id 8 then some (spec_LegsOk_8_sp n) else none
theorem spec_LegsOk_2_le (n : Nat) : LoopEq (T := T) (Phi n 6) (spec_LegsOk_Ls n) spec_LegsOk_ann n spec_LegsOk_2_c (spec_LegsOk_2_sp n) := ⟨mkSpec_dec (fun y => rfl), fun c x => by kernel_rfl, fun K J c x => by kernel_rfl⟩
theorem spec_LegsOk_8_le (n : Nat) : LoopEq (T := T) (Phi n 6) (spec_LegsOk_Ls n) spec_LegsOk_ann n spec_LegsOk_8_c (spec_LegsOk_8_sp n) := ⟨mkSpec_dec (fun y => rfl), fun c x => by kernel_rfl, fun K J c x => by kernel_rfl⟩
theorem spec_LegsOk_tie (n : Nat) (legs0 : List SLeg) : evF (T := T) (Phi n 6) (spec_LegsOk_Ls n) spec_LegsOk_ann n Try.f109 (sg 109) [vA T 36 legs0] spec_LegsOk_dec = spec_LegsOk n legs0 := by kernel_rfl
theorem spec_LegsOk_lo (n : Nat) : LoopsOk (T := T) (Phi n 6) (spec_LegsOk_Ls n) spec_LegsOk_ann n spec_LegsOk_code := loopsOk_all (cs := [spec_LegsOk_2_c, spec_LegsOk_8_c]) (by kernel_rfl) ⟨⟨_, by kernel_rfl, spec_LegsOk_2_le n⟩, ⟨_, by kernel_rfl, spec_LegsOk_8_le n⟩, trivial⟩
theorem spec_LegsOk_ok (n : Nat) : EntOk Try.prog (ents n) (spec_LegsOk_ent n) := by
  intro hs ar y hg h
  replace h : spec_LegsOk_D n ar = some y := h
  unfold spec_LegsOk_D at h
  replace h := ocons_some h
  obtain ⟨a0, r0, rfl, h⟩ := h
  replace h := onil_some h
  obtain ⟨rfl, h⟩ := h
  obtain ⟨legs0, qh0, h⟩ := obind_some h
  rw [argV_eq ok qh0]
  exact call_of (phiE_nat _ _) hs ok mixed Try.func109 (c := spec_LegsOk_code) (by kernel_rfl) (spec_LegsOk_lo n) (by kernel_rfl) (by kernel_rfl) (by kernel_rfl) spec_LegsOk_de ((spec_LegsOk_tie n legs0).trans h)
noncomputable def spec_l18Turn_code : Code := match Try.f213.body with | some c => c | none => .skip
def spec_l18Turn_2_sv : List Sv := [.one (.arr 3), .one (.int .i64), .one (.int .i64)]
def spec_l18Turn_2_so : List So := []
def spec_l18Turn_2_emb (c : List Int × Int) (x : Int) : EVs T spec_l18Turn_2_sv × EOs T spec_l18Turn_2_so := ((c.1, c.2, x, ()), ())
def spec_l18Turn_2_prj (y : EVs T spec_l18Turn_2_sv × EOs T spec_l18Turn_2_so) : (List Int × Int) × Int := ((y.1.1, y.1.2.1), (y.1.2.2.1))
def spec_l18Turn_2_b (n : Nat) {R : Type} (K : Ex → Sm.St T → Option R) (c : List Int × Int) (x : Int) (J : Int → Option R) : Option R :=
  spec_l18Turn_L2 n (K (.exit 0) (stOf (T := T) [0] [] [.one (.arr 3)] [] (c.1, ()) ())) (fun (y0 : Int) => K .ret (stOf (T := T) [4] [] [.one (.int .i64)] [] (y0, ()) ())) J c.1 c.2 x
def spec_l18Turn_2_sp (n : Nat) : LSpec T := mkSpec T ⟨[], [0, 1, 5], []⟩ spec_l18Turn_2_sv spec_l18Turn_2_so (List Int × Int) (Int) spec_l18Turn_2_emb spec_l18Turn_2_prj (spec_l18Turn_2_b n)
noncomputable def spec_l18Turn_2_c : Code := ((loopCodes spec_l18Turn_code)[0]?).getD .skip
def spec_l18Turn_ann : Ann := fun id => bif Nat.beq id 3000002 then some ⟨[], [0], []⟩ else bif Nat.beq id 2000002 then some ⟨[], [4], []⟩ else none
def spec_l18Turn_Ls (n : Nat) : Nat → Option (LSpec T) := fun id => bif Nat.beq id 2 then some (spec_l18Turn_2_sp n) else none
theorem spec_l18Turn_2_le (n : Nat) : LoopEq (T := T) (Phi n 7) (spec_l18Turn_Ls n) spec_l18Turn_ann n spec_l18Turn_2_c (spec_l18Turn_2_sp n) := ⟨mkSpec_dec (fun y => rfl), fun c x => by kernel_rfl, fun K J c x => by kernel_rfl⟩
theorem spec_l18Turn_tie (n : Nat) (order0 : List Int) (box1 : Int) : evF (T := T) (Phi n 7) (spec_l18Turn_Ls n) spec_l18Turn_ann n Try.f213 (sg 213) [vA T 24 order0, vA T 3 box1] spec_l18Turn_dec = spec_l18Turn n order0 box1 := by kernel_rfl
theorem spec_l18Turn_lo (n : Nat) : LoopsOk (T := T) (Phi n 7) (spec_l18Turn_Ls n) spec_l18Turn_ann n spec_l18Turn_code := loopsOk_all (cs := [spec_l18Turn_2_c]) (by kernel_rfl) ⟨⟨_, by kernel_rfl, spec_l18Turn_2_le n⟩, trivial⟩
theorem spec_l18Turn_ok (n : Nat) : EntOk Try.prog (ents n) (spec_l18Turn_ent n) := by
  intro hs ar y hg h
  replace h : spec_l18Turn_D n ar = some y := h
  unfold spec_l18Turn_D at h
  replace h := ocons_some h
  obtain ⟨a0, r0, rfl, h⟩ := h
  replace h := ocons_some h
  obtain ⟨a1, r1, rfl, h⟩ := h
  replace h := onil_some h
  obtain ⟨rfl, h⟩ := h
  obtain ⟨order0, qh0, h⟩ := obind_some h
  obtain ⟨box1, qh1, h⟩ := obind_some h
  rw [argV_eq ok qh0, argV_eq ok qh1]
  exact call_of (phiE_nat _ _) hs ok mixed Try.func213 (c := spec_l18Turn_code) (by kernel_rfl) (spec_l18Turn_lo n) (by kernel_rfl) (by kernel_rfl) (by kernel_rfl) spec_l18Turn_de ((spec_l18Turn_tie n order0 box1).trans h)
noncomputable def spec_l22Way_code : Code := match Try.f110.body with | some c => c | none => .skip
def spec_l22Way_2_sv : List Sv := [.one (.arr 132), .one (.arr 3), .one (.int .i64)]
def spec_l22Way_2_so : List So := []
def spec_l22Way_2_emb (c : List SLeg × List Int) (x : Int) : EVs T spec_l22Way_2_sv × EOs T spec_l22Way_2_so := ((c.1, c.2, x, ()), ())
def spec_l22Way_2_prj (y : EVs T spec_l22Way_2_sv × EOs T spec_l22Way_2_so) : (List SLeg × List Int) × Int := ((y.1.1, y.1.2.1), (y.1.2.2.1))
def spec_l22Way_2_b (n : Nat) {R : Type} (K : Ex → Sm.St T → Option R) (c : List SLeg × List Int) (x : Int) (J : Int → Option R) : Option R :=
  spec_l22Way_L2 n (K (.exit 0) (stOf (T := T) [1] [] [.one (.arr 3)] [] (c.2, ()) ())) (fun (y0 : Bool) => K .ret (stOf (T := T) [4] [] [.one (.bool)] [] (y0, ()) ())) J c.1 c.2 x
def spec_l22Way_2_sp (n : Nat) : LSpec T := mkSpec T ⟨[], [0, 1, 5], []⟩ spec_l22Way_2_sv spec_l22Way_2_so (List SLeg × List Int) (Int) spec_l22Way_2_emb spec_l22Way_2_prj (spec_l22Way_2_b n)
noncomputable def spec_l22Way_2_c : Code := ((loopCodes spec_l22Way_code)[0]?).getD .skip
def spec_l22Way_ann : Ann := fun id => bif Nat.beq id 3000002 then some ⟨[], [1], []⟩ else bif Nat.beq id 2000002 then some ⟨[], [4], []⟩ else none
def spec_l22Way_Ls (n : Nat) : Nat → Option (LSpec T) := fun id => bif Nat.beq id 2 then some (spec_l22Way_2_sp n) else none
theorem spec_l22Way_2_le (n : Nat) : LoopEq (T := T) (Phi n 8) (spec_l22Way_Ls n) spec_l22Way_ann n spec_l22Way_2_c (spec_l22Way_2_sp n) := ⟨mkSpec_dec (fun y => rfl), fun c x => by kernel_rfl, fun K J c x => by kernel_rfl⟩
theorem spec_l22Way_tie (n : Nat) (legs0 : List SLeg) (way1 : List Int) : evF (T := T) (Phi n 8) (spec_l22Way_Ls n) spec_l22Way_ann n Try.f110 (sg 110) [vA T 36 legs0, vA T 24 way1] spec_l22Way_dec = spec_l22Way n legs0 way1 := by kernel_rfl
theorem spec_l22Way_lo (n : Nat) : LoopsOk (T := T) (Phi n 8) (spec_l22Way_Ls n) spec_l22Way_ann n spec_l22Way_code := loopsOk_all (cs := [spec_l22Way_2_c]) (by kernel_rfl) ⟨⟨_, by kernel_rfl, spec_l22Way_2_le n⟩, trivial⟩
theorem spec_l22Way_ok (n : Nat) : EntOk Try.prog (ents n) (spec_l22Way_ent n) := by
  intro hs ar y hg h
  replace h : spec_l22Way_D n ar = some y := h
  unfold spec_l22Way_D at h
  replace h := ocons_some h
  obtain ⟨a0, r0, rfl, h⟩ := h
  replace h := ocons_some h
  obtain ⟨a1, r1, rfl, h⟩ := h
  replace h := onil_some h
  obtain ⟨rfl, h⟩ := h
  obtain ⟨legs0, qh0, h⟩ := obind_some h
  obtain ⟨way1, qh1, h⟩ := obind_some h
  rw [argV_eq ok qh0, argV_eq ok qh1]
  exact call_of (phiE_nat _ _) hs ok mixed Try.func110 (c := spec_l22Way_code) (by kernel_rfl) (spec_l22Way_lo n) (by kernel_rfl) (by kernel_rfl) (by kernel_rfl) spec_l22Way_de ((spec_l22Way_tie n legs0 way1).trans h)
noncomputable def spec_Load22_code : Code := match Try.f25.body with | some c => c | none => .skip
def spec_Load22_7_sv : List Sv := [.one (.arr 132), .one (.arr 3), .one (.int .i64), .one (.own 3000000 132 false), .one (.int .i64)]
def spec_Load22_7_so : List So := [.arr 132 false]
def spec_Load22_7_emb (c : List SLeg × List Int × Int) (x : Int × List SLeg) : EVs T spec_Load22_7_sv × EOs T spec_Load22_7_so := ((c.1, c.2.1, c.2.2, (), x.1, ()), (x.2, ()))
def spec_Load22_7_prj (y : EVs T spec_Load22_7_sv × EOs T spec_Load22_7_so) : (List SLeg × List Int × Int) × (Int × List SLeg) := ((y.1.1, y.1.2.1, y.1.2.2.1), (y.1.2.2.2.2.1, y.2.1))
def spec_Load22_7_b (n : Nat) {R : Type} (K : Ex → Sm.St T → Option R) (c : List SLeg × List Int × Int) (x : Int × List SLeg) (J : (Int × List SLeg) → Option R) : Option R :=
  spec_Load22_L7 n (fun (y0 : List SLeg) => K (.exit 0) (stOf (T := T) [8] [3000000] [.one (.own 3000000 132 false)] [.arr 132 false] ((), ()) (y0, ()))) (fun (y0 : Int) => K .ret (stOf (T := T) [6, 7] [3000001] [.one (.own 3000001 132 false), .one (.int .i64)] [.arr 132 false] ((), y0, ()) (c.1, ()))) (fun z0 z1 => J (z0, z1)) c.1 c.2.1 c.2.2 x.1 x.2
def spec_Load22_7_sp (n : Nat) : LSpec T := mkSpec T ⟨[((.reg 8), 3000000, 132)], [0, 1, 2, 8, 9], [3000000]⟩ spec_Load22_7_sv spec_Load22_7_so (List SLeg × List Int × Int) (Int × List SLeg) spec_Load22_7_emb spec_Load22_7_prj (spec_Load22_7_b n)
noncomputable def spec_Load22_7_c : Code := ((loopCodes spec_Load22_code)[0]?).getD .skip
def spec_Load22_ann : Ann := fun id => bif Nat.beq id 3000007 then some ⟨[((.reg 8), 3000000, 132)], [8], [3000000]⟩ else bif Nat.beq id 2000007 then some ⟨[((.reg 6), 3000001, 132)], [6, 7], [3000001]⟩ else none
def spec_Load22_Ls (n : Nat) : Nat → Option (LSpec T) := fun id => bif Nat.beq id 7 then some (spec_Load22_7_sp n) else none
theorem spec_Load22_7_le (n : Nat) : LoopEq (T := T) (Phi n 9) (spec_Load22_Ls n) spec_Load22_ann n spec_Load22_7_c (spec_Load22_7_sp n) := ⟨mkSpec_dec (fun y => rfl), fun c x => by kernel_rfl, fun K J c x => by kernel_rfl⟩
theorem spec_Load22_tie (n : Nat) (legs0 : List SLeg) (way1 : List Int) (many2 : Int) : evF (T := T) (Phi n 9) (spec_Load22_Ls n) spec_Load22_ann n Try.f25 (sg 25) [vA T 36 legs0, vA T 24 way1, vA T 3 many2] spec_Load22_dec = spec_Load22 n legs0 way1 many2 := by kernel_rfl
theorem spec_Load22_lo (n : Nat) : LoopsOk (T := T) (Phi n 9) (spec_Load22_Ls n) spec_Load22_ann n spec_Load22_code := loopsOk_all (cs := [spec_Load22_7_c]) (by kernel_rfl) ⟨⟨_, by kernel_rfl, spec_Load22_7_le n⟩, trivial⟩
theorem spec_Load22_ok (n : Nat) : EntOk Try.prog (ents n) (spec_Load22_ent n) := by
  intro hs ar y hg h
  replace h : spec_Load22_D n ar = some y := h
  unfold spec_Load22_D at h
  replace h := ocons_some h
  obtain ⟨a0, r0, rfl, h⟩ := h
  replace h := ocons_some h
  obtain ⟨a1, r1, rfl, h⟩ := h
  replace h := ocons_some h
  obtain ⟨a2, r2, rfl, h⟩ := h
  replace h := onil_some h
  obtain ⟨rfl, h⟩ := h
  obtain ⟨legs0, qh0, h⟩ := obind_some h
  obtain ⟨way1, qh1, h⟩ := obind_some h
  obtain ⟨many2, qh2, h⟩ := obind_some h
  rw [argV_eq ok qh0, argV_eq ok qh1, argV_eq ok qh2]
  exact call_of (phiE_nat _ _) hs ok mixed Try.func25 (c := spec_Load22_code) (by kernel_rfl) (spec_Load22_lo n) (by kernel_rfl) (by kernel_rfl) (by kernel_rfl) spec_Load22_de ((spec_Load22_tie n legs0 way1 many2).trans h)
noncomputable def impl_own_impl_Leg_code : Code := match Try.f112.body with | some c => c | none => .skip
def impl_own_impl_Leg_ann : Ann := fun id => none
def impl_own_impl_Leg_Ls (n : Nat) : Nat → Option (LSpec T) := fun id => none
theorem impl_own_impl_Leg_tie (n : Nat) (l0 : List SLeg) : evF (T := T) (Phi n 10) (impl_own_impl_Leg_Ls n) impl_own_impl_Leg_ann n Try.f112 (sg 112) [vA T 36 l0] impl_own_impl_Leg_dec = impl_own_impl_Leg n l0 := by kernel_rfl
theorem impl_own_impl_Leg_lo (n : Nat) : LoopsOk (T := T) (Phi n 10) (impl_own_impl_Leg_Ls n) impl_own_impl_Leg_ann n impl_own_impl_Leg_code := loopsOk_all (cs := []) (by kernel_rfl) trivial
theorem impl_own_impl_Leg_ok (n : Nat) : EntOk Try.prog (ents n) (impl_own_impl_Leg_ent n) := by
  intro hs ar y hg h
  replace h : impl_own_impl_Leg_D n ar = some y := h
  unfold impl_own_impl_Leg_D at h
  replace h := ocons_some h
  obtain ⟨a0, r0, rfl, h⟩ := h
  replace h := onil_some h
  obtain ⟨rfl, h⟩ := h
  obtain ⟨l0, qh0, h⟩ := obind_some h
  rw [argV_eq ok qh0]
  exact call_of (phiE_nat _ _) hs ok mixed Try.func112 (c := impl_own_impl_Leg_code) (by kernel_rfl) (impl_own_impl_Leg_lo n) (by kernel_rfl) (by kernel_rfl) (by kernel_rfl) impl_own_impl_Leg_de ((impl_own_impl_Leg_tie n l0).trans h)
noncomputable def impl_in_code : Code := match Try.f113.body with | some c => c | none => .skip
def impl_in_ann : Ann := fun id => none
def impl_in_Ls (n : Nat) : Nat → Option (LSpec T) := fun id => none
theorem impl_in_tie (n : Nat) (n0 : Int) (least1 : Int) (most2 : Int) : evF (T := T) (Phi n 11) (impl_in_Ls n) impl_in_ann n Try.f113 (sg 113) [vA T 3 n0, vA T 3 least1, vA T 3 most2] impl_in_dec = impl_in n n0 least1 most2 := by kernel_rfl
theorem impl_in_lo (n : Nat) : LoopsOk (T := T) (Phi n 11) (impl_in_Ls n) impl_in_ann n impl_in_code := loopsOk_all (cs := []) (by kernel_rfl) trivial
theorem impl_in_ok (n : Nat) : EntOk Try.prog (ents n) (impl_in_ent n) := by
  intro hs ar y hg h
  replace h : impl_in_D n ar = some y := h
  unfold impl_in_D at h
  replace h := ocons_some h
  obtain ⟨a0, r0, rfl, h⟩ := h
  replace h := ocons_some h
  obtain ⟨a1, r1, rfl, h⟩ := h
  replace h := ocons_some h
  obtain ⟨a2, r2, rfl, h⟩ := h
  replace h := onil_some h
  obtain ⟨rfl, h⟩ := h
  obtain ⟨n0, qh0, h⟩ := obind_some h
  obtain ⟨least1, qh1, h⟩ := obind_some h
  obtain ⟨most2, qh2, h⟩ := obind_some h
  rw [argV_eq ok qh0, argV_eq ok qh1, argV_eq ok qh2]
  exact call_of (phiE_nat _ _) hs ok mixed Try.func113 (c := impl_in_code) (by kernel_rfl) (impl_in_lo n) (by kernel_rfl) (by kernel_rfl) (by kernel_rfl) impl_in_de ((impl_in_tie n n0 least1 most2).trans h)
noncomputable def impl_linePort_code : Code := match Try.f188.body with | some c => c | none => .skip
def impl_linePort_ann : Ann := fun id => none
def impl_linePort_Ls (n : Nat) : Nat → Option (LSpec T) := fun id => none
theorem impl_linePort_tie (n : Nat) (n0 : Int) : evF (T := T) (Phi n 12) (impl_linePort_Ls n) impl_linePort_ann n Try.f188 (sg 188) [vA T 3 n0] impl_linePort_dec = impl_linePort n n0 := by kernel_rfl
theorem impl_linePort_lo (n : Nat) : LoopsOk (T := T) (Phi n 12) (impl_linePort_Ls n) impl_linePort_ann n impl_linePort_code := loopsOk_all (cs := []) (by kernel_rfl) trivial
theorem impl_linePort_ok (n : Nat) : EntOk Try.prog (ents n) (impl_linePort_ent n) := by
  intro hs ar y hg h
  replace h : impl_linePort_D n ar = some y := h
  unfold impl_linePort_D at h
  replace h := ocons_some h
  obtain ⟨a0, r0, rfl, h⟩ := h
  replace h := onil_some h
  obtain ⟨rfl, h⟩ := h
  obtain ⟨n0, qh0, h⟩ := obind_some h
  rw [argV_eq ok qh0]
  exact call_of (phiE_nat _ _) hs ok mixed Try.func188 (c := impl_linePort_code) (by kernel_rfl) (impl_linePort_lo n) (by kernel_rfl) (by kernel_rfl) (by kernel_rfl) impl_linePort_de ((impl_linePort_tie n n0).trans h)
noncomputable def impl_minuteOk_code : Code := match Try.f189.body with | some c => c | none => .skip
def impl_minuteOk_ann : Ann := fun id => none
def impl_minuteOk_Ls (n : Nat) : Nat → Option (LSpec T) := fun id => none
theorem impl_minuteOk_tie (n : Nat) (n0 : Int) : evF (T := T) (Phi n 13) (impl_minuteOk_Ls n) impl_minuteOk_ann n Try.f189 (sg 189) [vA T 3 n0] impl_minuteOk_dec = impl_minuteOk n n0 := by kernel_rfl
theorem impl_minuteOk_lo (n : Nat) : LoopsOk (T := T) (Phi n 13) (impl_minuteOk_Ls n) impl_minuteOk_ann n impl_minuteOk_code := loopsOk_all (cs := []) (by kernel_rfl) trivial
theorem impl_minuteOk_ok (n : Nat) : EntOk Try.prog (ents n) (impl_minuteOk_ent n) := by
  intro hs ar y hg h
  replace h : impl_minuteOk_D n ar = some y := h
  unfold impl_minuteOk_D at h
  replace h := ocons_some h
  obtain ⟨a0, r0, rfl, h⟩ := h
  replace h := onil_some h
  obtain ⟨rfl, h⟩ := h
  obtain ⟨n0, qh0, h⟩ := obind_some h
  rw [argV_eq ok qh0]
  exact call_of (phiE_nat _ _) hs ok mixed Try.func189 (c := impl_minuteOk_code) (by kernel_rfl) (impl_minuteOk_lo n) (by kernel_rfl) (by kernel_rfl) (by kernel_rfl) impl_minuteOk_de ((impl_minuteOk_tie n n0).trans h)
noncomputable def impl_LegsOk_code : Code := match Try.f90.body with | some c => c | none => .skip
def impl_LegsOk_5_sv : List Sv := [.one (.map 88), .one (.arr 132), .one (.int .i64), .one (.int .i64)]
def impl_LegsOk_5_so : List So := [.map 3 132]
def impl_LegsOk_5_emb (c : List SLeg × Int) (x : Int × (List (Int × SLeg))) : EVs T impl_LegsOk_5_sv × EOs T impl_LegsOk_5_so := (((), c.1, c.2, x.1, ()), (x.2, ()))
def impl_LegsOk_5_prj (y : EVs T impl_LegsOk_5_sv × EOs T impl_LegsOk_5_so) : (List SLeg × Int) × (Int × (List (Int × SLeg))) := ((y.1.2.1, y.1.2.2.1), (y.1.2.2.2.1, y.2.1))
def impl_LegsOk_5_b (n : Nat) {R : Type} (K : Ex → Sm.St T → Option R) (c : List SLeg × Int) (x : Int × (List (Int × SLeg))) (J : (Int × (List (Int × SLeg))) → Option R) : Option R :=
  impl_LegsOk_L5 n (K (.exit 0) (stOf (T := T) [] [] [] [] () ())) (fun (y0 : Bool) => K .ret (stOf (T := T) [2] [] [.one (.bool)] [] (y0, ()) ())) (fun z0 z1 => J (z0, z1)) c.1 c.2 x.1 x.2
def impl_LegsOk_5_sp (n : Nat) : LSpec T := mkSpec T ⟨[], [3, 12, 13, 14], [88]⟩ impl_LegsOk_5_sv impl_LegsOk_5_so (List SLeg × Int) (Int × (List (Int × SLeg))) impl_LegsOk_5_emb impl_LegsOk_5_prj (impl_LegsOk_5_b n)
noncomputable def impl_LegsOk_5_c : Code := ((loopCodes impl_LegsOk_code)[0]?).getD .skip
def impl_LegsOk_ann : Ann := fun id => bif Nat.beq id 3000005 then some ⟨[], [], []⟩ else bif Nat.beq id 2000005 then some ⟨[], [2], []⟩ else none
def impl_LegsOk_Ls (n : Nat) : Nat → Option (LSpec T) := fun id => bif Nat.beq id 5 then some (impl_LegsOk_5_sp n) else none
theorem impl_LegsOk_5_le (n : Nat) : LoopEq (T := T) (Phi n 14) (impl_LegsOk_Ls n) impl_LegsOk_ann n impl_LegsOk_5_c (impl_LegsOk_5_sp n) := ⟨mkSpec_dec (fun y => rfl), fun c x => by kernel_rfl, fun K J c x => by kernel_rfl⟩
theorem impl_LegsOk_tie (n : Nat) (legs0 : List SLeg) : evF (T := T) (Phi n 14) (impl_LegsOk_Ls n) impl_LegsOk_ann n Try.f90 (sg 90) [vA T 36 legs0] impl_LegsOk_dec = impl_LegsOk n legs0 := by kernel_rfl
theorem impl_LegsOk_lo (n : Nat) : LoopsOk (T := T) (Phi n 14) (impl_LegsOk_Ls n) impl_LegsOk_ann n impl_LegsOk_code := loopsOk_all (cs := [impl_LegsOk_5_c]) (by kernel_rfl) ⟨⟨_, by kernel_rfl, impl_LegsOk_5_le n⟩, trivial⟩
theorem impl_LegsOk_ok (n : Nat) : EntOk Try.prog (ents n) (impl_LegsOk_ent n) := by
  intro hs ar y hg h
  replace h : impl_LegsOk_D n ar = some y := h
  unfold impl_LegsOk_D at h
  replace h := ocons_some h
  obtain ⟨a0, r0, rfl, h⟩ := h
  replace h := onil_some h
  obtain ⟨rfl, h⟩ := h
  obtain ⟨legs0, qh0, h⟩ := obind_some h
  rw [argV_eq ok qh0]
  exact call_of (phiE_nat _ _) hs ok mixed Try.func90 (c := impl_LegsOk_code) (by kernel_rfl) (impl_LegsOk_lo n) (by kernel_rfl) (by kernel_rfl) (by kernel_rfl) impl_LegsOk_de ((impl_LegsOk_tie n legs0).trans h)
noncomputable def slices_Index_int_int_code : Code := match Try.f214.body with | some c => c | none => .skip
def slices_Index_int_int_2_sv : List Sv := [.one (.arr 3), .one (.int .i64), .one (.int .i64), .one (.int .i64)]
def slices_Index_int_int_2_so : List So := []
def slices_Index_int_int_2_emb (c : List Int × Int × Int) (x : Int) : EVs T slices_Index_int_int_2_sv × EOs T slices_Index_int_int_2_so := ((c.1, c.2.1, c.2.2, x, ()), ())
def slices_Index_int_int_2_prj (y : EVs T slices_Index_int_int_2_sv × EOs T slices_Index_int_int_2_so) : (List Int × Int × Int) × Int := ((y.1.1, y.1.2.1, y.1.2.2.1), (y.1.2.2.2.1))
def slices_Index_int_int_2_b (n : Nat) {R : Type} (K : Ex → Sm.St T → Option R) (c : List Int × Int × Int) (x : Int) (J : Int → Option R) : Option R :=
  slices_Index_int_int_L2 n (K (.exit 0) (stOf (T := T) [] [] [] [] () ())) (fun (y0 : Int) => K .ret (stOf (T := T) [4] [] [.one (.int .i64)] [] (y0, ()) ())) J c.1 c.2.1 c.2.2 x
def slices_Index_int_int_2_sp (n : Nat) : LSpec T := mkSpec T ⟨[], [0, 1, 7, 8], []⟩ slices_Index_int_int_2_sv slices_Index_int_int_2_so (List Int × Int × Int) (Int) slices_Index_int_int_2_emb slices_Index_int_int_2_prj (slices_Index_int_int_2_b n)
noncomputable def slices_Index_int_int_2_c : Code := ((loopCodes slices_Index_int_int_code)[0]?).getD .skip
def slices_Index_int_int_ann : Ann := fun id => bif Nat.beq id 3000002 then some ⟨[], [], []⟩ else bif Nat.beq id 2000002 then some ⟨[], [4], []⟩ else none
def slices_Index_int_int_Ls (n : Nat) : Nat → Option (LSpec T) := fun id => bif Nat.beq id 2 then some (slices_Index_int_int_2_sp n) else none
theorem slices_Index_int_int_2_le (n : Nat) : LoopEq (T := T) (Phi n 15) (slices_Index_int_int_Ls n) slices_Index_int_int_ann n slices_Index_int_int_2_c (slices_Index_int_int_2_sp n) := ⟨mkSpec_dec (fun y => rfl), fun c x => by kernel_rfl, fun K J c x => by kernel_rfl⟩
theorem slices_Index_int_int_tie (n : Nat) (s0 : List Int) (v1 : Int) : evF (T := T) (Phi n 15) (slices_Index_int_int_Ls n) slices_Index_int_int_ann n Try.f214 (sg 214) [vA T 24 s0, vA T 3 v1] slices_Index_int_int_dec = slices_Index_int_int n s0 v1 := by kernel_rfl
theorem slices_Index_int_int_lo (n : Nat) : LoopsOk (T := T) (Phi n 15) (slices_Index_int_int_Ls n) slices_Index_int_int_ann n slices_Index_int_int_code := loopsOk_all (cs := [slices_Index_int_int_2_c]) (by kernel_rfl) ⟨⟨_, by kernel_rfl, slices_Index_int_int_2_le n⟩, trivial⟩
theorem slices_Index_int_int_ok (n : Nat) : EntOk Try.prog (ents n) (slices_Index_int_int_ent n) := by
  intro hs ar y hg h
  replace h : slices_Index_int_int_D n ar = some y := h
  unfold slices_Index_int_int_D at h
  replace h := ocons_some h
  obtain ⟨a0, r0, rfl, h⟩ := h
  replace h := ocons_some h
  obtain ⟨a1, r1, rfl, h⟩ := h
  replace h := onil_some h
  obtain ⟨rfl, h⟩ := h
  obtain ⟨s0, qh0, h⟩ := obind_some h
  obtain ⟨v1, qh1, h⟩ := obind_some h
  rw [argV_eq ok qh0, argV_eq ok qh1]
  exact call_of (phiE_nat _ _) hs ok mixed Try.func214 (c := slices_Index_int_int_code) (by kernel_rfl) (slices_Index_int_int_lo n) (by kernel_rfl) (by kernel_rfl) (by kernel_rfl) slices_Index_int_int_de ((slices_Index_int_int_tie n s0 v1).trans h)
noncomputable def slices_Contains_int_int_code : Code := match Try.f114.body with | some c => c | none => .skip
def slices_Contains_int_int_ann : Ann := fun id => none
def slices_Contains_int_int_Ls (n : Nat) : Nat → Option (LSpec T) := fun id => none
theorem slices_Contains_int_int_tie (n : Nat) (s0 : List Int) (v1 : Int) : evF (T := T) (Phi n 16) (slices_Contains_int_int_Ls n) slices_Contains_int_int_ann n Try.f114 (sg 114) [vA T 24 s0, vA T 3 v1] slices_Contains_int_int_dec = slices_Contains_int_int n s0 v1 := by kernel_rfl
theorem slices_Contains_int_int_lo (n : Nat) : LoopsOk (T := T) (Phi n 16) (slices_Contains_int_int_Ls n) slices_Contains_int_int_ann n slices_Contains_int_int_code := loopsOk_all (cs := []) (by kernel_rfl) trivial
theorem slices_Contains_int_int_ok (n : Nat) : EntOk Try.prog (ents n) (slices_Contains_int_int_ent n) := by
  intro hs ar y hg h
  replace h : slices_Contains_int_int_D n ar = some y := h
  unfold slices_Contains_int_int_D at h
  replace h := ocons_some h
  obtain ⟨a0, r0, rfl, h⟩ := h
  replace h := ocons_some h
  obtain ⟨a1, r1, rfl, h⟩ := h
  replace h := onil_some h
  obtain ⟨rfl, h⟩ := h
  obtain ⟨s0, qh0, h⟩ := obind_some h
  obtain ⟨v1, qh1, h⟩ := obind_some h
  rw [argV_eq ok qh0, argV_eq ok qh1]
  exact call_of (phiE_nat _ _) hs ok mixed Try.func114 (c := slices_Contains_int_int_code) (by kernel_rfl) (slices_Contains_int_int_lo n) (by kernel_rfl) (by kernel_rfl) (by kernel_rfl) slices_Contains_int_int_de ((slices_Contains_int_int_tie n s0 v1).trans h)
noncomputable def impl_changes_code : Code := match Try.f115.body with | some c => c | none => .skip
def impl_changes_ann : Ann := fun id => none
def impl_changes_Ls (n : Nat) : Nat → Option (LSpec T) := fun id => none
theorem impl_changes_tie (n : Nat) (i0 : SLeg) (j1 : SLeg) (change2 : Int) : evF (T := T) (Phi n 17) (impl_changes_Ls n) impl_changes_ann n Try.f115 (sg 115) [vA T 132 i0, vA T 132 j1, vA T 3 change2] impl_changes_dec = impl_changes n i0 j1 change2 := by kernel_rfl
theorem impl_changes_lo (n : Nat) : LoopsOk (T := T) (Phi n 17) (impl_changes_Ls n) impl_changes_ann n impl_changes_code := loopsOk_all (cs := []) (by kernel_rfl) trivial
theorem impl_changes_ok (n : Nat) : EntOk Try.prog (ents n) (impl_changes_ent n) := by
  intro hs ar y hg h
  replace h : impl_changes_D n ar = some y := h
  unfold impl_changes_D at h
  replace h := ocons_some h
  obtain ⟨a0, r0, rfl, h⟩ := h
  replace h := ocons_some h
  obtain ⟨a1, r1, rfl, h⟩ := h
  replace h := ocons_some h
  obtain ⟨a2, r2, rfl, h⟩ := h
  replace h := onil_some h
  obtain ⟨rfl, h⟩ := h
  obtain ⟨i0, qh0, h⟩ := obind_some h
  obtain ⟨j1, qh1, h⟩ := obind_some h
  obtain ⟨change2, qh2, h⟩ := obind_some h
  rw [argV_eq ok qh0, argV_eq ok qh1, argV_eq ok qh2]
  exact call_of (phiE_nat _ _) hs ok mixed Try.func115 (c := impl_changes_code) (by kernel_rfl) (impl_changes_lo n) (by kernel_rfl) (by kernel_rfl) (by kernel_rfl) impl_changes_de ((impl_changes_tie n i0 j1 change2).trans h)
noncomputable def impl_Load22_code : Code := match Try.f28.body with | some c => c | none => .skip
def impl_Load22_7_sv : List Sv := [.one (.arr 132), .one (.arr 3), .one (.int .i64), .one (.own 3000000 132 false), .one (.arr 3), .one (.int .i64), .one (.int .i64)]
def impl_Load22_7_so : List So := [.arr 132 false]
def impl_Load22_7_emb (c : List SLeg × List Int × Int × List Int × Int × List SLeg) (x : Int) : EVs T impl_Load22_7_sv × EOs T impl_Load22_7_so := ((c.1, c.2.1, c.2.2.1, (), c.2.2.2.1, c.2.2.2.2.1, x, ()), (c.2.2.2.2.2, ()))
def impl_Load22_7_prj (y : EVs T impl_Load22_7_sv × EOs T impl_Load22_7_so) : (List SLeg × List Int × Int × List Int × Int × List SLeg) × Int := ((y.1.1, y.1.2.1, y.1.2.2.1, y.1.2.2.2.2.1, y.1.2.2.2.2.2.1, y.2.1), (y.1.2.2.2.2.2.2.1))
def impl_Load22_7_b (n : Nat) {R : Type} (K : Ex → Sm.St T → Option R) (c : List SLeg × List Int × Int × List Int × Int × List SLeg) (x : Int) (J : Int → Option R) : Option R :=
  impl_Load22_L7 n (K (.exit 0) (stOf (T := T) [0, 1, 2, 8] [3000000] [.one (.arr 132), .one (.arr 3), .one (.int .i64), .one (.own 3000000 132 false)] [.arr 132 false] (c.1, c.2.1, c.2.2.1, (), ()) (c.2.2.2.2.2, ()))) (fun (y0 : Int) => K .ret (stOf (T := T) [6, 7] [3000001] [.one (.own 3000001 132 false), .one (.int .i64)] [.arr 132 false] ((), y0, ()) (c.2.2.2.2.2, ()))) J c.1 c.2.1 c.2.2.1 c.2.2.2.1 c.2.2.2.2.1 x c.2.2.2.2.2
def impl_Load22_7_sp (n : Nat) : LSpec T := mkSpec T ⟨[((.reg 8), 3000000, 132)], [0, 1, 2, 8, 29, 30, 31], [3000000]⟩ impl_Load22_7_sv impl_Load22_7_so (List SLeg × List Int × Int × List Int × Int × List SLeg) (Int) impl_Load22_7_emb impl_Load22_7_prj (impl_Load22_7_b n)
noncomputable def impl_Load22_7_c : Code := ((loopCodes impl_Load22_code)[0]?).getD .skip
def impl_Load22_15_sv : List Sv := [.one (.arr 132), .one (.int .i64), .one (.own 3000000 132 false), .one (.arr 3), .one (.int .i64), .one (.int .i64)]
def impl_Load22_15_so : List So := [.arr 132 false]
def impl_Load22_15_emb (c : List SLeg × Int × List Int × Int) (x : Int × List SLeg) : EVs T impl_Load22_15_sv × EOs T impl_Load22_15_so := ((c.1, c.2.1, (), c.2.2.1, c.2.2.2, x.1, ()), (x.2, ()))
def impl_Load22_15_prj (y : EVs T impl_Load22_15_sv × EOs T impl_Load22_15_so) : (List SLeg × Int × List Int × Int) × (Int × List SLeg) := ((y.1.1, y.1.2.1, y.1.2.2.2.1, y.1.2.2.2.2.1), (y.1.2.2.2.2.2.1, y.2.1))
def impl_Load22_15_b (n : Nat) {R : Type} (K : Ex → Sm.St T → Option R) (c : List SLeg × Int × List Int × Int) (x : Int × List SLeg) (J : (Int × List SLeg) → Option R) : Option R :=
  impl_Load22_L15 n (fun (y0 : List SLeg) => K (.exit 2) (stOf (T := T) [8] [3000000] [.one (.own 3000000 132 false)] [.arr 132 false] ((), ()) (y0, ()))) (fun (y0 : Int) (y1 : List SLeg) => K .ret (stOf (T := T) [6, 7] [3000001] [.one (.own 3000001 132 false), .one (.int .i64)] [.arr 132 false] ((), y0, ()) (y1, ()))) (fun z0 z1 => J (z0, z1)) c.1 c.2.1 c.2.2.1 c.2.2.2 x.1 x.2
def impl_Load22_15_sp (n : Nat) : LSpec T := mkSpec T ⟨[((.reg 8), 3000000, 132)], [0, 2, 8, 70, 71, 72], [3000000]⟩ impl_Load22_15_sv impl_Load22_15_so (List SLeg × Int × List Int × Int) (Int × List SLeg) impl_Load22_15_emb impl_Load22_15_prj (impl_Load22_15_b n)
noncomputable def impl_Load22_15_c : Code := ((loopCodes impl_Load22_code)[1]?).getD .skip
def impl_Load22_ann : Ann := fun id => bif Nat.beq id 3000007 then some ⟨[((.reg 8), 3000000, 132)], [0, 1, 2, 8], [3000000]⟩ else bif Nat.beq id 2000007 then some ⟨[((.reg 6), 3000001, 132)], [6, 7], [3000001]⟩ else bif Nat.beq id 5000015 then some ⟨[((.reg 8), 3000000, 132)], [8], [3000000]⟩ else bif Nat.beq id 2000015 then some ⟨[((.reg 6), 3000001, 132)], [6, 7], [3000001]⟩ else none
def impl_Load22_Ls (n : Nat) : Nat → Option (LSpec T) := fun id => bif Nat.beq id 7 then some (impl_Load22_7_sp n) else bif Nat.beq id 15 then some (impl_Load22_15_sp n) else none
theorem impl_Load22_7_le (n : Nat) : LoopEq (T := T) (Phi n 18) (impl_Load22_Ls n) impl_Load22_ann n impl_Load22_7_c (impl_Load22_7_sp n) := ⟨mkSpec_dec (fun y => rfl), fun c x => by kernel_rfl, fun K J c x => by kernel_rfl⟩
theorem impl_Load22_15_le (n : Nat) : LoopEq (T := T) (Phi n 18) (impl_Load22_Ls n) impl_Load22_ann n impl_Load22_15_c (impl_Load22_15_sp n) := ⟨mkSpec_dec (fun y => rfl), fun c x => by kernel_rfl, fun K J c x => by kernel_rfl⟩
theorem impl_Load22_tie (n : Nat) (legs0 : List SLeg) (way1 : List Int) (many2 : Int) : evF (T := T) (Phi n 18) (impl_Load22_Ls n) impl_Load22_ann n Try.f28 (sg 28) [vA T 36 legs0, vA T 24 way1, vA T 3 many2] impl_Load22_dec = impl_Load22 n legs0 way1 many2 := by kernel_rfl
theorem impl_Load22_lo (n : Nat) : LoopsOk (T := T) (Phi n 18) (impl_Load22_Ls n) impl_Load22_ann n impl_Load22_code := loopsOk_all (cs := [impl_Load22_7_c, impl_Load22_15_c]) (by kernel_rfl) ⟨⟨_, by kernel_rfl, impl_Load22_7_le n⟩, ⟨_, by kernel_rfl, impl_Load22_15_le n⟩, trivial⟩
theorem impl_Load22_ok (n : Nat) : EntOk Try.prog (ents n) (impl_Load22_ent n) := by
  intro hs ar y hg h
  replace h : impl_Load22_D n ar = some y := h
  unfold impl_Load22_D at h
  replace h := ocons_some h
  obtain ⟨a0, r0, rfl, h⟩ := h
  replace h := ocons_some h
  obtain ⟨a1, r1, rfl, h⟩ := h
  replace h := ocons_some h
  obtain ⟨a2, r2, rfl, h⟩ := h
  replace h := onil_some h
  obtain ⟨rfl, h⟩ := h
  obtain ⟨legs0, qh0, h⟩ := obind_some h
  obtain ⟨way1, qh1, h⟩ := obind_some h
  obtain ⟨many2, qh2, h⟩ := obind_some h
  rw [argV_eq ok qh0, argV_eq ok qh1, argV_eq ok qh2]
  exact call_of (phiE_nat _ _) hs ok mixed Try.func28 (c := impl_Load22_code) (by kernel_rfl) (impl_Load22_lo n) (by kernel_rfl) (by kernel_rfl) (by kernel_rfl) impl_Load22_de ((impl_Load22_tie n legs0 way1 many2).trans h)
noncomputable def laws_eqLeg_code : Code := match Try.f116.body with | some c => c | none => .skip
def laws_eqLeg_ann : Ann := fun id => none
def laws_eqLeg_Ls (n : Nat) : Nat → Option (LSpec T) := fun id => none
theorem laws_eqLeg_tie (n : Nat) (a0 : SLeg) (b1 : SLeg) : evF (T := T) (Phi n 19) (laws_eqLeg_Ls n) laws_eqLeg_ann n Try.f116 (sg 116) [vA T 132 a0, vA T 132 b1] laws_eqLeg_dec = laws_eqLeg n a0 b1 := by kernel_rfl
theorem laws_eqLeg_lo (n : Nat) : LoopsOk (T := T) (Phi n 19) (laws_eqLeg_Ls n) laws_eqLeg_ann n laws_eqLeg_code := loopsOk_all (cs := []) (by kernel_rfl) trivial
theorem laws_eqLeg_ok (n : Nat) : EntOk Try.prog (ents n) (laws_eqLeg_ent n) := by
  intro hs ar y hg h
  replace h : laws_eqLeg_D n ar = some y := h
  unfold laws_eqLeg_D at h
  replace h := ocons_some h
  obtain ⟨a0, r0, rfl, h⟩ := h
  replace h := ocons_some h
  obtain ⟨a1, r1, rfl, h⟩ := h
  replace h := onil_some h
  obtain ⟨rfl, h⟩ := h
  obtain ⟨a0, qh0, h⟩ := obind_some h
  obtain ⟨b1, qh1, h⟩ := obind_some h
  rw [argV_eq ok qh0, argV_eq ok qh1]
  exact call_of (phiE_nat _ _) hs ok mixed Try.func116 (c := laws_eqLeg_code) (by kernel_rfl) (laws_eqLeg_lo n) (by kernel_rfl) (by kernel_rfl) (by kernel_rfl) laws_eqLeg_de ((laws_eqLeg_tie n a0 b1).trans h)
noncomputable def laws_eqLegS_code : Code := match Try.f29.body with | some c => c | none => .skip
def laws_eqLegS_4_sv : List Sv := [.one (.arr 132), .one (.arr 132), .one (.int .i64)]
def laws_eqLegS_4_so : List So := []
def laws_eqLegS_4_emb (c : List SLeg × List SLeg) (x : Int) : EVs T laws_eqLegS_4_sv × EOs T laws_eqLegS_4_so := ((c.1, c.2, x, ()), ())
def laws_eqLegS_4_prj (y : EVs T laws_eqLegS_4_sv × EOs T laws_eqLegS_4_so) : (List SLeg × List SLeg) × Int := ((y.1.1, y.1.2.1), (y.1.2.2.1))
def laws_eqLegS_4_b (n : Nat) {R : Type} (K : Ex → Sm.St T → Option R) (c : List SLeg × List SLeg) (x : Int) (J : Int → Option R) : Option R :=
  laws_eqLegS_L4 n (K (.exit 0) (stOf (T := T) [] [] [] [] () ())) (fun (y0 : Bool) => K .ret (stOf (T := T) [4] [] [.one (.bool)] [] (y0, ()) ())) J c.1 c.2 x
def laws_eqLegS_4_sp (n : Nat) : LSpec T := mkSpec T ⟨[], [0, 1, 5], []⟩ laws_eqLegS_4_sv laws_eqLegS_4_so (List SLeg × List SLeg) (Int) laws_eqLegS_4_emb laws_eqLegS_4_prj (laws_eqLegS_4_b n)
noncomputable def laws_eqLegS_4_c : Code := ((loopCodes laws_eqLegS_code)[0]?).getD .skip
def laws_eqLegS_ann : Ann := fun id => bif Nat.beq id 3000004 then some ⟨[], [], []⟩ else bif Nat.beq id 2000004 then some ⟨[], [4], []⟩ else none
def laws_eqLegS_Ls (n : Nat) : Nat → Option (LSpec T) := fun id => bif Nat.beq id 4 then some (laws_eqLegS_4_sp n) else none
theorem laws_eqLegS_4_le (n : Nat) : LoopEq (T := T) (Phi n 20) (laws_eqLegS_Ls n) laws_eqLegS_ann n laws_eqLegS_4_c (laws_eqLegS_4_sp n) := ⟨mkSpec_dec (fun y => rfl), fun c x => by kernel_rfl, fun K J c x => by kernel_rfl⟩
theorem laws_eqLegS_tie (n : Nat) (a0 : List SLeg) (b1 : List SLeg) : evF (T := T) (Phi n 20) (laws_eqLegS_Ls n) laws_eqLegS_ann n Try.f29 (sg 29) [vA T 36 a0, vA T 36 b1] laws_eqLegS_dec = laws_eqLegS n a0 b1 := by kernel_rfl
theorem laws_eqLegS_lo (n : Nat) : LoopsOk (T := T) (Phi n 20) (laws_eqLegS_Ls n) laws_eqLegS_ann n laws_eqLegS_code := loopsOk_all (cs := [laws_eqLegS_4_c]) (by kernel_rfl) ⟨⟨_, by kernel_rfl, laws_eqLegS_4_le n⟩, trivial⟩
theorem laws_eqLegS_ok (n : Nat) : EntOk Try.prog (ents n) (laws_eqLegS_ent n) := by
  intro hs ar y hg h
  replace h : laws_eqLegS_D n ar = some y := h
  unfold laws_eqLegS_D at h
  replace h := ocons_some h
  obtain ⟨a0, r0, rfl, h⟩ := h
  replace h := ocons_some h
  obtain ⟨a1, r1, rfl, h⟩ := h
  replace h := onil_some h
  obtain ⟨rfl, h⟩ := h
  obtain ⟨a0, qh0, h⟩ := obind_some h
  obtain ⟨b1, qh1, h⟩ := obind_some h
  rw [argV_eq ok qh0, argV_eq ok qh1]
  exact call_of (phiE_nat _ _) hs ok mixed Try.func29 (c := laws_eqLegS_code) (by kernel_rfl) (laws_eqLegS_lo n) (by kernel_rfl) (by kernel_rfl) (by kernel_rfl) laws_eqLegS_de ((laws_eqLegS_tie n a0 b1).trans h)
noncomputable def laws_eqIntS_code : Code := match Try.f19.body with | some c => c | none => .skip
def laws_eqIntS_4_sv : List Sv := [.one (.arr 3), .one (.arr 3), .one (.int .i64)]
def laws_eqIntS_4_so : List So := []
def laws_eqIntS_4_emb (c : List Int × List Int) (x : Int) : EVs T laws_eqIntS_4_sv × EOs T laws_eqIntS_4_so := ((c.1, c.2, x, ()), ())
def laws_eqIntS_4_prj (y : EVs T laws_eqIntS_4_sv × EOs T laws_eqIntS_4_so) : (List Int × List Int) × Int := ((y.1.1, y.1.2.1), (y.1.2.2.1))
def laws_eqIntS_4_b (n : Nat) {R : Type} (K : Ex → Sm.St T → Option R) (c : List Int × List Int) (x : Int) (J : Int → Option R) : Option R :=
  laws_eqIntS_L4 n (K (.exit 0) (stOf (T := T) [] [] [] [] () ())) (fun (y0 : Bool) => K .ret (stOf (T := T) [4] [] [.one (.bool)] [] (y0, ()) ())) J c.1 c.2 x
def laws_eqIntS_4_sp (n : Nat) : LSpec T := mkSpec T ⟨[], [0, 1, 5], []⟩ laws_eqIntS_4_sv laws_eqIntS_4_so (List Int × List Int) (Int) laws_eqIntS_4_emb laws_eqIntS_4_prj (laws_eqIntS_4_b n)
noncomputable def laws_eqIntS_4_c : Code := ((loopCodes laws_eqIntS_code)[0]?).getD .skip
def laws_eqIntS_ann : Ann := fun id => bif Nat.beq id 3000004 then some ⟨[], [], []⟩ else bif Nat.beq id 2000004 then some ⟨[], [4], []⟩ else none
def laws_eqIntS_Ls (n : Nat) : Nat → Option (LSpec T) := fun id => bif Nat.beq id 4 then some (laws_eqIntS_4_sp n) else none
theorem laws_eqIntS_4_le (n : Nat) : LoopEq (T := T) (Phi n 21) (laws_eqIntS_Ls n) laws_eqIntS_ann n laws_eqIntS_4_c (laws_eqIntS_4_sp n) := ⟨mkSpec_dec (fun y => rfl), fun c x => by kernel_rfl, fun K J c x => by kernel_rfl⟩
theorem laws_eqIntS_tie (n : Nat) (a0 : List Int) (b1 : List Int) : evF (T := T) (Phi n 21) (laws_eqIntS_Ls n) laws_eqIntS_ann n Try.f19 (sg 19) [vA T 24 a0, vA T 24 b1] laws_eqIntS_dec = laws_eqIntS n a0 b1 := by kernel_rfl
theorem laws_eqIntS_lo (n : Nat) : LoopsOk (T := T) (Phi n 21) (laws_eqIntS_Ls n) laws_eqIntS_ann n laws_eqIntS_code := loopsOk_all (cs := [laws_eqIntS_4_c]) (by kernel_rfl) ⟨⟨_, by kernel_rfl, laws_eqIntS_4_le n⟩, trivial⟩
theorem laws_eqIntS_ok (n : Nat) : EntOk Try.prog (ents n) (laws_eqIntS_ent n) := by
  intro hs ar y hg h
  replace h : laws_eqIntS_D n ar = some y := h
  unfold laws_eqIntS_D at h
  replace h := ocons_some h
  obtain ⟨a0, r0, rfl, h⟩ := h
  replace h := ocons_some h
  obtain ⟨a1, r1, rfl, h⟩ := h
  replace h := onil_some h
  obtain ⟨rfl, h⟩ := h
  obtain ⟨a0, qh0, h⟩ := obind_some h
  obtain ⟨b1, qh1, h⟩ := obind_some h
  rw [argV_eq ok qh0, argV_eq ok qh1]
  exact call_of (phiE_nat _ _) hs ok mixed Try.func19 (c := laws_eqIntS_code) (by kernel_rfl) (laws_eqIntS_lo n) (by kernel_rfl) (by kernel_rfl) (by kernel_rfl) laws_eqIntS_de ((laws_eqIntS_tie n a0 b1).trans h)
noncomputable def laws_markLegS_code : Code := match Try.f30.body with | some c => c | none => .skip
def laws_markLegS_2_sv : List Sv := [.one (.own 4503599627370496 132 false), .one (.int .i64), .one (.int .i64)]
def laws_markLegS_2_so : List So := [.arr 132 true]
def laws_markLegS_2_emb (c : Unit) (x : Int × Int × List SLeg) : EVs T laws_markLegS_2_sv × EOs T laws_markLegS_2_so := (((), x.1, x.2.1, ()), (x.2.2, ()))
def laws_markLegS_2_prj (y : EVs T laws_markLegS_2_sv × EOs T laws_markLegS_2_so) : Unit × (Int × Int × List SLeg) := ((), (y.1.2.1, y.1.2.2.1, y.2.1))
def laws_markLegS_2_b (n : Nat) {R : Type} (K : Ex → Sm.St T → Option R) (c : Unit) (x : Int × Int × List SLeg) (J : (Int × Int × List SLeg) → Option R) : Option R :=
  laws_markLegS_L2 n (fun (y0 : Int) (y1 : List SLeg) => K (.exit 0) (stOf (T := T) [1] [4503599627370496] [.one (.int .i64)] [.arr 132 true] (y0, ()) (y1, ()))) (fun z0 z1 z2 => J (z0, z1, z2)) x.1 x.2.1 x.2.2
def laws_markLegS_2_sp (n : Nat) : LSpec T := mkSpec T ⟨[], [0, 1, 5], [4503599627370496]⟩ laws_markLegS_2_sv laws_markLegS_2_so (Unit) (Int × Int × List SLeg) laws_markLegS_2_emb laws_markLegS_2_prj (laws_markLegS_2_b n)
noncomputable def laws_markLegS_2_c : Code := ((loopCodes laws_markLegS_code)[0]?).getD .skip
def laws_markLegS_ann : Ann := fun id => bif Nat.beq id 3000002 then some ⟨[], [1], [4503599627370496]⟩ else none
def laws_markLegS_Ls (n : Nat) : Nat → Option (LSpec T) := fun id => bif Nat.beq id 2 then some (laws_markLegS_2_sp n) else none
theorem laws_markLegS_2_le (n : Nat) : LoopEq (T := T) (Phi n 22) (laws_markLegS_Ls n) laws_markLegS_ann n laws_markLegS_2_c (laws_markLegS_2_sp n) := ⟨mkSpec_dec (fun y => rfl), fun c x => by kernel_rfl, fun K J c x => by kernel_rfl⟩
theorem laws_markLegS_tie (n : Nat) (a0 : List SLeg) (k1 : Int) : evF (T := T) (Phi n 22) (laws_markLegS_Ls n) laws_markLegS_ann n Try.f30 (sg 30) [vA T 36 a0, vA T 3 k1] laws_markLegS_dec = laws_markLegS n a0 k1 := by kernel_rfl
theorem laws_markLegS_lo (n : Nat) : LoopsOk (T := T) (Phi n 22) (laws_markLegS_Ls n) laws_markLegS_ann n laws_markLegS_code := loopsOk_all (cs := [laws_markLegS_2_c]) (by kernel_rfl) ⟨⟨_, by kernel_rfl, laws_markLegS_2_le n⟩, trivial⟩
theorem laws_markLegS_ok (n : Nat) : EntOk Try.prog (ents n) (laws_markLegS_ent n) := by
  intro hs ar y hg h
  replace h : laws_markLegS_D n ar = some y := h
  unfold laws_markLegS_D at h
  replace h := ocons_some h
  obtain ⟨a0, r0, rfl, h⟩ := h
  replace h := ocons_some h
  obtain ⟨a1, r1, rfl, h⟩ := h
  replace h := onil_some h
  obtain ⟨rfl, h⟩ := h
  obtain ⟨a0, qh0, h⟩ := obind_some h
  obtain ⟨k1, qh1, h⟩ := obind_some h
  rw [argV_eq ok qh0, argV_eq ok qh1]
  exact call_of (phiE_nat _ _) hs ok mixed Try.func30 (c := laws_markLegS_code) (by kernel_rfl) (laws_markLegS_lo n) (by kernel_rfl) (by kernel_rfl) (by kernel_rfl) laws_markLegS_de ((laws_markLegS_tie n a0 k1).trans h)
noncomputable def laws_markIntS_code : Code := match Try.f22.body with | some c => c | none => .skip
def laws_markIntS_2_sv : List Sv := [.one (.own 4503599627370496 3 false), .one (.int .i64), .one (.int .i64)]
def laws_markIntS_2_so : List So := [.arr 3 true]
def laws_markIntS_2_emb (c : Unit) (x : Int × Int × List Int) : EVs T laws_markIntS_2_sv × EOs T laws_markIntS_2_so := (((), x.1, x.2.1, ()), (x.2.2, ()))
def laws_markIntS_2_prj (y : EVs T laws_markIntS_2_sv × EOs T laws_markIntS_2_so) : Unit × (Int × Int × List Int) := ((), (y.1.2.1, y.1.2.2.1, y.2.1))
def laws_markIntS_2_b (n : Nat) {R : Type} (K : Ex → Sm.St T → Option R) (c : Unit) (x : Int × Int × List Int) (J : (Int × Int × List Int) → Option R) : Option R :=
  laws_markIntS_L2 n (fun (y0 : Int) (y1 : List Int) => K (.exit 0) (stOf (T := T) [1] [4503599627370496] [.one (.int .i64)] [.arr 3 true] (y0, ()) (y1, ()))) (fun z0 z1 z2 => J (z0, z1, z2)) x.1 x.2.1 x.2.2
def laws_markIntS_2_sp (n : Nat) : LSpec T := mkSpec T ⟨[], [0, 1, 5], [4503599627370496]⟩ laws_markIntS_2_sv laws_markIntS_2_so (Unit) (Int × Int × List Int) laws_markIntS_2_emb laws_markIntS_2_prj (laws_markIntS_2_b n)
noncomputable def laws_markIntS_2_c : Code := ((loopCodes laws_markIntS_code)[0]?).getD .skip
def laws_markIntS_ann : Ann := fun id => bif Nat.beq id 3000002 then some ⟨[], [1], [4503599627370496]⟩ else none
def laws_markIntS_Ls (n : Nat) : Nat → Option (LSpec T) := fun id => bif Nat.beq id 2 then some (laws_markIntS_2_sp n) else none
theorem laws_markIntS_2_le (n : Nat) : LoopEq (T := T) (Phi n 23) (laws_markIntS_Ls n) laws_markIntS_ann n laws_markIntS_2_c (laws_markIntS_2_sp n) := ⟨mkSpec_dec (fun y => rfl), fun c x => by kernel_rfl, fun K J c x => by kernel_rfl⟩
theorem laws_markIntS_tie (n : Nat) (a0 : List Int) (k1 : Int) : evF (T := T) (Phi n 23) (laws_markIntS_Ls n) laws_markIntS_ann n Try.f22 (sg 22) [vA T 24 a0, vA T 3 k1] laws_markIntS_dec = laws_markIntS n a0 k1 := by kernel_rfl
theorem laws_markIntS_lo (n : Nat) : LoopsOk (T := T) (Phi n 23) (laws_markIntS_Ls n) laws_markIntS_ann n laws_markIntS_code := loopsOk_all (cs := [laws_markIntS_2_c]) (by kernel_rfl) ⟨⟨_, by kernel_rfl, laws_markIntS_2_le n⟩, trivial⟩
theorem laws_markIntS_ok (n : Nat) : EntOk Try.prog (ents n) (laws_markIntS_ent n) := by
  intro hs ar y hg h
  replace h : laws_markIntS_D n ar = some y := h
  unfold laws_markIntS_D at h
  replace h := ocons_some h
  obtain ⟨a0, r0, rfl, h⟩ := h
  replace h := ocons_some h
  obtain ⟨a1, r1, rfl, h⟩ := h
  replace h := onil_some h
  obtain ⟨rfl, h⟩ := h
  obtain ⟨a0, qh0, h⟩ := obind_some h
  obtain ⟨k1, qh1, h⟩ := obind_some h
  rw [argV_eq ok qh0, argV_eq ok qh1]
  exact call_of (phiE_nat _ _) hs ok mixed Try.func22 (c := laws_markIntS_code) (by kernel_rfl) (laws_markIntS_lo n) (by kernel_rfl) (by kernel_rfl) (by kernel_rfl) laws_markIntS_de ((laws_markIntS_tie n a0 k1).trans h)
noncomputable def laws_heldLegS_code : Code := match Try.f31.body with | some c => c | none => .skip
def laws_heldLegS_2_sv : List Sv := [.one (.arr 132), .one (.int .i64), .one (.int .i64)]
def laws_heldLegS_2_so : List So := []
def laws_heldLegS_2_emb (c : List SLeg) (x : Int × Int) : EVs T laws_heldLegS_2_sv × EOs T laws_heldLegS_2_so := ((c, x.1, x.2, ()), ())
def laws_heldLegS_2_prj (y : EVs T laws_heldLegS_2_sv × EOs T laws_heldLegS_2_so) : List SLeg × (Int × Int) := ((y.1.1), (y.1.2.1, y.1.2.2.1))
def laws_heldLegS_2_b (n : Nat) {R : Type} (K : Ex → Sm.St T → Option R) (c : List SLeg) (x : Int × Int) (J : (Int × Int) → Option R) : Option R :=
  laws_heldLegS_L2 n (fun (y0 : Int) => K (.exit 0) (stOf (T := T) [1] [] [.one (.int .i64)] [] (y0, ()) ())) (fun (y0 : Int) => K .ret (stOf (T := T) [4] [] [.one (.int .i64)] [] (y0, ()) ())) (fun z0 z1 => J (z0, z1)) c x.1 x.2
def laws_heldLegS_2_sp (n : Nat) : LSpec T := mkSpec T ⟨[], [0, 1, 5], []⟩ laws_heldLegS_2_sv laws_heldLegS_2_so (List SLeg) (Int × Int) laws_heldLegS_2_emb laws_heldLegS_2_prj (laws_heldLegS_2_b n)
noncomputable def laws_heldLegS_2_c : Code := ((loopCodes laws_heldLegS_code)[0]?).getD .skip
def laws_heldLegS_ann : Ann := fun id => bif Nat.beq id 3000002 then some ⟨[], [1], []⟩ else bif Nat.beq id 2000002 then some ⟨[], [4], []⟩ else none
def laws_heldLegS_Ls (n : Nat) : Nat → Option (LSpec T) := fun id => bif Nat.beq id 2 then some (laws_heldLegS_2_sp n) else none
theorem laws_heldLegS_2_le (n : Nat) : LoopEq (T := T) (Phi n 24) (laws_heldLegS_Ls n) laws_heldLegS_ann n laws_heldLegS_2_c (laws_heldLegS_2_sp n) := ⟨mkSpec_dec (fun y => rfl), fun c x => by kernel_rfl, fun K J c x => by kernel_rfl⟩
theorem laws_heldLegS_tie (n : Nat) (a0 : List SLeg) (k1 : Int) : evF (T := T) (Phi n 24) (laws_heldLegS_Ls n) laws_heldLegS_ann n Try.f31 (sg 31) [vA T 36 a0, vA T 3 k1] laws_heldLegS_dec = laws_heldLegS n a0 k1 := by kernel_rfl
theorem laws_heldLegS_lo (n : Nat) : LoopsOk (T := T) (Phi n 24) (laws_heldLegS_Ls n) laws_heldLegS_ann n laws_heldLegS_code := loopsOk_all (cs := [laws_heldLegS_2_c]) (by kernel_rfl) ⟨⟨_, by kernel_rfl, laws_heldLegS_2_le n⟩, trivial⟩
theorem laws_heldLegS_ok (n : Nat) : EntOk Try.prog (ents n) (laws_heldLegS_ent n) := by
  intro hs ar y hg h
  replace h : laws_heldLegS_D n ar = some y := h
  unfold laws_heldLegS_D at h
  replace h := ocons_some h
  obtain ⟨a0, r0, rfl, h⟩ := h
  replace h := ocons_some h
  obtain ⟨a1, r1, rfl, h⟩ := h
  replace h := onil_some h
  obtain ⟨rfl, h⟩ := h
  obtain ⟨a0, qh0, h⟩ := obind_some h
  obtain ⟨k1, qh1, h⟩ := obind_some h
  rw [argV_eq ok qh0, argV_eq ok qh1]
  exact call_of (phiE_nat _ _) hs ok mixed Try.func31 (c := laws_heldLegS_code) (by kernel_rfl) (laws_heldLegS_lo n) (by kernel_rfl) (by kernel_rfl) (by kernel_rfl) laws_heldLegS_de ((laws_heldLegS_tie n a0 k1).trans h)
noncomputable def laws_FnExactLoad22_code : Code := match Try.f4.body with | some c => c | none => .skip
def laws_FnExactLoad22_ann : Ann := fun id => none
def laws_FnExactLoad22_Ls (n : Nat) : Nat → Option (LSpec T) := fun id => none
theorem laws_FnExactLoad22_tie (n : Nat) (aLegs0 : List SLeg) (aWay1 : List Int) (aMany2 : Int) : evF (T := T) (Phi n 25) (laws_FnExactLoad22_Ls n) laws_FnExactLoad22_ann n Try.f4 (sg 4) [vA T 34 aLegs0, vA T 24 aWay1, vA T 3 aMany2] laws_FnExactLoad22_dec = laws_FnExactLoad22 n aLegs0 aWay1 aMany2 := by kernel_rfl
theorem laws_FnExactLoad22_lo (n : Nat) : LoopsOk (T := T) (Phi n 25) (laws_FnExactLoad22_Ls n) laws_FnExactLoad22_ann n laws_FnExactLoad22_code := loopsOk_all (cs := []) (by kernel_rfl) trivial
theorem laws_FnExactLoad22_ok (n : Nat) : EntOk Try.prog (ents n) (laws_FnExactLoad22_ent n) := by
  intro hs ar y hg h
  replace h : laws_FnExactLoad22_D n ar = some y := h
  unfold laws_FnExactLoad22_D at h
  replace h := ocons_some h
  obtain ⟨a0, r0, rfl, h⟩ := h
  replace h := ocons_some h
  obtain ⟨a1, r1, rfl, h⟩ := h
  replace h := ocons_some h
  obtain ⟨a2, r2, rfl, h⟩ := h
  replace h := onil_some h
  obtain ⟨rfl, h⟩ := h
  obtain ⟨aLegs0, qh0, h⟩ := obind_some h
  obtain ⟨aWay1, qh1, h⟩ := obind_some h
  obtain ⟨aMany2, qh2, h⟩ := obind_some h
  rw [argV_eq ok qh0, argV_eq ok qh1, argV_eq ok qh2]
  exact call_of (phiE_nat _ _) hs ok mixed Try.func4 (c := laws_FnExactLoad22_code) (by kernel_rfl) (laws_FnExactLoad22_lo n) (by kernel_rfl) (by kernel_rfl) (by kernel_rfl) laws_FnExactLoad22_de ((laws_FnExactLoad22_tie n aLegs0 aWay1 aMany2).trans h)
theorem entsOk (n : Nat) : EntsOk Try.prog (ents n) (ents n) := ⟨laws_szLegS_ok n, laws_toLeg_ok n, laws_toLegS_ok n, laws_toIntS_ok n, spec_l1In_ok n, spec_l1Minute_ok n, spec_LegsOk_ok n, spec_l18Turn_ok n, spec_l22Way_ok n, spec_Load22_ok n, impl_own_impl_Leg_ok n, impl_in_ok n, impl_linePort_ok n, impl_minuteOk_ok n, impl_LegsOk_ok n, slices_Index_int_int_ok n, slices_Contains_int_int_ok n, impl_changes_ok n, impl_Load22_ok n, laws_eqLeg_ok n, laws_eqLegS_ok n, laws_eqIntS_ok n, laws_markLegS_ok n, laws_markIntS_ok n, laws_heldLegS_ok n, laws_FnExactLoad22_ok n, trivial⟩
theorem sem (n i : Nat) : SemOk (Phi n i) (CallOk Try.prog T) := phiE_ok (entsOk n) i
end Go.Sm.A4
