import Derived.Test.YtakllmgiobpmgaaE3Tb
import Derived.Test.YtakllmgiobpmgaaEngD
import Derived.Test.YtakllmgiobpmgaaEngE
import Derived.Test.YtakllmgiobpmgaaLay
import Derived.KernelRfl
/- Each function's code computes what the plain function computes. -/
set_option linter.unusedSimpArgs false
set_option linter.deprecated false
set_option linter.unusedSectionVars false
set_option linter.unusedVariables false
set_option maxRecDepth 100000
open Go Go.Proofs
noncomputable section
namespace Go.Sm.E3
/-- By recursors, and of a greater height than all of the functions: the kernel takes these apart first. -/
def obind {α β : Type} (o : Option α) (f : α → Option β) : Option β := let _ := @laws_FnExactTravel; Option.rec (motive := fun _ => Option β) none (fun a => f a) o
theorem obind_some {α β : Type} {o : Option α} {f : α → Option β} {y : β} (h : obind o f = some y) : ∃ a, o = some a ∧ f a = some y := by
  cases o with
  | none => cases h
  | some a => exact ⟨a, rfl, h⟩
def ocons {β : Type} (l : List (A T)) (f : A T → List (A T) → Option β) : Option β := let _ := @laws_FnExactTravel; List.rec (motive := fun _ => Option β) none (fun a r _ => f a r) l
theorem ocons_some {β : Type} {l : List (A T)} {f : A T → List (A T) → Option β} {y : β} (h : ocons l f = some y) : ∃ a r, l = a :: r ∧ f a r = some y := by
  cases l with
  | nil => cases h
  | cons a r => exact ⟨a, r, rfl, h⟩
def onil {β : Type} (l : List (A T)) (x : Option β) : Option β := let _ := @laws_FnExactTravel; List.rec (motive := fun _ => Option β) x (fun _ _ _ => none) l
theorem onil_some {β : Type} {l : List (A T)} {x : Option β} {y : β} (h : onil l x = some y) : l = [] ∧ x = some y := by
  cases l with
  | nil => exact ⟨rfl, h⟩
  | cons a r => cases h
def laws_szLegS_dec (res : Res T) : Option Int := match res.rets, res.outs with
  | [a0], [] => (retV (T := T) 3 a0).bind fun r0 => some (r0)
  | _, _ => none
def laws_szLegS_enc (y : Int) : Res T := ⟨[vR T 3 y], []⟩
theorem laws_szLegS_de (res : Res T) (y : Int) (h : laws_szLegS_dec res = some y) : res = laws_szLegS_enc y := by
  obtain ⟨rets, outs⟩ := res
  unfold laws_szLegS_dec at h
  dsimp only at h
  split at h
  · obtain ⟨r0, h0, h⟩ := Option.bind_eq_some_iff.1 h
    cases h
    rw [retV_eq ok h0]
    rfl
  · cases h
def laws_toLeg_dec (res : Res T) : Option SLeg := match res.rets, res.outs with
  | [a0], [] => (retV (T := T) 41 a0).bind fun r0 => some (r0)
  | _, _ => none
def laws_toLeg_enc (y : SLeg) : Res T := ⟨[vR T 41 y], []⟩
theorem laws_toLeg_de (res : Res T) (y : SLeg) (h : laws_toLeg_dec res = some y) : res = laws_toLeg_enc y := by
  obtain ⟨rets, outs⟩ := res
  unfold laws_toLeg_dec at h
  dsimp only at h
  split at h
  · obtain ⟨r0, h0, h⟩ := Option.bind_eq_some_iff.1 h
    cases h
    rw [retV_eq ok h0]
    rfl
  · cases h
def laws_toLegS_dec (res : Res T) : Option (List SLeg) := match res.rets, res.outs with
  | [a0], [] => (retV (T := T) 27 a0).bind fun r0 => some (r0)
  | _, _ => none
def laws_toLegS_enc (y : List SLeg) : Res T := ⟨[vR T 27 y], []⟩
theorem laws_toLegS_de (res : Res T) (y : List SLeg) (h : laws_toLegS_dec res = some y) : res = laws_toLegS_enc y := by
  obtain ⟨rets, outs⟩ := res
  unfold laws_toLegS_dec at h
  dsimp only at h
  split at h
  · obtain ⟨r0, h0, h⟩ := Option.bind_eq_some_iff.1 h
    cases h
    rw [retV_eq ok h0]
    rfl
  · cases h
def spec_l1In_dec (res : Res T) : Option Bool := match res.rets, res.outs with
  | [a0], [] => (retV (T := T) 4 a0).bind fun r0 => some (r0)
  | _, _ => none
def spec_l1In_enc (y : Bool) : Res T := ⟨[vR T 4 y], []⟩
theorem spec_l1In_de (res : Res T) (y : Bool) (h : spec_l1In_dec res = some y) : res = spec_l1In_enc y := by
  obtain ⟨rets, outs⟩ := res
  unfold spec_l1In_dec at h
  dsimp only at h
  split at h
  · obtain ⟨r0, h0, h⟩ := Option.bind_eq_some_iff.1 h
    cases h
    rw [retV_eq ok h0]
    rfl
  · cases h
def spec_l1Minute_dec (res : Res T) : Option Bool := match res.rets, res.outs with
  | [a0], [] => (retV (T := T) 4 a0).bind fun r0 => some (r0)
  | _, _ => none
def spec_l1Minute_enc (y : Bool) : Res T := ⟨[vR T 4 y], []⟩
theorem spec_l1Minute_de (res : Res T) (y : Bool) (h : spec_l1Minute_dec res = some y) : res = spec_l1Minute_enc y := by
  obtain ⟨rets, outs⟩ := res
  unfold spec_l1Minute_dec at h
  dsimp only at h
  split at h
  · obtain ⟨r0, h0, h⟩ := Option.bind_eq_some_iff.1 h
    cases h
    rw [retV_eq ok h0]
    rfl
  · cases h
def spec_LegsOk_dec (res : Res T) : Option Bool := match res.rets, res.outs with
  | [a0], [] => (retV (T := T) 4 a0).bind fun r0 => some (r0)
  | _, _ => none
def spec_LegsOk_enc (y : Bool) : Res T := ⟨[vR T 4 y], []⟩
theorem spec_LegsOk_de (res : Res T) (y : Bool) (h : spec_LegsOk_dec res = some y) : res = spec_LegsOk_enc y := by
  obtain ⟨rets, outs⟩ := res
  unfold spec_LegsOk_dec at h
  dsimp only at h
  split at h
  · obtain ⟨r0, h0, h⟩ := Option.bind_eq_some_iff.1 h
    cases h
    rw [retV_eq ok h0]
    rfl
  · cases h
def spec_l22May_dec (res : Res T) : Option Bool := match res.rets, res.outs with
  | [a0], [] => (retV (T := T) 4 a0).bind fun r0 => some (r0)
  | _, _ => none
def spec_l22May_enc (y : Bool) : Res T := ⟨[vR T 4 y], []⟩
theorem spec_l22May_de (res : Res T) (y : Bool) (h : spec_l22May_dec res = some y) : res = spec_l22May_enc y := by
  obtain ⟨rets, outs⟩ := res
  unfold spec_l22May_dec at h
  dsimp only at h
  split at h
  · obtain ⟨r0, h0, h⟩ := Option.bind_eq_some_iff.1 h
    cases h
    rw [retV_eq ok h0]
    rfl
  · cases h
def spec_l22Reach_dec (res : Res T) : Option (List Bool) := match res.rets, res.outs with
  | [a0], [] => (retV (T := T) 119 a0).bind fun r0 => some (r0)
  | _, _ => none
def spec_l22Reach_enc (y : List Bool) : Res T := ⟨[vR T 119 y], []⟩
theorem spec_l22Reach_de (res : Res T) (y : List Bool) (h : spec_l22Reach_dec res = some y) : res = spec_l22Reach_enc y := by
  obtain ⟨rets, outs⟩ := res
  unfold spec_l22Reach_dec at h
  dsimp only at h
  split at h
  · obtain ⟨r0, h0, h⟩ := Option.bind_eq_some_iff.1 h
    cases h
    rw [retV_eq ok h0]
    rfl
  · cases h
def spec_Earliest_dec (res : Res T) : Option (List Int × Bool) := match res.rets, res.outs with
  | [a0, a1], [] => (retV (T := T) 24 a0).bind fun r0 => (retV (T := T) 4 a1).bind fun r1 => some (r0, r1)
  | _, _ => none
def spec_Earliest_enc (y : List Int × Bool) : Res T := ⟨[vR T 24 y.1, vR T 4 y.2], []⟩
theorem spec_Earliest_de (res : Res T) (y : List Int × Bool) (h : spec_Earliest_dec res = some y) : res = spec_Earliest_enc y := by
  obtain ⟨rets, outs⟩ := res
  unfold spec_Earliest_dec at h
  dsimp only at h
  split at h
  · obtain ⟨r0, h0, h⟩ := Option.bind_eq_some_iff.1 h
    obtain ⟨r1, h1, h⟩ := Option.bind_eq_some_iff.1 h
    cases h
    rw [retV_eq ok h0, retV_eq ok h1]
    rfl
  · cases h
def spec_l22Seek_dec (res : Res T) : Option (List Int × Bool) := match res.rets, res.outs with
  | [a0, a1], [] => (retV (T := T) 24 a0).bind fun r0 => (retV (T := T) 4 a1).bind fun r1 => some (r0, r1)
  | _, _ => none
def spec_l22Seek_enc (y : List Int × Bool) : Res T := ⟨[vR T 24 y.1, vR T 4 y.2], []⟩
theorem spec_l22Seek_de (res : Res T) (y : List Int × Bool) (h : spec_l22Seek_dec res = some y) : res = spec_l22Seek_enc y := by
  obtain ⟨rets, outs⟩ := res
  unfold spec_l22Seek_dec at h
  dsimp only at h
  split at h
  · obtain ⟨r0, h0, h⟩ := Option.bind_eq_some_iff.1 h
    obtain ⟨r1, h1, h⟩ := Option.bind_eq_some_iff.1 h
    cases h
    rw [retV_eq ok h0, retV_eq ok h1]
    rfl
  · cases h
def spec_Travel_dec (res : Res T) : Option (List Int × Bool) := match res.rets, res.outs with
  | [a0, a1], [] => (retV (T := T) 24 a0).bind fun r0 => (retV (T := T) 4 a1).bind fun r1 => some (r0, r1)
  | _, _ => none
def spec_Travel_enc (y : List Int × Bool) : Res T := ⟨[vR T 24 y.1, vR T 4 y.2], []⟩
theorem spec_Travel_de (res : Res T) (y : List Int × Bool) (h : spec_Travel_dec res = some y) : res = spec_Travel_enc y := by
  obtain ⟨rets, outs⟩ := res
  unfold spec_Travel_dec at h
  dsimp only at h
  split at h
  · obtain ⟨r0, h0, h⟩ := Option.bind_eq_some_iff.1 h
    obtain ⟨r1, h1, h⟩ := Option.bind_eq_some_iff.1 h
    cases h
    rw [retV_eq ok h0, retV_eq ok h1]
    rfl
  · cases h
def impl_in_dec (res : Res T) : Option Bool := match res.rets, res.outs with
  | [a0], [] => (retV (T := T) 4 a0).bind fun r0 => some (r0)
  | _, _ => none
def impl_in_enc (y : Bool) : Res T := ⟨[vR T 4 y], []⟩
theorem impl_in_de (res : Res T) (y : Bool) (h : impl_in_dec res = some y) : res = impl_in_enc y := by
  obtain ⟨rets, outs⟩ := res
  unfold impl_in_dec at h
  dsimp only at h
  split at h
  · obtain ⟨r0, h0, h⟩ := Option.bind_eq_some_iff.1 h
    cases h
    rw [retV_eq ok h0]
    rfl
  · cases h
def impl_linePort_dec (res : Res T) : Option Bool := match res.rets, res.outs with
  | [a0], [] => (retV (T := T) 4 a0).bind fun r0 => some (r0)
  | _, _ => none
def impl_linePort_enc (y : Bool) : Res T := ⟨[vR T 4 y], []⟩
theorem impl_linePort_de (res : Res T) (y : Bool) (h : impl_linePort_dec res = some y) : res = impl_linePort_enc y := by
  obtain ⟨rets, outs⟩ := res
  unfold impl_linePort_dec at h
  dsimp only at h
  split at h
  · obtain ⟨r0, h0, h⟩ := Option.bind_eq_some_iff.1 h
    cases h
    rw [retV_eq ok h0]
    rfl
  · cases h
def impl_minuteOk_dec (res : Res T) : Option Bool := match res.rets, res.outs with
  | [a0], [] => (retV (T := T) 4 a0).bind fun r0 => some (r0)
  | _, _ => none
def impl_minuteOk_enc (y : Bool) : Res T := ⟨[vR T 4 y], []⟩
theorem impl_minuteOk_de (res : Res T) (y : Bool) (h : impl_minuteOk_dec res = some y) : res = impl_minuteOk_enc y := by
  obtain ⟨rets, outs⟩ := res
  unfold impl_minuteOk_dec at h
  dsimp only at h
  split at h
  · obtain ⟨r0, h0, h⟩ := Option.bind_eq_some_iff.1 h
    cases h
    rw [retV_eq ok h0]
    rfl
  · cases h
def impl_LegsOk_dec (res : Res T) : Option Bool := match res.rets, res.outs with
  | [a0], [] => (retV (T := T) 4 a0).bind fun r0 => some (r0)
  | _, _ => none
def impl_LegsOk_enc (y : Bool) : Res T := ⟨[vR T 4 y], []⟩
theorem impl_LegsOk_de (res : Res T) (y : Bool) (h : impl_LegsOk_dec res = some y) : res = impl_LegsOk_enc y := by
  obtain ⟨rets, outs⟩ := res
  unfold impl_LegsOk_dec at h
  dsimp only at h
  split at h
  · obtain ⟨r0, h0, h⟩ := Option.bind_eq_some_iff.1 h
    cases h
    rw [retV_eq ok h0]
    rfl
  · cases h
def impl_lineRight_dec (res : Res T) : Option Bool := match res.rets, res.outs with
  | [a0], [] => (retV (T := T) 4 a0).bind fun r0 => some (r0)
  | _, _ => none
def impl_lineRight_enc (y : Bool) : Res T := ⟨[vR T 4 y], []⟩
theorem impl_lineRight_de (res : Res T) (y : Bool) (h : impl_lineRight_dec res = some y) : res = impl_lineRight_enc y := by
  obtain ⟨rets, outs⟩ := res
  unfold impl_lineRight_dec at h
  dsimp only at h
  split at h
  · obtain ⟨r0, h0, h⟩ := Option.bind_eq_some_iff.1 h
    cases h
    rw [retV_eq ok h0]
    rfl
  · cases h
def cmp_isNaN_int_dec (res : Res T) : Option Bool := match res.rets, res.outs with
  | [a0], [] => (retV (T := T) 4 a0).bind fun r0 => some (r0)
  | _, _ => none
def cmp_isNaN_int_enc (y : Bool) : Res T := ⟨[vR T 4 y], []⟩
theorem cmp_isNaN_int_de (res : Res T) (y : Bool) (h : cmp_isNaN_int_dec res = some y) : res = cmp_isNaN_int_enc y := by
  obtain ⟨rets, outs⟩ := res
  unfold cmp_isNaN_int_dec at h
  dsimp only at h
  split at h
  · obtain ⟨r0, h0, h⟩ := Option.bind_eq_some_iff.1 h
    cases h
    rw [retV_eq ok h0]
    rfl
  · cases h
def cmp_Compare_int_dec (res : Res T) : Option Int := match res.rets, res.outs with
  | [a0], [] => (retV (T := T) 3 a0).bind fun r0 => some (r0)
  | _, _ => none
def cmp_Compare_int_enc (y : Int) : Res T := ⟨[vR T 3 y], []⟩
theorem cmp_Compare_int_de (res : Res T) (y : Int) (h : cmp_Compare_int_dec res = some y) : res = cmp_Compare_int_enc y := by
  obtain ⟨rets, outs⟩ := res
  unfold cmp_Compare_int_dec at h
  dsimp only at h
  split at h
  · obtain ⟨r0, h0, h⟩ := Option.bind_eq_some_iff.1 h
    cases h
    rw [retV_eq ok h0]
    rfl
  · cases h
def impl_Earliest_1_dec (res : Res T) : Option Int := match res.rets, res.outs with
  | [a0], [] => (retV (T := T) 3 a0).bind fun r0 => some (r0)
  | _, _ => none
def impl_Earliest_1_enc (y : Int) : Res T := ⟨[vR T 3 y], []⟩
theorem impl_Earliest_1_de (res : Res T) (y : Int) (h : impl_Earliest_1_dec res = some y) : res = impl_Earliest_1_enc y := by
  obtain ⟨rets, outs⟩ := res
  unfold impl_Earliest_1_dec at h
  dsimp only at h
  split at h
  · obtain ⟨r0, h0, h⟩ := Option.bind_eq_some_iff.1 h
    cases h
    rw [retV_eq ok h0]
    rfl
  · cases h
def slices_SortFunc_int_int__impl_Earliest_1_dec (res : Res T) : Option (List Int) := match res.rets, res.outs with
  | [], [b0] => (outS (T := T) 3 b0).bind fun r0 => some (r0)
  | _, _ => none
def slices_SortFunc_int_int__impl_Earliest_1_enc (y : List Int) : Res T := ⟨[], [.sl 3 y]⟩
theorem slices_SortFunc_int_int__impl_Earliest_1_de (res : Res T) (y : List Int) (h : slices_SortFunc_int_int__impl_Earliest_1_dec res = some y) : res = slices_SortFunc_int_int__impl_Earliest_1_enc y := by
  obtain ⟨rets, outs⟩ := res
  unfold slices_SortFunc_int_int__impl_Earliest_1_dec at h
  dsimp only at h
  split at h
  · obtain ⟨r0, h0, h⟩ := Option.bind_eq_some_iff.1 h
    cases h
    rw [outS_eq h0]
    rfl
  · cases h
def impl_changes_dec (res : Res T) : Option Bool := match res.rets, res.outs with
  | [a0], [] => (retV (T := T) 4 a0).bind fun r0 => some (r0)
  | _, _ => none
def impl_changes_enc (y : Bool) : Res T := ⟨[vR T 4 y], []⟩
theorem impl_changes_de (res : Res T) (y : Bool) (h : impl_changes_dec res = some y) : res = impl_changes_enc y := by
  obtain ⟨rets, outs⟩ := res
  unfold impl_changes_dec at h
  dsimp only at h
  split at h
  · obtain ⟨r0, h0, h⟩ := Option.bind_eq_some_iff.1 h
    cases h
    rw [retV_eq ok h0]
    rfl
  · cases h
def impl_Earliest_dec (res : Res T) : Option (List Int × Bool) := match res.rets, res.outs with
  | [a0, a1], [] => (retV (T := T) 24 a0).bind fun r0 => (retV (T := T) 4 a1).bind fun r1 => some (r0, r1)
  | _, _ => none
def impl_Earliest_enc (y : List Int × Bool) : Res T := ⟨[vR T 24 y.1, vR T 4 y.2], []⟩
theorem impl_Earliest_de (res : Res T) (y : List Int × Bool) (h : impl_Earliest_dec res = some y) : res = impl_Earliest_enc y := by
  obtain ⟨rets, outs⟩ := res
  unfold impl_Earliest_dec at h
  dsimp only at h
  split at h
  · obtain ⟨r0, h0, h⟩ := Option.bind_eq_some_iff.1 h
    obtain ⟨r1, h1, h⟩ := Option.bind_eq_some_iff.1 h
    cases h
    rw [retV_eq ok h0, retV_eq ok h1]
    rfl
  · cases h
def impl_Travel_1_dec (res : Res T) : Option Bool := match res.rets, res.outs with
  | [a0], [] => (retV (T := T) 4 a0).bind fun r0 => some (r0)
  | _, _ => none
def impl_Travel_1_enc (y : Bool) : Res T := ⟨[vR T 4 y], []⟩
theorem impl_Travel_1_de (res : Res T) (y : Bool) (h : impl_Travel_1_dec res = some y) : res = impl_Travel_1_enc y := by
  obtain ⟨rets, outs⟩ := res
  unfold impl_Travel_1_dec at h
  dsimp only at h
  split at h
  · obtain ⟨r0, h0, h⟩ := Option.bind_eq_some_iff.1 h
    cases h
    rw [retV_eq ok h0]
    rfl
  · cases h
def impl_own_int_dec (res : Res T) : Option (List Int) := match res.rets, res.outs with
  | [a0], [] => (retV (T := T) 24 a0).bind fun r0 => some (r0)
  | _, _ => none
def impl_own_int_enc (y : List Int) : Res T := ⟨[vR T 24 y], []⟩
theorem impl_own_int_de (res : Res T) (y : List Int) (h : impl_own_int_dec res = some y) : res = impl_own_int_enc y := by
  obtain ⟨rets, outs⟩ := res
  unfold impl_own_int_dec at h
  dsimp only at h
  split at h
  · obtain ⟨r0, h0, h⟩ := Option.bind_eq_some_iff.1 h
    cases h
    rw [retV_eq ok h0]
    rfl
  · cases h
def impl_Travel_dec (res : Res T) : Option (List Int × Bool) := match res.rets, res.outs with
  | [a0, a1], [] => (retV (T := T) 24 a0).bind fun r0 => (retV (T := T) 4 a1).bind fun r1 => some (r0, r1)
  | _, _ => none
def impl_Travel_enc (y : List Int × Bool) : Res T := ⟨[vR T 24 y.1, vR T 4 y.2], []⟩
theorem impl_Travel_de (res : Res T) (y : List Int × Bool) (h : impl_Travel_dec res = some y) : res = impl_Travel_enc y := by
  obtain ⟨rets, outs⟩ := res
  unfold impl_Travel_dec at h
  dsimp only at h
  split at h
  · obtain ⟨r0, h0, h⟩ := Option.bind_eq_some_iff.1 h
    obtain ⟨r1, h1, h⟩ := Option.bind_eq_some_iff.1 h
    cases h
    rw [retV_eq ok h0, retV_eq ok h1]
    rfl
  · cases h
def laws_eqIntS_dec (res : Res T) : Option Bool := match res.rets, res.outs with
  | [a0], [] => (retV (T := T) 4 a0).bind fun r0 => some (r0)
  | _, _ => none
def laws_eqIntS_enc (y : Bool) : Res T := ⟨[vR T 4 y], []⟩
theorem laws_eqIntS_de (res : Res T) (y : Bool) (h : laws_eqIntS_dec res = some y) : res = laws_eqIntS_enc y := by
  obtain ⟨rets, outs⟩ := res
  unfold laws_eqIntS_dec at h
  dsimp only at h
  split at h
  · obtain ⟨r0, h0, h⟩ := Option.bind_eq_some_iff.1 h
    cases h
    rw [retV_eq ok h0]
    rfl
  · cases h
def laws_eqLeg_dec (res : Res T) : Option Bool := match res.rets, res.outs with
  | [a0], [] => (retV (T := T) 4 a0).bind fun r0 => some (r0)
  | _, _ => none
def laws_eqLeg_enc (y : Bool) : Res T := ⟨[vR T 4 y], []⟩
theorem laws_eqLeg_de (res : Res T) (y : Bool) (h : laws_eqLeg_dec res = some y) : res = laws_eqLeg_enc y := by
  obtain ⟨rets, outs⟩ := res
  unfold laws_eqLeg_dec at h
  dsimp only at h
  split at h
  · obtain ⟨r0, h0, h⟩ := Option.bind_eq_some_iff.1 h
    cases h
    rw [retV_eq ok h0]
    rfl
  · cases h
def laws_eqLegS_dec (res : Res T) : Option Bool := match res.rets, res.outs with
  | [a0], [] => (retV (T := T) 4 a0).bind fun r0 => some (r0)
  | _, _ => none
def laws_eqLegS_enc (y : Bool) : Res T := ⟨[vR T 4 y], []⟩
theorem laws_eqLegS_de (res : Res T) (y : Bool) (h : laws_eqLegS_dec res = some y) : res = laws_eqLegS_enc y := by
  obtain ⟨rets, outs⟩ := res
  unfold laws_eqLegS_dec at h
  dsimp only at h
  split at h
  · obtain ⟨r0, h0, h⟩ := Option.bind_eq_some_iff.1 h
    cases h
    rw [retV_eq ok h0]
    rfl
  · cases h
def laws_markLegS_dec (res : Res T) : Option (Int × List SLeg) := match res.rets, res.outs with
  | [a0], [b0] => (retV (T := T) 3 a0).bind fun r0 => (outS (T := T) 41 b0).bind fun r1 => some (r0, r1)
  | _, _ => none
def laws_markLegS_enc (y : Int × List SLeg) : Res T := ⟨[vR T 3 y.1], [.sl 41 y.2]⟩
theorem laws_markLegS_de (res : Res T) (y : Int × List SLeg) (h : laws_markLegS_dec res = some y) : res = laws_markLegS_enc y := by
  obtain ⟨rets, outs⟩ := res
  unfold laws_markLegS_dec at h
  dsimp only at h
  split at h
  · obtain ⟨r0, h0, h⟩ := Option.bind_eq_some_iff.1 h
    obtain ⟨r1, h1, h⟩ := Option.bind_eq_some_iff.1 h
    cases h
    rw [retV_eq ok h0, outS_eq h1]
    rfl
  · cases h
def laws_markIntS_dec (res : Res T) : Option (Int × List Int) := match res.rets, res.outs with
  | [a0], [b0] => (retV (T := T) 3 a0).bind fun r0 => (outS (T := T) 3 b0).bind fun r1 => some (r0, r1)
  | _, _ => none
def laws_markIntS_enc (y : Int × List Int) : Res T := ⟨[vR T 3 y.1], [.sl 3 y.2]⟩
theorem laws_markIntS_de (res : Res T) (y : Int × List Int) (h : laws_markIntS_dec res = some y) : res = laws_markIntS_enc y := by
  obtain ⟨rets, outs⟩ := res
  unfold laws_markIntS_dec at h
  dsimp only at h
  split at h
  · obtain ⟨r0, h0, h⟩ := Option.bind_eq_some_iff.1 h
    obtain ⟨r1, h1, h⟩ := Option.bind_eq_some_iff.1 h
    cases h
    rw [retV_eq ok h0, outS_eq h1]
    rfl
  · cases h
def laws_heldIntS_dec (res : Res T) : Option Int := match res.rets, res.outs with
  | [a0], [] => (retV (T := T) 3 a0).bind fun r0 => some (r0)
  | _, _ => none
def laws_heldIntS_enc (y : Int) : Res T := ⟨[vR T 3 y], []⟩
theorem laws_heldIntS_de (res : Res T) (y : Int) (h : laws_heldIntS_dec res = some y) : res = laws_heldIntS_enc y := by
  obtain ⟨rets, outs⟩ := res
  unfold laws_heldIntS_dec at h
  dsimp only at h
  split at h
  · obtain ⟨r0, h0, h⟩ := Option.bind_eq_some_iff.1 h
    cases h
    rw [retV_eq ok h0]
    rfl
  · cases h
def laws_FnExactTravel_dec (res : Res T) : Option Bool := match res.rets, res.outs with
  | [a0], [] => (retV (T := T) 4 a0).bind fun r0 => some (r0)
  | _, _ => none
def laws_FnExactTravel_enc (y : Bool) : Res T := ⟨[vR T 4 y], []⟩
theorem laws_FnExactTravel_de (res : Res T) (y : Bool) (h : laws_FnExactTravel_dec res = some y) : res = laws_FnExactTravel_enc y := by
  obtain ⟨rets, outs⟩ := res
  unfold laws_FnExactTravel_dec at h
  dsimp only at h
  split at h
  · obtain ⟨r0, h0, h⟩ := Option.bind_eq_some_iff.1 h
    cases h
    rw [retV_eq ok h0]
    rfl
  · cases h
def laws_szLegS_D (n : Nat) (r0 : List (A T)) : Option Int := ocons r0 fun a0 r1 => ocons r1 fun a1 r2 => onil r2 (obind (argV (T := T) 22 a0) fun a0 => obind (argV (T := T) 3 a1) fun left1 => laws_szLegS n a0 left1)
def laws_szLegS_ent (n : Nat) : Ent T := ⟨12, 0, [], Int, laws_szLegS_D n, laws_szLegS_enc⟩
def laws_toLeg_D (n : Nat) (r0 : List (A T)) : Option SLeg := ocons r0 fun a0 r1 => onil r1 (obind (argV (T := T) 117 a0) fun a0 => laws_toLeg n a0)
def laws_toLeg_ent (n : Nat) : Ent T := ⟨75, 1, [], SLeg, laws_toLeg_D n, laws_toLeg_enc⟩
def laws_toLegS_D (n : Nat) (r0 : List (A T)) : Option (List SLeg) := ocons r0 fun a0 r1 => onil r1 (obind (argV (T := T) 22 a0) fun a0 => laws_toLegS n a0)
def laws_toLegS_ent (n : Nat) : Ent T := ⟨14, 2, [], List SLeg, laws_toLegS_D n, laws_toLegS_enc⟩
def spec_l1In_D (n : Nat) (r0 : List (A T)) : Option Bool := ocons r0 fun a0 r1 => ocons r1 fun a1 r2 => ocons r2 fun a2 r3 => onil r3 (obind (argV (T := T) 3 a0) fun x0 => obind (argV (T := T) 3 a1) fun a1 => obind (argV (T := T) 3 a2) fun b2 => spec_l1In n x0 a1 b2)
def spec_l1In_ent (n : Nat) : Ent T := ⟨73, 3, [], Bool, spec_l1In_D n, spec_l1In_enc⟩
def spec_l1Minute_D (n : Nat) (r0 : List (A T)) : Option Bool := ocons r0 fun a0 r1 => onil r1 (obind (argV (T := T) 3 a0) fun x0 => spec_l1Minute n x0)
def spec_l1Minute_ent (n : Nat) : Ent T := ⟨163, 4, [], Bool, spec_l1Minute_D n, spec_l1Minute_enc⟩
def spec_LegsOk_D (n : Nat) (r0 : List (A T)) : Option Bool := ocons r0 fun a0 r1 => onil r1 (obind (argV (T := T) 27 a0) fun legs0 => spec_LegsOk n legs0)
def spec_LegsOk_ent (n : Nat) : Ent T := ⟨162, 5, [], Bool, spec_LegsOk_D n, spec_LegsOk_enc⟩
def spec_l22May_D (n : Nat) (r0 : List (A T)) : Option Bool := ocons r0 fun a0 r1 => ocons r1 fun a1 r2 => ocons r2 fun a2 r3 => ocons r3 fun a3 r4 => onil r4 (obind (argV (T := T) 41 a0) fun x0 => obind (argV (T := T) 3 a1) fun at1 => obind (argV (T := T) 3 a2) fun service2 => obind (argV (T := T) 3 a3) fun change3 => spec_l22May n x0 at1 service2 change3)
def spec_l22May_ent (n : Nat) : Ent T := ⟨165, 6, [], Bool, spec_l22May_D n, spec_l22May_enc⟩
def spec_l22Reach_D (n : Nat) (r0 : List (A T)) : Option (List Bool) := ocons r0 fun a0 r1 => ocons r1 fun a1 r2 => ocons r2 fun a2 r3 => ocons r3 fun a3 r4 => onil r4 (obind (argV (T := T) 27 a0) fun legs0 => obind (argV (T := T) 3 a1) fun from1 => obind (argV (T := T) 3 a2) fun at2 => obind (argV (T := T) 3 a3) fun change3 => spec_l22Reach n legs0 from1 at2 change3)
def spec_l22Reach_ent (n : Nat) : Ent T := ⟨164, 7, [], List Bool, spec_l22Reach_D n, spec_l22Reach_enc⟩
def spec_Earliest_D (n : Nat) (r0 : List (A T)) : Option (List Int × Bool) := ocons r0 fun a0 r1 => ocons r1 fun a1 r2 => ocons r2 fun a2 r3 => ocons r3 fun a3 r4 => onil r4 (obind (argV (T := T) 27 a0) fun legs0 => obind (argV (T := T) 3 a1) fun from1 => obind (argV (T := T) 3 a2) fun at2 => obind (argV (T := T) 3 a3) fun change3 => spec_Earliest n legs0 from1 at2 change3)
def spec_Earliest_ent (n : Nat) : Ent T := ⟨72, 8, [], List Int × Bool, spec_Earliest_D n, spec_Earliest_enc⟩
def spec_l22Seek_Dr (rc : List SLeg → List Int → Int → Int → Int → Int → Int → Int → Int → Option (List Int × Bool)) (r0 : List (A T)) : Option (List Int × Bool) := ocons r0 fun a0 r1 => ocons r1 fun a1 r2 => ocons r2 fun a2 r3 => ocons r3 fun a3 r4 => ocons r4 fun a4 r5 => ocons r5 fun a5 r6 => ocons r6 fun a6 r7 => ocons r7 fun a7 r8 => ocons r8 fun a8 r9 => onil r9 (obind (argV (T := T) 27 a0) fun legs0 => obind (argV (T := T) 24 a1) fun so1 => obind (argV (T := T) 3 a2) fun port2 => obind (argV (T := T) 3 a3) fun at3 => obind (argV (T := T) 3 a4) fun service4 => obind (argV (T := T) 3 a5) fun to5 => obind (argV (T := T) 3 a6) fun when6 => obind (argV (T := T) 3 a7) fun change7 => obind (argV (T := T) 3 a8) fun left8 => rc legs0 so1 port2 at3 service4 to5 when6 change7 left8)
def spec_l22Seek_D (n : Nat) (ar : List (A T)) : Option (List Int × Bool) := spec_l22Seek_Dr (spec_l22Seek_r n n) ar
def spec_l22Seek_ent (n : Nat) : Ent T := ⟨74, 9, [], List Int × Bool, spec_l22Seek_D n, spec_l22Seek_enc⟩
def spec_Travel_D (n : Nat) (r0 : List (A T)) : Option (List Int × Bool) := ocons r0 fun a0 r1 => ocons r1 fun a1 r2 => ocons r2 fun a2 r3 => ocons r3 fun a3 r4 => ocons r4 fun a4 r5 => onil r5 (obind (argV (T := T) 27 a0) fun legs0 => obind (argV (T := T) 3 a1) fun from1 => obind (argV (T := T) 3 a2) fun to2 => obind (argV (T := T) 3 a3) fun at3 => obind (argV (T := T) 3 a4) fun change4 => spec_Travel n legs0 from1 to2 at3 change4)
def spec_Travel_ent (n : Nat) : Ent T := ⟨13, 10, [], List Int × Bool, spec_Travel_D n, spec_Travel_enc⟩
def impl_in_D (n : Nat) (r0 : List (A T)) : Option Bool := ocons r0 fun a0 r1 => ocons r1 fun a1 r2 => ocons r2 fun a2 r3 => onil r3 (obind (argV (T := T) 3 a0) fun n0 => obind (argV (T := T) 3 a1) fun least1 => obind (argV (T := T) 3 a2) fun most2 => impl_in n n0 least1 most2)
def impl_in_ent (n : Nat) : Ent T := ⟨87, 11, [], Bool, impl_in_D n, impl_in_enc⟩
def impl_linePort_D (n : Nat) (r0 : List (A T)) : Option Bool := ocons r0 fun a0 r1 => onil r1 (obind (argV (T := T) 3 a0) fun n0 => impl_linePort n n0)
def impl_linePort_ent (n : Nat) : Ent T := ⟨76, 12, [], Bool, impl_linePort_D n, impl_linePort_enc⟩
def impl_minuteOk_D (n : Nat) (r0 : List (A T)) : Option Bool := ocons r0 fun a0 r1 => onil r1 (obind (argV (T := T) 3 a0) fun n0 => impl_minuteOk n n0)
def impl_minuteOk_ent (n : Nat) : Ent T := ⟨88, 13, [], Bool, impl_minuteOk_D n, impl_minuteOk_enc⟩
def impl_LegsOk_D (n : Nat) (r0 : List (A T)) : Option Bool := ocons r0 fun a0 r1 => onil r1 (obind (argV (T := T) 27 a0) fun legs0 => impl_LegsOk n legs0)
def impl_LegsOk_ent (n : Nat) : Ent T := ⟨25, 14, [], Bool, impl_LegsOk_D n, impl_LegsOk_enc⟩
def impl_lineRight_D (n : Nat) (r0 : List (A T)) : Option Bool := ocons r0 fun a0 r1 => ocons r1 fun a1 r2 => ocons r2 fun a2 r3 => ocons r3 fun a3 r4 => onil r4 (obind (argV (T := T) 27 a0) fun legs0 => obind (argV (T := T) 3 a1) fun from1 => obind (argV (T := T) 3 a2) fun at2 => obind (argV (T := T) 3 a3) fun change3 => impl_lineRight n legs0 from1 at2 change3)
def impl_lineRight_ent (n : Nat) : Ent T := ⟨83, 15, [], Bool, impl_lineRight_D n, impl_lineRight_enc⟩
def cmp_isNaN_int_D (n : Nat) (r0 : List (A T)) : Option Bool := ocons r0 fun a0 r1 => onil r1 (obind (argV (T := T) 3 a0) fun x0 => cmp_isNaN_int n x0)
def cmp_isNaN_int_ent (n : Nat) : Ent T := ⟨168, 16, [], Bool, cmp_isNaN_int_D n, cmp_isNaN_int_enc⟩
def cmp_Compare_int_D (n : Nat) (r0 : List (A T)) : Option Int := ocons r0 fun a0 r1 => ocons r1 fun a1 r2 => onil r2 (obind (argV (T := T) 3 a0) fun x0 => obind (argV (T := T) 3 a1) fun y1 => cmp_Compare_int n x0 y1)
def cmp_Compare_int_ent (n : Nat) : Ent T := ⟨86, 17, [], Int, cmp_Compare_int_D n, cmp_Compare_int_enc⟩
def impl_Earliest_1_D (n : Nat) (r0 : List (A T)) : Option Int := ocons r0 fun a0 r1 => ocons r1 fun a1 r2 => ocons r2 fun a2 r3 => onil r3 (obind (argV (T := T) 3 a0) fun a0 => obind (argV (T := T) 3 a1) fun b1 => obind (argP (T := T) 27 a2) fun a2 => impl_Earliest_1 n a0 b1 a2)
def impl_Earliest_1_ent (n : Nat) : Ent T := ⟨85, 18, [], Int, impl_Earliest_1_D n, impl_Earliest_1_enc⟩
def slices_SortFunc_int_int__impl_Earliest_1_D (n : Nat) (ar : List (A T)) : Option (List Int) := match ar with
  | [a0, .fn _ [k1_0]] => obind (argV (T := T) 24 a0) fun l0 => obind (argP (T := T) 27 k1_0) fun c0 => slices_SortFunc_int_int__impl_Earliest_1 n l0 c0
  | _ => none
def slices_SortFunc_int_int__impl_Earliest_1_ent (n : Nat) : Ent T := ⟨84, 19, [85], List Int, slices_SortFunc_int_int__impl_Earliest_1_D n, slices_SortFunc_int_int__impl_Earliest_1_enc⟩
def impl_changes_D (n : Nat) (r0 : List (A T)) : Option Bool := ocons r0 fun a0 r1 => ocons r1 fun a1 r2 => ocons r2 fun a2 r3 => onil r3 (obind (argV (T := T) 41 a0) fun i0 => obind (argV (T := T) 41 a1) fun j1 => obind (argV (T := T) 3 a2) fun change2 => impl_changes n i0 j1 change2)
def impl_changes_ent (n : Nat) : Ent T := ⟨78, 20, [], Bool, impl_changes_D n, impl_changes_enc⟩
def impl_Earliest_D (n : Nat) (r0 : List (A T)) : Option (List Int × Bool) := ocons r0 fun a0 r1 => ocons r1 fun a1 r2 => ocons r2 fun a2 r3 => ocons r3 fun a3 r4 => onil r4 (obind (argV (T := T) 27 a0) fun legs0 => obind (argV (T := T) 3 a1) fun from1 => obind (argV (T := T) 3 a2) fun at2 => obind (argV (T := T) 3 a3) fun change3 => impl_Earliest n legs0 from1 at2 change3)
def impl_Earliest_ent (n : Nat) : Ent T := ⟨24, 21, [], List Int × Bool, impl_Earliest_D n, impl_Earliest_enc⟩
def impl_Travel_1_D (n : Nat) (r0 : List (A T)) : Option Bool := ocons r0 fun a0 r1 => ocons r1 fun a1 r2 => ocons r2 fun a2 r3 => ocons r3 fun a3 r4 => ocons r4 fun a4 r5 => ocons r5 fun a5 r6 => onil r6 (obind (argV (T := T) 3 a0) fun j0 => obind (argP (T := T) 24 a1) fun a1 => obind (argP (T := T) 27 a2) fun a2 => obind (argP (T := T) 3 a3) fun a3 => obind (argP (T := T) 3 a4) fun a4 => obind (argP (T := T) 3 a5) fun a5 => impl_Travel_1 n j0 a1 a2 a3 a4 a5)
def impl_Travel_1_ent (n : Nat) : Ent T := ⟨77, 22, [], Bool, impl_Travel_1_D n, impl_Travel_1_enc⟩
def impl_own_int_D (n : Nat) (r0 : List (A T)) : Option (List Int) := ocons r0 fun a0 r1 => onil r1 (obind (argV (T := T) 24 a0) fun l0 => impl_own_int n l0)
def impl_own_int_ent (n : Nat) : Ent T := ⟨79, 23, [], List Int, impl_own_int_D n, impl_own_int_enc⟩
def impl_Travel_D (n : Nat) (r0 : List (A T)) : Option (List Int × Bool) := ocons r0 fun a0 r1 => ocons r1 fun a1 r2 => ocons r2 fun a2 r3 => ocons r3 fun a3 r4 => ocons r4 fun a4 r5 => onil r5 (obind (argV (T := T) 27 a0) fun legs0 => obind (argV (T := T) 3 a1) fun from1 => obind (argV (T := T) 3 a2) fun to2 => obind (argV (T := T) 3 a3) fun at3 => obind (argV (T := T) 3 a4) fun change4 => impl_Travel n legs0 from1 to2 at3 change4)
def impl_Travel_ent (n : Nat) : Ent T := ⟨15, 24, [], List Int × Bool, impl_Travel_D n, impl_Travel_enc⟩
def laws_eqIntS_D (n : Nat) (r0 : List (A T)) : Option Bool := ocons r0 fun a0 r1 => ocons r1 fun a1 r2 => onil r2 (obind (argV (T := T) 24 a0) fun a0 => obind (argV (T := T) 24 a1) fun b1 => laws_eqIntS n a0 b1)
def laws_eqIntS_ent (n : Nat) : Ent T := ⟨16, 25, [], Bool, laws_eqIntS_D n, laws_eqIntS_enc⟩
def laws_eqLeg_D (n : Nat) (r0 : List (A T)) : Option Bool := ocons r0 fun a0 r1 => ocons r1 fun a1 r2 => onil r2 (obind (argV (T := T) 41 a0) fun a0 => obind (argV (T := T) 41 a1) fun b1 => laws_eqLeg n a0 b1)
def laws_eqLeg_ent (n : Nat) : Ent T := ⟨80, 26, [], Bool, laws_eqLeg_D n, laws_eqLeg_enc⟩
def laws_eqLegS_D (n : Nat) (r0 : List (A T)) : Option Bool := ocons r0 fun a0 r1 => ocons r1 fun a1 r2 => onil r2 (obind (argV (T := T) 27 a0) fun a0 => obind (argV (T := T) 27 a1) fun b1 => laws_eqLegS n a0 b1)
def laws_eqLegS_ent (n : Nat) : Ent T := ⟨17, 27, [], Bool, laws_eqLegS_D n, laws_eqLegS_enc⟩
def laws_markLegS_D (n : Nat) (r0 : List (A T)) : Option (Int × List SLeg) := ocons r0 fun a0 r1 => ocons r1 fun a1 r2 => onil r2 (obind (argV (T := T) 27 a0) fun a0 => obind (argV (T := T) 3 a1) fun k1 => laws_markLegS n a0 k1)
def laws_markLegS_ent (n : Nat) : Ent T := ⟨18, 28, [], Int × List SLeg, laws_markLegS_D n, laws_markLegS_enc⟩
def laws_markIntS_D (n : Nat) (r0 : List (A T)) : Option (Int × List Int) := ocons r0 fun a0 r1 => ocons r1 fun a1 r2 => onil r2 (obind (argV (T := T) 24 a0) fun a0 => obind (argV (T := T) 3 a1) fun k1 => laws_markIntS n a0 k1)
def laws_markIntS_ent (n : Nat) : Ent T := ⟨19, 29, [], Int × List Int, laws_markIntS_D n, laws_markIntS_enc⟩
def laws_heldIntS_D (n : Nat) (r0 : List (A T)) : Option Int := ocons r0 fun a0 r1 => ocons r1 fun a1 r2 => onil r2 (obind (argV (T := T) 24 a0) fun a0 => obind (argV (T := T) 3 a1) fun k1 => laws_heldIntS n a0 k1)
def laws_heldIntS_ent (n : Nat) : Ent T := ⟨20, 30, [], Int, laws_heldIntS_D n, laws_heldIntS_enc⟩
def laws_FnExactTravel_D (n : Nat) (r0 : List (A T)) : Option Bool := ocons r0 fun a0 r1 => ocons r1 fun a1 r2 => ocons r2 fun a2 r3 => ocons r3 fun a3 r4 => ocons r4 fun a4 r5 => onil r5 (obind (argV (T := T) 22 a0) fun aLegs0 => obind (argV (T := T) 3 a1) fun aFrom1 => obind (argV (T := T) 3 a2) fun aTo2 => obind (argV (T := T) 3 a3) fun aAt3 => obind (argV (T := T) 3 a4) fun aChange4 => laws_FnExactTravel n aLegs0 aFrom1 aTo2 aAt3 aChange4)
def laws_FnExactTravel_ent (n : Nat) : Ent T := ⟨3, 31, [], Bool, laws_FnExactTravel_D n, laws_FnExactTravel_enc⟩
def ents (n : Nat) : List (Ent T) := [laws_szLegS_ent n, laws_toLeg_ent n, laws_toLegS_ent n, spec_l1In_ent n, spec_l1Minute_ent n, spec_LegsOk_ent n, spec_l22May_ent n, spec_l22Reach_ent n, spec_Earliest_ent n, spec_l22Seek_ent n, spec_Travel_ent n, impl_in_ent n, impl_linePort_ent n, impl_minuteOk_ent n, impl_LegsOk_ent n, impl_lineRight_ent n, cmp_isNaN_int_ent n, cmp_Compare_int_ent n, impl_Earliest_1_ent n, slices_SortFunc_int_int__impl_Earliest_1_ent n, impl_changes_ent n, impl_Earliest_ent n, impl_Travel_1_ent n, impl_own_int_ent n, impl_Travel_ent n, laws_eqIntS_ent n, laws_eqLeg_ent n, laws_eqLegS_ent n, laws_markLegS_ent n, laws_markIntS_ent n, laws_heldIntS_ent n, laws_FnExactTravel_ent n]
abbrev Phi (n i : Nat) {R : Type} (f : Nat) (ar : List (A T)) (K : Res T → Option R) : Option R := PhiE (ents n) i f ar K
theorem mixed : Try.prog.follows .mixedOrders = true := by kernel_rfl
noncomputable def laws_szLegS_code : Code := match Try.f12.body with | some c => c | none => .skip
def laws_szLegS_ann : Ann := fun id => none
def laws_szLegS_Ls (n : Nat) : Nat → Option (LSpec T) := fun id => none
theorem laws_szLegS_tie (n : Nat) (a0 : List SLeg) (left1 : Int) : evF (T := T) (Phi n 0) (laws_szLegS_Ls n) laws_szLegS_ann n Try.f12 (sg 12) [vA T 22 a0, vA T 3 left1] laws_szLegS_dec = laws_szLegS n a0 left1 := by kernel_rfl
theorem laws_szLegS_lo (n : Nat) : LoopsOk (T := T) (Phi n 0) (laws_szLegS_Ls n) laws_szLegS_ann n laws_szLegS_code := loopsOk_all (cs := []) (by kernel_rfl) trivial
theorem laws_szLegS_ok (n : Nat) : EntOk Try.prog (ents n) (laws_szLegS_ent n) := by
  intro hs ar y hg h
  replace h : laws_szLegS_D n ar = some y := h
  unfold laws_szLegS_D at h
  replace h := ocons_some h
  obtain ⟨a0, r0, rfl, h⟩ := h
  replace h := ocons_some h
  obtain ⟨a1, r1, rfl, h⟩ := h
  replace h := onil_some h
  obtain ⟨rfl, h⟩ := h
  obtain ⟨a0, qh0, h⟩ := obind_some h
  obtain ⟨left1, qh1, h⟩ := obind_some h
  rw [argV_eq ok qh0, argV_eq ok qh1]
  exact call_of (phiE_nat _ _) hs ok mixed Try.func12 (c := laws_szLegS_code) (by kernel_rfl) (laws_szLegS_lo n) (by kernel_rfl) (by kernel_rfl) (by kernel_rfl) laws_szLegS_de ((laws_szLegS_tie n a0 left1).trans h)
noncomputable def laws_toLeg_code : Code := match Try.f75.body with | some c => c | none => .skip
def laws_toLeg_ann : Ann := fun id => none
def laws_toLeg_Ls (n : Nat) : Nat → Option (LSpec T) := fun id => none
theorem laws_toLeg_tie (n : Nat) (a0 : SLeg) : evF (T := T) (Phi n 1) (laws_toLeg_Ls n) laws_toLeg_ann n Try.f75 (sg 75) [vA T 117 a0] laws_toLeg_dec = laws_toLeg n a0 := by kernel_rfl
theorem laws_toLeg_lo (n : Nat) : LoopsOk (T := T) (Phi n 1) (laws_toLeg_Ls n) laws_toLeg_ann n laws_toLeg_code := loopsOk_all (cs := []) (by kernel_rfl) trivial
theorem laws_toLeg_ok (n : Nat) : EntOk Try.prog (ents n) (laws_toLeg_ent n) := by
  intro hs ar y hg h
  replace h : laws_toLeg_D n ar = some y := h
  unfold laws_toLeg_D at h
  replace h := ocons_some h
  obtain ⟨a0, r0, rfl, h⟩ := h
  replace h := onil_some h
  obtain ⟨rfl, h⟩ := h
  obtain ⟨a0, qh0, h⟩ := obind_some h
  rw [argV_eq ok qh0]
  exact call_of (phiE_nat _ _) hs ok mixed Try.func75 (c := laws_toLeg_code) (by kernel_rfl) (laws_toLeg_lo n) (by kernel_rfl) (by kernel_rfl) (by kernel_rfl) laws_toLeg_de ((laws_toLeg_tie n a0).trans h)
noncomputable def laws_toLegS_code : Code := match Try.f14.body with | some c => c | none => .skip
def laws_toLegS_3_sv : List Sv := [.one (.arr 117), .one (.own 3000000 41 false), .one (.int .i64)]
def laws_toLegS_3_so : List So := [.arr 41 false]
def laws_toLegS_3_emb (c : List SLeg) (x : Int × List SLeg) : EVs T laws_toLegS_3_sv × EOs T laws_toLegS_3_so := ((c, (), x.1, ()), (x.2, ()))
def laws_toLegS_3_prj (y : EVs T laws_toLegS_3_sv × EOs T laws_toLegS_3_so) : List SLeg × (Int × List SLeg) := ((y.1.1), (y.1.2.2.1, y.2.1))
def laws_toLegS_3_b (n : Nat) {R : Type} (K : Ex → Sm.St T → Option R) (c : List SLeg) (x : Int × List SLeg) (J : (Int × List SLeg) → Option R) : Option R :=
  laws_toLegS_L3 n (fun (y0 : List SLeg) => K (.exit 0) (stOf (T := T) [3] [3000000] [.one (.own 3000000 41 false)] [.arr 41 false] ((), ()) (y0, ()))) (fun z0 z1 => J (z0, z1)) c x.1 x.2
def laws_toLegS_3_sp (n : Nat) : LSpec T := mkSpec T ⟨[((.reg 3), 3000000, 41)], [0, 3, 4], [3000000]⟩ laws_toLegS_3_sv laws_toLegS_3_so (List SLeg) (Int × List SLeg) laws_toLegS_3_emb laws_toLegS_3_prj (laws_toLegS_3_b n)
noncomputable def laws_toLegS_3_c : Code := ((loopCodes laws_toLegS_code)[0]?).getD .skip
def laws_toLegS_ann : Ann := fun id => bif Nat.beq id 3000003 then some ⟨[((.reg 3), 3000000, 41)], [3], [3000000]⟩ else none
def laws_toLegS_Ls (n : Nat) : Nat → Option (LSpec T) := fun id => bif Nat.beq id 3 then some (laws_toLegS_3_sp n) else none
theorem laws_toLegS_3_le (n : Nat) : LoopEq (T := T) (Phi n 2) (laws_toLegS_Ls n) laws_toLegS_ann n laws_toLegS_3_c (laws_toLegS_3_sp n) := ⟨mkSpec_dec (fun y => rfl), fun c x => by kernel_rfl, fun K J c x => by kernel_rfl⟩
theorem laws_toLegS_tie (n : Nat) (a0 : List SLeg) : evF (T := T) (Phi n 2) (laws_toLegS_Ls n) laws_toLegS_ann n Try.f14 (sg 14) [vA T 22 a0] laws_toLegS_dec = laws_toLegS n a0 := by kernel_rfl
theorem laws_toLegS_lo (n : Nat) : LoopsOk (T := T) (Phi n 2) (laws_toLegS_Ls n) laws_toLegS_ann n laws_toLegS_code := loopsOk_all (cs := [laws_toLegS_3_c]) (by kernel_rfl) ⟨⟨_, by kernel_rfl, laws_toLegS_3_le n⟩, trivial⟩
theorem laws_toLegS_ok (n : Nat) : EntOk Try.prog (ents n) (laws_toLegS_ent n) := by
  intro hs ar y hg h
  replace h : laws_toLegS_D n ar = some y := h
  unfold laws_toLegS_D at h
  replace h := ocons_some h
  obtain ⟨a0, r0, rfl, h⟩ := h
  replace h := onil_some h
  obtain ⟨rfl, h⟩ := h
  obtain ⟨a0, qh0, h⟩ := obind_some h
  rw [argV_eq ok qh0]
  exact call_of (phiE_nat _ _) hs ok mixed Try.func14 (c := laws_toLegS_code) (by kernel_rfl) (laws_toLegS_lo n) (by kernel_rfl) (by kernel_rfl) (by kernel_rfl) laws_toLegS_de ((laws_toLegS_tie n a0).trans h)
noncomputable def spec_l1In_code : Code := match Try.f73.body with | some c => c | none => .skip
def spec_l1In_ann : Ann := fun id => none
def spec_l1In_Ls (n : Nat) : Nat → Option (LSpec T) := fun id => none
theorem spec_l1In_tie (n : Nat) (x0 : Int) (a1 : Int) (b2 : Int) : evF (T := T) (Phi n 3) (spec_l1In_Ls n) spec_l1In_ann n Try.f73 (sg 73) [vA T 3 x0, vA T 3 a1, vA T 3 b2] spec_l1In_dec = spec_l1In n x0 a1 b2 := by kernel_rfl
theorem spec_l1In_lo (n : Nat) : LoopsOk (T := T) (Phi n 3) (spec_l1In_Ls n) spec_l1In_ann n spec_l1In_code := loopsOk_all (cs := []) (by kernel_rfl) trivial
theorem spec_l1In_ok (n : Nat) : EntOk Try.prog (ents n) (spec_l1In_ent n) := by
  intro hs ar y hg h
  replace h : spec_l1In_D n ar = some y := h
  unfold spec_l1In_D at h
  replace h := ocons_some h
  obtain ⟨a0, r0, rfl, h⟩ := h
  replace h := ocons_some h
  obtain ⟨a1, r1, rfl, h⟩ := h
  replace h := ocons_some h
  obtain ⟨a2, r2, rfl, h⟩ := h
  replace h := onil_some h
  obtain ⟨rfl, h⟩ := h
  obtain ⟨x0, qh0, h⟩ := obind_some h
  obtain ⟨a1, qh1, h⟩ := obind_some h
  obtain ⟨b2, qh2, h⟩ := obind_some h
  rw [argV_eq ok qh0, argV_eq ok qh1, argV_eq ok qh2]
  exact call_of (phiE_nat _ _) hs ok mixed Try.func73 (c := spec_l1In_code) (by kernel_rfl) (spec_l1In_lo n) (by kernel_rfl) (by kernel_rfl) (by kernel_rfl) spec_l1In_de ((spec_l1In_tie n x0 a1 b2).trans h)
noncomputable def spec_l1Minute_code : Code := match Try.f163.body with | some c => c | none => .skip
def spec_l1Minute_ann : Ann := fun id => none
def spec_l1Minute_Ls (n : Nat) : Nat → Option (LSpec T) := fun id => none
theorem spec_l1Minute_tie (n : Nat) (x0 : Int) : evF (T := T) (Phi n 4) (spec_l1Minute_Ls n) spec_l1Minute_ann n Try.f163 (sg 163) [vA T 3 x0] spec_l1Minute_dec = spec_l1Minute n x0 := by kernel_rfl
theorem spec_l1Minute_lo (n : Nat) : LoopsOk (T := T) (Phi n 4) (spec_l1Minute_Ls n) spec_l1Minute_ann n spec_l1Minute_code := loopsOk_all (cs := []) (by kernel_rfl) trivial
theorem spec_l1Minute_ok (n : Nat) : EntOk Try.prog (ents n) (spec_l1Minute_ent n) := by
  intro hs ar y hg h
  replace h : spec_l1Minute_D n ar = some y := h
  unfold spec_l1Minute_D at h
  replace h := ocons_some h
  obtain ⟨a0, r0, rfl, h⟩ := h
  replace h := onil_some h
  obtain ⟨rfl, h⟩ := h
  obtain ⟨x0, qh0, h⟩ := obind_some h
  rw [argV_eq ok qh0]
  exact call_of (phiE_nat _ _) hs ok mixed Try.func163 (c := spec_l1Minute_code) (by kernel_rfl) (spec_l1Minute_lo n) (by kernel_rfl) (by kernel_rfl) (by kernel_rfl) spec_l1Minute_de ((spec_l1Minute_tie n x0).trans h)
noncomputable def spec_LegsOk_code : Code := match Try.f162.body with | some c => c | none => .skip
def spec_LegsOk_2_sv : List Sv := [.one (.arr 41), .one (.int .i64)]
def spec_LegsOk_2_so : List So := []
def spec_LegsOk_2_emb (c : List SLeg) (x : Int) : EVs T spec_LegsOk_2_sv × EOs T spec_LegsOk_2_so := ((c, x, ()), ())
def spec_LegsOk_2_prj (y : EVs T spec_LegsOk_2_sv × EOs T spec_LegsOk_2_so) : List SLeg × Int := ((y.1.1), (y.1.2.1))
def spec_LegsOk_2_b (n : Nat) {R : Type} (K : Ex → Sm.St T → Option R) (c : List SLeg) (x : Int) (J : Int → Option R) : Option R :=
  spec_LegsOk_L2 n (K (.exit 0) (stOf (T := T) [0] [] [.one (.arr 41)] [] (c, ()) ())) (fun (y0 : Bool) => K .ret (stOf (T := T) [2] [] [.one (.bool)] [] (y0, ()) ())) J c x
def spec_LegsOk_2_sp (n : Nat) : LSpec T := mkSpec T ⟨[], [0, 3], []⟩ spec_LegsOk_2_sv spec_LegsOk_2_so (List SLeg) (Int) spec_LegsOk_2_emb spec_LegsOk_2_prj (spec_LegsOk_2_b n)
noncomputable def spec_LegsOk_2_c : Code := ((loopCodes spec_LegsOk_code)[0]?).getD .skip
def spec_LegsOk_8_sv : List Sv := [.one (.arr 41), .one (.int .i64), .one (.ptr 32 0 0), .one (.int .i64)]
def spec_LegsOk_8_so : List So := [.var [.int .i64, .int .i64, .int .i64, .int .i64, .int .i64, .int .i64]]
def spec_LegsOk_8_emb (c : List SLeg × Int × SLeg) (x : Int) : EVs T spec_LegsOk_8_sv × EOs T spec_LegsOk_8_so := ((c.1, c.2.1, (), x, ()), ((c.2.2.Service, c.2.2.From, c.2.2.To, c.2.2.Leaves, c.2.2.Comes, c.2.2.Room, ()), ()))
def spec_LegsOk_8_prj (y : EVs T spec_LegsOk_8_sv × EOs T spec_LegsOk_8_so) : (List SLeg × Int × SLeg) × Int := ((y.1.1, y.1.2.1, ((⟨y.2.1.1, y.2.1.2.1, y.2.1.2.2.1, y.2.1.2.2.2.1, y.2.1.2.2.2.2.1, y.2.1.2.2.2.2.2.1⟩ : SLeg) : SLeg)), (y.1.2.2.2.1))
def spec_LegsOk_8_b (n : Nat) {R : Type} (K : Ex → Sm.St T → Option R) (c : List SLeg × Int × SLeg) (x : Int) (J : Int → Option R) : Option R :=
  spec_LegsOk_L8 n (K (.exit 2) (stOf (T := T) [0, 3] [] [.one (.arr 41), .one (.int .i64)] [] (c.1, c.2.1, ()) ())) (fun (y0 : Bool) => K .ret (stOf (T := T) [2] [] [.one (.bool)] [] (y0, ()) ())) J c.1 c.2.1 x c.2.2
def spec_LegsOk_8_sp (n : Nat) : LSpec T := mkSpec T ⟨[], [0, 3, 4, 5], [32]⟩ spec_LegsOk_8_sv spec_LegsOk_8_so (List SLeg × Int × SLeg) (Int) spec_LegsOk_8_emb spec_LegsOk_8_prj (spec_LegsOk_8_b n)
noncomputable def spec_LegsOk_8_c : Code := ((loopCodes spec_LegsOk_code)[1]?).getD .skip
def spec_LegsOk_ann : Ann := fun id => bif Nat.beq id 3000002 then some ⟨[], [0], []⟩ else bif Nat.beq id 2000002 then some ⟨[], [2], []⟩ else bif Nat.beq id 5000008 then some ⟨[], [0, 3], []⟩ else bif Nat.beq id 2000008 then some ⟨[], [2], []⟩ else none
def spec_LegsOk_Ls (n : Nat) : Nat → Option (LSpec T) := fun id => bif Nat.beq id 2 then some (spec_LegsOk_2_sp n) else bif Nat.beq id 8 then some (spec_LegsOk_8_sp n) else none
theorem spec_LegsOk_2_le (n : Nat) : LoopEq (T := T) (Phi n 5) (spec_LegsOk_Ls n) spec_LegsOk_ann n spec_LegsOk_2_c (spec_LegsOk_2_sp n) := ⟨mkSpec_dec (fun y => rfl), fun c x => by kernel_rfl, fun K J c x => by kernel_rfl⟩
theorem spec_LegsOk_8_le (n : Nat) : LoopEq (T := T) (Phi n 5) (spec_LegsOk_Ls n) spec_LegsOk_ann n spec_LegsOk_8_c (spec_LegsOk_8_sp n) := ⟨mkSpec_dec (fun y => rfl), fun c x => by kernel_rfl, fun K J c x => by kernel_rfl⟩
theorem spec_LegsOk_tie (n : Nat) (legs0 : List SLeg) : evF (T := T) (Phi n 5) (spec_LegsOk_Ls n) spec_LegsOk_ann n Try.f162 (sg 162) [vA T 27 legs0] spec_LegsOk_dec = spec_LegsOk n legs0 := by kernel_rfl
theorem spec_LegsOk_lo (n : Nat) : LoopsOk (T := T) (Phi n 5) (spec_LegsOk_Ls n) spec_LegsOk_ann n spec_LegsOk_code := loopsOk_all (cs := [spec_LegsOk_2_c, spec_LegsOk_8_c]) (by kernel_rfl) ⟨⟨_, by kernel_rfl, spec_LegsOk_2_le n⟩, ⟨_, by kernel_rfl, spec_LegsOk_8_le n⟩, trivial⟩
theorem spec_LegsOk_ok (n : Nat) : EntOk Try.prog (ents n) (spec_LegsOk_ent n) := by
  intro hs ar y hg h
  replace h : spec_LegsOk_D n ar = some y := h
  unfold spec_LegsOk_D at h
  replace h := ocons_some h
  obtain ⟨a0, r0, rfl, h⟩ := h
  replace h := onil_some h
  obtain ⟨rfl, h⟩ := h
  obtain ⟨legs0, qh0, h⟩ := obind_some h
  rw [argV_eq ok qh0]
  exact call_of (phiE_nat _ _) hs ok mixed Try.func162 (c := spec_LegsOk_code) (by kernel_rfl) (spec_LegsOk_lo n) (by kernel_rfl) (by kernel_rfl) (by kernel_rfl) spec_LegsOk_de ((spec_LegsOk_tie n legs0).trans h)
noncomputable def spec_l22May_code : Code := match Try.f165.body with | some c => c | none => .skip
def spec_l22May_ann : Ann := fun id => none
def spec_l22May_Ls (n : Nat) : Nat → Option (LSpec T) := fun id => none
theorem spec_l22May_tie (n : Nat) (x0 : SLeg) (at1 : Int) (service2 : Int) (change3 : Int) : evF (T := T) (Phi n 6) (spec_l22May_Ls n) spec_l22May_ann n Try.f165 (sg 165) [vA T 41 x0, vA T 3 at1, vA T 3 service2, vA T 3 change3] spec_l22May_dec = spec_l22May n x0 at1 service2 change3 := by kernel_rfl
theorem spec_l22May_lo (n : Nat) : LoopsOk (T := T) (Phi n 6) (spec_l22May_Ls n) spec_l22May_ann n spec_l22May_code := loopsOk_all (cs := []) (by kernel_rfl) trivial
theorem spec_l22May_ok (n : Nat) : EntOk Try.prog (ents n) (spec_l22May_ent n) := by
  intro hs ar y hg h
  replace h : spec_l22May_D n ar = some y := h
  unfold spec_l22May_D at h
  replace h := ocons_some h
  obtain ⟨a0, r0, rfl, h⟩ := h
  replace h := ocons_some h
  obtain ⟨a1, r1, rfl, h⟩ := h
  replace h := ocons_some h
  obtain ⟨a2, r2, rfl, h⟩ := h
  replace h := ocons_some h
  obtain ⟨a3, r3, rfl, h⟩ := h
  replace h := onil_some h
  obtain ⟨rfl, h⟩ := h
  obtain ⟨x0, qh0, h⟩ := obind_some h
  obtain ⟨at1, qh1, h⟩ := obind_some h
  obtain ⟨service2, qh2, h⟩ := obind_some h
  obtain ⟨change3, qh3, h⟩ := obind_some h
  rw [argV_eq ok qh0, argV_eq ok qh1, argV_eq ok qh2, argV_eq ok qh3]
  exact call_of (phiE_nat _ _) hs ok mixed Try.func165 (c := spec_l22May_code) (by kernel_rfl) (spec_l22May_lo n) (by kernel_rfl) (by kernel_rfl) (by kernel_rfl) spec_l22May_de ((spec_l22May_tie n x0 at1 service2 change3).trans h)
noncomputable def spec_l22Reach_code : Code := match Try.f164.body with | some c => c | none => .skip
def spec_l22Reach_3_sv : List Sv := [.one (.arr 41), .one (.int .i64), .one (.int .i64), .one (.int .i64), .one (.own 3000000 4 false), .one (.bool)]
def spec_l22Reach_3_so : List So := [.arr 4 false]
def spec_l22Reach_3_emb (c : List SLeg × Int × Int × Int) (x : Bool × List Bool) : EVs T spec_l22Reach_3_sv × EOs T spec_l22Reach_3_so := ((c.1, c.2.1, c.2.2.1, c.2.2.2, (), x.1, ()), (x.2, ()))
def spec_l22Reach_3_prj (y : EVs T spec_l22Reach_3_sv × EOs T spec_l22Reach_3_so) : (List SLeg × Int × Int × Int) × (Bool × List Bool) := ((y.1.1, y.1.2.1, y.1.2.2.1, y.1.2.2.2.1), (y.1.2.2.2.2.2.1, y.2.1))
def spec_l22Reach_3_b (n : Nat) {R : Type} (K : Ex → Sm.St T → Option R) (c : List SLeg × Int × Int × Int) (x : Bool × List Bool) (J : (Bool × List Bool) → Option R) : Option R :=
  spec_l22Reach_L3 n (fun (y0 : List Bool) => K (.exit 0) (stOf (T := T) [9] [3000000] [.one (.own 3000000 4 false)] [.arr 4 false] ((), ()) (y0, ()))) (fun z0 z1 => J (z0, z1)) c.1 c.2.1 c.2.2.1 c.2.2.2 x.1 x.2
def spec_l22Reach_3_sp (n : Nat) : LSpec T := mkSpec T ⟨[((.reg 9), 3000000, 4)], [0, 1, 2, 3, 9, 10], [3000000]⟩ spec_l22Reach_3_sv spec_l22Reach_3_so (List SLeg × Int × Int × Int) (Bool × List Bool) spec_l22Reach_3_emb spec_l22Reach_3_prj (spec_l22Reach_3_b n)
noncomputable def spec_l22Reach_3_c : Code := ((loopCodes spec_l22Reach_code)[0]?).getD .skip
def spec_l22Reach_6_sv : List Sv := [.one (.arr 41), .one (.int .i64), .one (.int .i64), .one (.int .i64), .one (.own 3000000 4 false), .one (.bool), .one (.int .i64)]
def spec_l22Reach_6_so : List So := [.arr 4 false]
def spec_l22Reach_6_emb (c : List SLeg × Int × Int × Int) (x : Bool × Int × List Bool) : EVs T spec_l22Reach_6_sv × EOs T spec_l22Reach_6_so := ((c.1, c.2.1, c.2.2.1, c.2.2.2, (), x.1, x.2.1, ()), (x.2.2, ()))
def spec_l22Reach_6_prj (y : EVs T spec_l22Reach_6_sv × EOs T spec_l22Reach_6_so) : (List SLeg × Int × Int × Int) × (Bool × Int × List Bool) := ((y.1.1, y.1.2.1, y.1.2.2.1, y.1.2.2.2.1), (y.1.2.2.2.2.2.1, y.1.2.2.2.2.2.2.1, y.2.1))
def spec_l22Reach_6_b (n : Nat) {R : Type} (K : Ex → Sm.St T → Option R) (c : List SLeg × Int × Int × Int) (x : Bool × Int × List Bool) (J : (Bool × Int × List Bool) → Option R) : Option R :=
  spec_l22Reach_L6 n (fun (y4 : Bool) (y5 : List Bool) => K (.exit 2) (stOf (T := T) [0, 1, 2, 3, 9, 10] [3000000] [.one (.arr 41), .one (.int .i64), .one (.int .i64), .one (.int .i64), .one (.own 3000000 4 false), .one (.bool)] [.arr 4 false] (c.1, c.2.1, c.2.2.1, c.2.2.2, (), y4, ()) (y5, ()))) (fun z0 z1 z2 => J (z0, z1, z2)) c.1 c.2.1 c.2.2.1 c.2.2.2 x.1 x.2.1 x.2.2
def spec_l22Reach_6_sp (n : Nat) : LSpec T := mkSpec T ⟨[((.reg 9), 3000000, 4)], [0, 1, 2, 3, 9, 10, 11], [3000000]⟩ spec_l22Reach_6_sv spec_l22Reach_6_so (List SLeg × Int × Int × Int) (Bool × Int × List Bool) spec_l22Reach_6_emb spec_l22Reach_6_prj (spec_l22Reach_6_b n)
noncomputable def spec_l22Reach_6_c : Code := ((loopCodes spec_l22Reach_code)[1]?).getD .skip
def spec_l22Reach_11_sv : List Sv := [.one (.arr 41), .one (.int .i64), .one (.int .i64), .one (.int .i64), .one (.own 3000000 4 false), .one (.bool), .one (.int .i64), .one (.bool), .one (.int .i64)]
def spec_l22Reach_11_so : List So := [.arr 4 false]
def spec_l22Reach_11_emb (c : List SLeg × Int × Int × Int × Bool × Int × List Bool) (x : Bool × Int) : EVs T spec_l22Reach_11_sv × EOs T spec_l22Reach_11_so := ((c.1, c.2.1, c.2.2.1, c.2.2.2.1, (), c.2.2.2.2.1, c.2.2.2.2.2.1, x.1, x.2, ()), (c.2.2.2.2.2.2, ()))
def spec_l22Reach_11_prj (y : EVs T spec_l22Reach_11_sv × EOs T spec_l22Reach_11_so) : (List SLeg × Int × Int × Int × Bool × Int × List Bool) × (Bool × Int) := ((y.1.1, y.1.2.1, y.1.2.2.1, y.1.2.2.2.1, y.1.2.2.2.2.2.1, y.1.2.2.2.2.2.2.1, y.2.1), (y.1.2.2.2.2.2.2.2.1, y.1.2.2.2.2.2.2.2.2.1))
def spec_l22Reach_11_b (n : Nat) {R : Type} (K : Ex → Sm.St T → Option R) (c : List SLeg × Int × Int × Int × Bool × Int × List Bool) (x : Bool × Int) (J : (Bool × Int) → Option R) : Option R :=
  spec_l22Reach_L11 n (fun (y6 : Bool) => K (.exit 4) (stOf (T := T) [0, 1, 2, 3, 9, 10, 11, 12] [3000000] [.one (.arr 41), .one (.int .i64), .one (.int .i64), .one (.int .i64), .one (.own 3000000 4 false), .one (.bool), .one (.int .i64), .one (.bool)] [.arr 4 false] (c.1, c.2.1, c.2.2.1, c.2.2.2.1, (), c.2.2.2.2.1, c.2.2.2.2.2.1, y6, ()) (c.2.2.2.2.2.2, ()))) (fun z0 z1 => J (z0, z1)) c.1 c.2.1 c.2.2.1 c.2.2.2.1 c.2.2.2.2.1 c.2.2.2.2.2.1 x.1 x.2 c.2.2.2.2.2.2
def spec_l22Reach_11_sp (n : Nat) : LSpec T := mkSpec T ⟨[((.reg 9), 3000000, 4)], [0, 1, 2, 3, 9, 10, 11, 12, 13], [3000000]⟩ spec_l22Reach_11_sv spec_l22Reach_11_so (List SLeg × Int × Int × Int × Bool × Int × List Bool) (Bool × Int) spec_l22Reach_11_emb spec_l22Reach_11_prj (spec_l22Reach_11_b n)
noncomputable def spec_l22Reach_11_c : Code := ((loopCodes spec_l22Reach_code)[2]?).getD .skip
def spec_l22Reach_ann : Ann := fun id => bif Nat.beq id 3000003 then some ⟨[((.reg 9), 3000000, 4)], [9], [3000000]⟩ else bif Nat.beq id 5000006 then some ⟨[((.reg 9), 3000000, 4)], [0, 1, 2, 3, 9, 10], [3000000]⟩ else bif Nat.beq id 7000011 then some ⟨[((.reg 9), 3000000, 4)], [0, 1, 2, 3, 9, 10, 11, 12], [3000000]⟩ else none
def spec_l22Reach_Ls (n : Nat) : Nat → Option (LSpec T) := fun id => bif Nat.beq id 3 then some (spec_l22Reach_3_sp n) else bif Nat.beq id 6 then some (spec_l22Reach_6_sp n) else bif Nat.beq id 11 then some (spec_l22Reach_11_sp n) else none
theorem spec_l22Reach_3_le (n : Nat) : LoopEq (T := T) (Phi n 7) (spec_l22Reach_Ls n) spec_l22Reach_ann n spec_l22Reach_3_c (spec_l22Reach_3_sp n) := ⟨mkSpec_dec (fun y => rfl), fun c x => by kernel_rfl, fun K J c x => by kernel_rfl⟩
theorem spec_l22Reach_6_le (n : Nat) : LoopEq (T := T) (Phi n 7) (spec_l22Reach_Ls n) spec_l22Reach_ann n spec_l22Reach_6_c (spec_l22Reach_6_sp n) := ⟨mkSpec_dec (fun y => rfl), fun c x => by kernel_rfl, fun K J c x => by kernel_rfl⟩
theorem spec_l22Reach_11_le (n : Nat) : LoopEq (T := T) (Phi n 7) (spec_l22Reach_Ls n) spec_l22Reach_ann n spec_l22Reach_11_c (spec_l22Reach_11_sp n) := ⟨mkSpec_dec (fun y => rfl), fun c x => by kernel_rfl, fun K J c x => by kernel_rfl⟩
theorem spec_l22Reach_tie (n : Nat) (legs0 : List SLeg) (from1 : Int) (at2 : Int) (change3 : Int) : evF (T := T) (Phi n 7) (spec_l22Reach_Ls n) spec_l22Reach_ann n Try.f164 (sg 164) [vA T 27 legs0, vA T 3 from1, vA T 3 at2, vA T 3 change3] spec_l22Reach_dec = spec_l22Reach n legs0 from1 at2 change3 := by kernel_rfl
theorem spec_l22Reach_lo (n : Nat) : LoopsOk (T := T) (Phi n 7) (spec_l22Reach_Ls n) spec_l22Reach_ann n spec_l22Reach_code := loopsOk_all (cs := [spec_l22Reach_3_c, spec_l22Reach_6_c, spec_l22Reach_11_c]) (by kernel_rfl) ⟨⟨_, by kernel_rfl, spec_l22Reach_3_le n⟩, ⟨_, by kernel_rfl, spec_l22Reach_6_le n⟩, ⟨_, by kernel_rfl, spec_l22Reach_11_le n⟩, trivial⟩
theorem spec_l22Reach_ok (n : Nat) : EntOk Try.prog (ents n) (spec_l22Reach_ent n) := by
  intro hs ar y hg h
  replace h : spec_l22Reach_D n ar = some y := h
  unfold spec_l22Reach_D at h
  replace h := ocons_some h
  obtain ⟨a0, r0, rfl, h⟩ := h
  replace h := ocons_some h
  obtain ⟨a1, r1, rfl, h⟩ := h
  replace h := ocons_some h
  obtain ⟨a2, r2, rfl, h⟩ := h
  replace h := ocons_some h
  obtain ⟨a3, r3, rfl, h⟩ := h
  replace h := onil_some h
  obtain ⟨rfl, h⟩ := h
  obtain ⟨legs0, qh0, h⟩ := obind_some h
  obtain ⟨from1, qh1, h⟩ := obind_some h
  obtain ⟨at2, qh2, h⟩ := obind_some h
  obtain ⟨change3, qh3, h⟩ := obind_some h
  rw [argV_eq ok qh0, argV_eq ok qh1, argV_eq ok qh2, argV_eq ok qh3]
  exact call_of (phiE_nat _ _) hs ok mixed Try.func164 (c := spec_l22Reach_code) (by kernel_rfl) (spec_l22Reach_lo n) (by kernel_rfl) (by kernel_rfl) (by kernel_rfl) spec_l22Reach_de ((spec_l22Reach_tie n legs0 from1 at2 change3).trans h)
noncomputable def spec_Earliest_code : Code := match Try.f72.body with | some c => c | none => .skip
def spec_Earliest_6_sv : List Sv := [.one (.arr 41), .one (.int .i64), .one (.int .i64), .one (.own 3000000 4 false), .one (.own 3000001 3 false), .one (.int .i64)]
def spec_Earliest_6_so : List So := [.arr 4 false, .arr 3 false]
def spec_Earliest_6_emb (c : List SLeg × Int × Int × List Bool) (x : Int × List Int) : EVs T spec_Earliest_6_sv × EOs T spec_Earliest_6_so := ((c.1, c.2.1, c.2.2.1, (), (), x.1, ()), (c.2.2.2, x.2, ()))
def spec_Earliest_6_prj (y : EVs T spec_Earliest_6_sv × EOs T spec_Earliest_6_so) : (List SLeg × Int × Int × List Bool) × (Int × List Int) := ((y.1.1, y.1.2.1, y.1.2.2.1, y.2.1), (y.1.2.2.2.2.2.1, y.2.2.1))
def spec_Earliest_6_b (n : Nat) {R : Type} (K : Ex → Sm.St T → Option R) (c : List SLeg × Int × Int × List Bool) (x : Int × List Int) (J : (Int × List Int) → Option R) : Option R :=
  spec_Earliest_L6 n (fun (y2 : List Int) => K (.exit 0) (stOf (T := T) [1, 2, 11] [3000001] [.one (.int .i64), .one (.int .i64), .one (.own 3000001 3 false)] [.arr 3 false] (c.2.1, c.2.2.1, (), ()) (y2, ()))) (fun z0 z1 => J (z0, z1)) c.1 c.2.1 c.2.2.1 x.1 c.2.2.2 x.2
def spec_Earliest_6_sp (n : Nat) : LSpec T := mkSpec T ⟨[((.reg 10), 3000000, 4), ((.reg 11), 3000001, 3)], [0, 1, 2, 10, 11, 12], [3000000, 3000001]⟩ spec_Earliest_6_sv spec_Earliest_6_so (List SLeg × Int × Int × List Bool) (Int × List Int) spec_Earliest_6_emb spec_Earliest_6_prj (spec_Earliest_6_b n)
noncomputable def spec_Earliest_6_c : Code := ((loopCodes spec_Earliest_code)[0]?).getD .skip
def spec_Earliest_10_sv : List Sv := [.one (.arr 41), .one (.int .i64), .one (.int .i64), .one (.own 3000000 4 false), .one (.own 3000001 3 false), .one (.int .i64), .one (.int .i64)]
def spec_Earliest_10_so : List So := [.arr 4 false, .arr 3 false]
def spec_Earliest_10_emb (c : List SLeg × Int × Int × Int × List Bool) (x : Int × List Int) : EVs T spec_Earliest_10_sv × EOs T spec_Earliest_10_so := ((c.1, c.2.1, c.2.2.1, (), (), c.2.2.2.1, x.1, ()), (c.2.2.2.2, x.2, ()))
def spec_Earliest_10_prj (y : EVs T spec_Earliest_10_sv × EOs T spec_Earliest_10_so) : (List SLeg × Int × Int × Int × List Bool) × (Int × List Int) := ((y.1.1, y.1.2.1, y.1.2.2.1, y.1.2.2.2.2.2.1, y.2.1), (y.1.2.2.2.2.2.2.1, y.2.2.1))
def spec_Earliest_10_b (n : Nat) {R : Type} (K : Ex → Sm.St T → Option R) (c : List SLeg × Int × Int × Int × List Bool) (x : Int × List Int) (J : (Int × List Int) → Option R) : Option R :=
  spec_Earliest_L10 n (fun (y5 : List Int) => K (.exit 2) (stOf (T := T) [0, 1, 2, 10, 11, 12] [3000000, 3000001] [.one (.arr 41), .one (.int .i64), .one (.int .i64), .one (.own 3000000 4 false), .one (.own 3000001 3 false), .one (.int .i64)] [.arr 4 false, .arr 3 false] (c.1, c.2.1, c.2.2.1, (), (), c.2.2.2.1, ()) (c.2.2.2.2, y5, ()))) (fun z0 z1 => J (z0, z1)) c.1 c.2.1 c.2.2.1 c.2.2.2.1 x.1 c.2.2.2.2 x.2
def spec_Earliest_10_sp (n : Nat) : LSpec T := mkSpec T ⟨[((.reg 10), 3000000, 4), ((.reg 11), 3000001, 3)], [0, 1, 2, 10, 11, 12, 13], [3000000, 3000001]⟩ spec_Earliest_10_sv spec_Earliest_10_so (List SLeg × Int × Int × Int × List Bool) (Int × List Int) spec_Earliest_10_emb spec_Earliest_10_prj (spec_Earliest_10_b n)
noncomputable def spec_Earliest_10_c : Code := ((loopCodes spec_Earliest_code)[1]?).getD .skip
def spec_Earliest_ann : Ann := fun id => bif Nat.beq id 3000006 then some ⟨[((.reg 11), 3000001, 3)], [1, 2, 11], [3000001]⟩ else bif Nat.beq id 5000010 then some ⟨[((.reg 10), 3000000, 4), ((.reg 11), 3000001, 3)], [0, 1, 2, 10, 11, 12], [3000000, 3000001]⟩ else none
def spec_Earliest_Ls (n : Nat) : Nat → Option (LSpec T) := fun id => bif Nat.beq id 6 then some (spec_Earliest_6_sp n) else bif Nat.beq id 10 then some (spec_Earliest_10_sp n) else none
theorem spec_Earliest_6_le (n : Nat) : LoopEq (T := T) (Phi n 8) (spec_Earliest_Ls n) spec_Earliest_ann n spec_Earliest_6_c (spec_Earliest_6_sp n) := ⟨mkSpec_dec (fun y => rfl), fun c x => by kernel_rfl, fun K J c x => by kernel_rfl⟩
theorem spec_Earliest_10_le (n : Nat) : LoopEq (T := T) (Phi n 8) (spec_Earliest_Ls n) spec_Earliest_ann n spec_Earliest_10_c (spec_Earliest_10_sp n) := ⟨mkSpec_dec (fun y => rfl), fun c x => by kernel_rfl, fun K J c x => by kernel_rfl⟩
theorem spec_Earliest_tie (n : Nat) (legs0 : List SLeg) (from1 : Int) (at2 : Int) (change3 : Int) : evF (T := T) (Phi n 8) (spec_Earliest_Ls n) spec_Earliest_ann n Try.f72 (sg 72) [vA T 27 legs0, vA T 3 from1, vA T 3 at2, vA T 3 change3] spec_Earliest_dec = spec_Earliest n legs0 from1 at2 change3 := by kernel_rfl
theorem spec_Earliest_lo (n : Nat) : LoopsOk (T := T) (Phi n 8) (spec_Earliest_Ls n) spec_Earliest_ann n spec_Earliest_code := loopsOk_all (cs := [spec_Earliest_6_c, spec_Earliest_10_c]) (by kernel_rfl) ⟨⟨_, by kernel_rfl, spec_Earliest_6_le n⟩, ⟨_, by kernel_rfl, spec_Earliest_10_le n⟩, trivial⟩
theorem spec_Earliest_ok (n : Nat) : EntOk Try.prog (ents n) (spec_Earliest_ent n) := by
  intro hs ar y hg h
  replace h : spec_Earliest_D n ar = some y := h
  unfold spec_Earliest_D at h
  replace h := ocons_some h
  obtain ⟨a0, r0, rfl, h⟩ := h
  replace h := ocons_some h
  obtain ⟨a1, r1, rfl, h⟩ := h
  replace h := ocons_some h
  obtain ⟨a2, r2, rfl, h⟩ := h
  replace h := ocons_some h
  obtain ⟨a3, r3, rfl, h⟩ := h
  replace h := onil_some h
  obtain ⟨rfl, h⟩ := h
  obtain ⟨legs0, qh0, h⟩ := obind_some h
  obtain ⟨from1, qh1, h⟩ := obind_some h
  obtain ⟨at2, qh2, h⟩ := obind_some h
  obtain ⟨change3, qh3, h⟩ := obind_some h
  rw [argV_eq ok qh0, argV_eq ok qh1, argV_eq ok qh2, argV_eq ok qh3]
  exact call_of (phiE_nat _ _) hs ok mixed Try.func72 (c := spec_Earliest_code) (by kernel_rfl) (spec_Earliest_lo n) (by kernel_rfl) (by kernel_rfl) (by kernel_rfl) spec_Earliest_de ((spec_Earliest_tie n legs0 from1 at2 change3).trans h)
abbrev spec_l22Seek_Phi (n : Nat) (rc : List SLeg → List Int → Int → Int → Int → Int → Int → Int → Int → Option (List Int × Bool)) {R : Type} (g : Nat) (ar : List (A T)) (K : Res T → Option R) : Option R := PhiR (T := T) (PhiE (ents n) 9) 74 [] (spec_l22Seek_Dr rc) spec_l22Seek_enc g ar K
noncomputable def spec_l22Seek_code : Code := match Try.f74.body with | some c => c | none => .skip
def spec_l22Seek_2_sv : List Sv := [.one (.arr 41), .one (.arr 3), .one (.int .i64), .one (.int .i64), .one (.int .i64), .one (.int .i64), .one (.int .i64), .one (.int .i64), .one (.int .i64), .one (.int .i64)]
def spec_l22Seek_2_so : List So := []
def spec_l22Seek_2_emb (c : List SLeg × List Int × Int × Int × Int × Int × Int × Int × Int) (x : Int) : EVs T spec_l22Seek_2_sv × EOs T spec_l22Seek_2_so := ((c.1, c.2.1, c.2.2.1, c.2.2.2.1, c.2.2.2.2.1, c.2.2.2.2.2.1, c.2.2.2.2.2.2.1, c.2.2.2.2.2.2.2.1, c.2.2.2.2.2.2.2.2, x, ()), ())
def spec_l22Seek_2_prj (y : EVs T spec_l22Seek_2_sv × EOs T spec_l22Seek_2_so) : (List SLeg × List Int × Int × Int × Int × Int × Int × Int × Int) × Int := ((y.1.1, y.1.2.1, y.1.2.2.1, y.1.2.2.2.1, y.1.2.2.2.2.1, y.1.2.2.2.2.2.1, y.1.2.2.2.2.2.2.1, y.1.2.2.2.2.2.2.2.1, y.1.2.2.2.2.2.2.2.2.1), (y.1.2.2.2.2.2.2.2.2.2.1))
def spec_l22Seek_2_b (n : Nat) (rc : List SLeg → List Int → Int → Int → Int → Int → Int → Int → Int → Option (List Int × Bool)) {R : Type} (K : Ex → Sm.St T → Option R) (c : List SLeg × List Int × Int × Int × Int × Int × Int × Int × Int) (x : Int) (J : Int → Option R) : Option R :=
  spec_l22Seek_L2 n rc (K (.exit 0) (stOf (T := T) [] [] [] [] () ())) (fun (y0 : Bool) (y1 : List Int) => K .ret (stOf (T := T) [18, 19] [3000000] [.one (.own 3000000 3 false), .one (.bool)] [.arr 3 false] ((), y0, ()) (y1, ()))) J c.1 c.2.1 c.2.2.1 c.2.2.2.1 c.2.2.2.2.1 c.2.2.2.2.2.1 c.2.2.2.2.2.2.1 c.2.2.2.2.2.2.2.1 c.2.2.2.2.2.2.2.2 x
def spec_l22Seek_2_sp (n : Nat) (rc : List SLeg → List Int → Int → Int → Int → Int → Int → Int → Int → Option (List Int × Bool)) : LSpec T := mkSpec T ⟨[], [0, 1, 2, 3, 4, 5, 6, 7, 8, 20], []⟩ spec_l22Seek_2_sv spec_l22Seek_2_so (List SLeg × List Int × Int × Int × Int × Int × Int × Int × Int) (Int) spec_l22Seek_2_emb spec_l22Seek_2_prj (spec_l22Seek_2_b n rc)
noncomputable def spec_l22Seek_2_c : Code := ((loopCodes spec_l22Seek_code)[0]?).getD .skip
def spec_l22Seek_ann : Ann := fun id => bif Nat.beq id 3000002 then some ⟨[], [], []⟩ else bif Nat.beq id 2000002 then some ⟨[((.reg 18), 3000000, 3)], [18, 19], [3000000]⟩ else none
def spec_l22Seek_Ls (n : Nat) (rc : List SLeg → List Int → Int → Int → Int → Int → Int → Int → Int → Option (List Int × Bool)) : Nat → Option (LSpec T) := fun id => bif Nat.beq id 2 then some (spec_l22Seek_2_sp n rc) else none
theorem spec_l22Seek_2_le (n : Nat) (rc : List SLeg → List Int → Int → Int → Int → Int → Int → Int → Int → Option (List Int × Bool)) : LoopEq (T := T) (spec_l22Seek_Phi n rc) (spec_l22Seek_Ls n rc) spec_l22Seek_ann n spec_l22Seek_2_c (spec_l22Seek_2_sp n rc) := ⟨mkSpec_dec (fun y => rfl), fun c x => by kernel_rfl, fun K J c x => by kernel_rfl⟩
theorem spec_l22Seek_tie (n : Nat) (rc : List SLeg → List Int → Int → Int → Int → Int → Int → Int → Int → Option (List Int × Bool)) (legs0 : List SLeg) (so1 : List Int) (port2 : Int) (at3 : Int) (service4 : Int) (to5 : Int) (when6 : Int) (change7 : Int) (left8 : Int) : evF (T := T) (spec_l22Seek_Phi n rc) (spec_l22Seek_Ls n rc) spec_l22Seek_ann n Try.f74 (sg 74) [vA T 27 legs0, vA T 24 so1, vA T 3 port2, vA T 3 at3, vA T 3 service4, vA T 3 to5, vA T 3 when6, vA T 3 change7, vA T 3 left8] spec_l22Seek_dec = spec_l22Seek_b n rc legs0 so1 port2 at3 service4 to5 when6 change7 left8 := by kernel_rfl
theorem spec_l22Seek_lo (n : Nat) (rc : List SLeg → List Int → Int → Int → Int → Int → Int → Int → Int → Option (List Int × Bool)) : LoopsOk (T := T) (spec_l22Seek_Phi n rc) (spec_l22Seek_Ls n rc) spec_l22Seek_ann n spec_l22Seek_code := loopsOk_all (cs := [spec_l22Seek_2_c]) (by kernel_rfl) ⟨⟨_, by kernel_rfl, spec_l22Seek_2_le n rc⟩, trivial⟩
theorem spec_l22Seek_okr (n : Nat) (hs : SemOk (PhiE (T := T) (ents n) 9) (CallOk Try.prog T)) : ∀ m ar y, natsEq (fnsOf ar) [] = true → spec_l22Seek_Dr (spec_l22Seek_r n m) ar = some y → CallOk Try.prog T 74 ar (spec_l22Seek_enc y) := by
  intro m
  induction m with
  | zero =>
    intro ar y hg h
    unfold spec_l22Seek_Dr at h
    replace h := ocons_some h
    obtain ⟨a0, r0, rfl, h⟩ := h
    replace h := ocons_some h
    obtain ⟨a1, r1, rfl, h⟩ := h
    replace h := ocons_some h
    obtain ⟨a2, r2, rfl, h⟩ := h
    replace h := ocons_some h
    obtain ⟨a3, r3, rfl, h⟩ := h
    replace h := ocons_some h
    obtain ⟨a4, r4, rfl, h⟩ := h
    replace h := ocons_some h
    obtain ⟨a5, r5, rfl, h⟩ := h
    replace h := ocons_some h
    obtain ⟨a6, r6, rfl, h⟩ := h
    replace h := ocons_some h
    obtain ⟨a7, r7, rfl, h⟩ := h
    replace h := ocons_some h
    obtain ⟨a8, r8, rfl, h⟩ := h
    replace h := onil_some h
    obtain ⟨rfl, h⟩ := h
    obtain ⟨legs0, qh0, h⟩ := obind_some h
    obtain ⟨so1, qh1, h⟩ := obind_some h
    obtain ⟨port2, qh2, h⟩ := obind_some h
    obtain ⟨at3, qh3, h⟩ := obind_some h
    obtain ⟨service4, qh4, h⟩ := obind_some h
    obtain ⟨to5, qh5, h⟩ := obind_some h
    obtain ⟨when6, qh6, h⟩ := obind_some h
    obtain ⟨change7, qh7, h⟩ := obind_some h
    obtain ⟨left8, qh8, h⟩ := obind_some h
    rw [argV_eq ok qh0, argV_eq ok qh1, argV_eq ok qh2, argV_eq ok qh3, argV_eq ok qh4, argV_eq ok qh5, argV_eq ok qh6, argV_eq ok qh7, argV_eq ok qh8]
    exact nomatch (show (none : Option (List Int × Bool)) = some y from h)
  | succ m ih =>
    intro ar y hg h
    unfold spec_l22Seek_Dr at h
    replace h := ocons_some h
    obtain ⟨a0, r0, rfl, h⟩ := h
    replace h := ocons_some h
    obtain ⟨a1, r1, rfl, h⟩ := h
    replace h := ocons_some h
    obtain ⟨a2, r2, rfl, h⟩ := h
    replace h := ocons_some h
    obtain ⟨a3, r3, rfl, h⟩ := h
    replace h := ocons_some h
    obtain ⟨a4, r4, rfl, h⟩ := h
    replace h := ocons_some h
    obtain ⟨a5, r5, rfl, h⟩ := h
    replace h := ocons_some h
    obtain ⟨a6, r6, rfl, h⟩ := h
    replace h := ocons_some h
    obtain ⟨a7, r7, rfl, h⟩ := h
    replace h := ocons_some h
    obtain ⟨a8, r8, rfl, h⟩ := h
    replace h := onil_some h
    obtain ⟨rfl, h⟩ := h
    obtain ⟨legs0, qh0, h⟩ := obind_some h
    obtain ⟨so1, qh1, h⟩ := obind_some h
    obtain ⟨port2, qh2, h⟩ := obind_some h
    obtain ⟨at3, qh3, h⟩ := obind_some h
    obtain ⟨service4, qh4, h⟩ := obind_some h
    obtain ⟨to5, qh5, h⟩ := obind_some h
    obtain ⟨when6, qh6, h⟩ := obind_some h
    obtain ⟨change7, qh7, h⟩ := obind_some h
    obtain ⟨left8, qh8, h⟩ := obind_some h
    rw [argV_eq ok qh0, argV_eq ok qh1, argV_eq ok qh2, argV_eq ok qh3, argV_eq ok qh4, argV_eq ok qh5, argV_eq ok qh6, argV_eq ok qh7, argV_eq ok qh8]
    exact call_of (phiR_nat (phiE_nat _ _) _ _ _ _) (phiR_ok hs ih) ok mixed Try.func74 (c := spec_l22Seek_code) (by kernel_rfl) (spec_l22Seek_lo n (spec_l22Seek_r n m)) (by kernel_rfl) (by kernel_rfl) (by kernel_rfl) spec_l22Seek_de ((spec_l22Seek_tie n (spec_l22Seek_r n m) legs0 so1 port2 at3 service4 to5 when6 change7 left8).trans h)
theorem spec_l22Seek_ok (n : Nat) : EntOk Try.prog (ents n) (spec_l22Seek_ent n) := fun hs ar y hg h => spec_l22Seek_okr n hs n ar y hg h
noncomputable def spec_Travel_code : Code := match Try.f13.body with | some c => c | none => .skip
def spec_Travel_7_sv : List Sv := [.one (.arr 41), .one (.int .i64), .one (.int .i64), .one (.int .i64), .one (.int .i64), .one (.own 3000000 3 false), .one (.int .i64)]
def spec_Travel_7_so : List So := [.arr 3 false]
def spec_Travel_7_emb (c : List SLeg × Int × Int × Int × Int × List Int) (x : Int) : EVs T spec_Travel_7_sv × EOs T spec_Travel_7_so := ((c.1, c.2.1, c.2.2.1, c.2.2.2.1, c.2.2.2.2.1, (), x, ()), (c.2.2.2.2.2, ()))
def spec_Travel_7_prj (y : EVs T spec_Travel_7_sv × EOs T spec_Travel_7_so) : (List SLeg × Int × Int × Int × Int × List Int) × Int := ((y.1.1, y.1.2.1, y.1.2.2.1, y.1.2.2.2.1, y.1.2.2.2.2.1, y.2.1), (y.1.2.2.2.2.2.2.1))
def spec_Travel_7_b (n : Nat) {R : Type} (K : Ex → Sm.St T → Option R) (c : List SLeg × Int × Int × Int × Int × List Int) (x : Int) (J : Int → Option R) : Option R :=
  spec_Travel_L7 n (K (.exit 0) (stOf (T := T) [] [] [] [] () ())) (fun (y0 : Bool) (y1 : List Int) => K .ret (stOf (T := T) [10, 11] [3000001] [.one (.own 3000001 3 false), .one (.bool)] [.arr 3 false] ((), y0, ()) (y1, ()))) J c.1 c.2.1 c.2.2.1 c.2.2.2.1 c.2.2.2.2.1 x c.2.2.2.2.2
def spec_Travel_7_sp (n : Nat) : LSpec T := mkSpec T ⟨[((.reg 12), 3000000, 3)], [0, 1, 2, 3, 4, 12, 14], [3000000]⟩ spec_Travel_7_sv spec_Travel_7_so (List SLeg × Int × Int × Int × Int × List Int) (Int) spec_Travel_7_emb spec_Travel_7_prj (spec_Travel_7_b n)
noncomputable def spec_Travel_7_c : Code := ((loopCodes spec_Travel_code)[0]?).getD .skip
def spec_Travel_ann : Ann := fun id => bif Nat.beq id 3000007 then some ⟨[], [], []⟩ else bif Nat.beq id 2000007 then some ⟨[((.reg 10), 3000001, 3)], [10, 11], [3000001]⟩ else none
def spec_Travel_Ls (n : Nat) : Nat → Option (LSpec T) := fun id => bif Nat.beq id 7 then some (spec_Travel_7_sp n) else none
theorem spec_Travel_7_le (n : Nat) : LoopEq (T := T) (Phi n 10) (spec_Travel_Ls n) spec_Travel_ann n spec_Travel_7_c (spec_Travel_7_sp n) := ⟨mkSpec_dec (fun y => rfl), fun c x => by kernel_rfl, fun K J c x => by kernel_rfl⟩
theorem spec_Travel_tie (n : Nat) (legs0 : List SLeg) (from1 : Int) (to2 : Int) (at3 : Int) (change4 : Int) : evF (T := T) (Phi n 10) (spec_Travel_Ls n) spec_Travel_ann n Try.f13 (sg 13) [vA T 27 legs0, vA T 3 from1, vA T 3 to2, vA T 3 at3, vA T 3 change4] spec_Travel_dec = spec_Travel n legs0 from1 to2 at3 change4 := by kernel_rfl
theorem spec_Travel_lo (n : Nat) : LoopsOk (T := T) (Phi n 10) (spec_Travel_Ls n) spec_Travel_ann n spec_Travel_code := loopsOk_all (cs := [spec_Travel_7_c]) (by kernel_rfl) ⟨⟨_, by kernel_rfl, spec_Travel_7_le n⟩, trivial⟩
theorem spec_Travel_ok (n : Nat) : EntOk Try.prog (ents n) (spec_Travel_ent n) := by
  intro hs ar y hg h
  replace h : spec_Travel_D n ar = some y := h
  unfold spec_Travel_D at h
  replace h := ocons_some h
  obtain ⟨a0, r0, rfl, h⟩ := h
  replace h := ocons_some h
  obtain ⟨a1, r1, rfl, h⟩ := h
  replace h := ocons_some h
  obtain ⟨a2, r2, rfl, h⟩ := h
  replace h := ocons_some h
  obtain ⟨a3, r3, rfl, h⟩ := h
  replace h := ocons_some h
  obtain ⟨a4, r4, rfl, h⟩ := h
  replace h := onil_some h
  obtain ⟨rfl, h⟩ := h
  obtain ⟨legs0, qh0, h⟩ := obind_some h
  obtain ⟨from1, qh1, h⟩ := obind_some h
  obtain ⟨to2, qh2, h⟩ := obind_some h
  obtain ⟨at3, qh3, h⟩ := obind_some h
  obtain ⟨change4, qh4, h⟩ := obind_some h
  rw [argV_eq ok qh0, argV_eq ok qh1, argV_eq ok qh2, argV_eq ok qh3, argV_eq ok qh4]
  exact call_of (phiE_nat _ _) hs ok mixed Try.func13 (c := spec_Travel_code) (by kernel_rfl) (spec_Travel_lo n) (by kernel_rfl) (by kernel_rfl) (by kernel_rfl) spec_Travel_de ((spec_Travel_tie n legs0 from1 to2 at3 change4).trans h)
noncomputable def impl_in_code : Code := match Try.f87.body with | some c => c | none => .skip
def impl_in_ann : Ann := fun id => none
def impl_in_Ls (n : Nat) : Nat → Option (LSpec T) := fun id => none
theorem impl_in_tie (n : Nat) (n0 : Int) (least1 : Int) (most2 : Int) : evF (T := T) (Phi n 11) (impl_in_Ls n) impl_in_ann n Try.f87 (sg 87) [vA T 3 n0, vA T 3 least1, vA T 3 most2] impl_in_dec = impl_in n n0 least1 most2 := by kernel_rfl
theorem impl_in_lo (n : Nat) : LoopsOk (T := T) (Phi n 11) (impl_in_Ls n) impl_in_ann n impl_in_code := loopsOk_all (cs := []) (by kernel_rfl) trivial
theorem impl_in_ok (n : Nat) : EntOk Try.prog (ents n) (impl_in_ent n) := by
  intro hs ar y hg h
  replace h : impl_in_D n ar = some y := h
  unfold impl_in_D at h
  replace h := ocons_some h
  obtain ⟨a0, r0, rfl, h⟩ := h
  replace h := ocons_some h
  obtain ⟨a1, r1, rfl, h⟩ := h
  replace h := ocons_some h
  obtain ⟨a2, r2, rfl, h⟩ := h
  replace h := onil_some h
  obtain ⟨rfl, h⟩ := h
  obtain ⟨n0, qh0, h⟩ := obind_some h
  obtain ⟨least1, qh1, h⟩ := obind_some h
  obtain ⟨most2, qh2, h⟩ := obind_some h
  rw [argV_eq ok qh0, argV_eq ok qh1, argV_eq ok qh2]
  exact call_of (phiE_nat _ _) hs ok mixed Try.func87 (c := impl_in_code) (by kernel_rfl) (impl_in_lo n) (by kernel_rfl) (by kernel_rfl) (by kernel_rfl) impl_in_de ((impl_in_tie n n0 least1 most2).trans h)
noncomputable def impl_linePort_code : Code := match Try.f76.body with | some c => c | none => .skip
def impl_linePort_ann : Ann := fun id => none
def impl_linePort_Ls (n : Nat) : Nat → Option (LSpec T) := fun id => none
theorem impl_linePort_tie (n : Nat) (n0 : Int) : evF (T := T) (Phi n 12) (impl_linePort_Ls n) impl_linePort_ann n Try.f76 (sg 76) [vA T 3 n0] impl_linePort_dec = impl_linePort n n0 := by kernel_rfl
theorem impl_linePort_lo (n : Nat) : LoopsOk (T := T) (Phi n 12) (impl_linePort_Ls n) impl_linePort_ann n impl_linePort_code := loopsOk_all (cs := []) (by kernel_rfl) trivial
theorem impl_linePort_ok (n : Nat) : EntOk Try.prog (ents n) (impl_linePort_ent n) := by
  intro hs ar y hg h
  replace h : impl_linePort_D n ar = some y := h
  unfold impl_linePort_D at h
  replace h := ocons_some h
  obtain ⟨a0, r0, rfl, h⟩ := h
  replace h := onil_some h
  obtain ⟨rfl, h⟩ := h
  obtain ⟨n0, qh0, h⟩ := obind_some h
  rw [argV_eq ok qh0]
  exact call_of (phiE_nat _ _) hs ok mixed Try.func76 (c := impl_linePort_code) (by kernel_rfl) (impl_linePort_lo n) (by kernel_rfl) (by kernel_rfl) (by kernel_rfl) impl_linePort_de ((impl_linePort_tie n n0).trans h)
noncomputable def impl_minuteOk_code : Code := match Try.f88.body with | some c => c | none => .skip
def impl_minuteOk_ann : Ann := fun id => none
def impl_minuteOk_Ls (n : Nat) : Nat → Option (LSpec T) := fun id => none
theorem impl_minuteOk_tie (n : Nat) (n0 : Int) : evF (T := T) (Phi n 13) (impl_minuteOk_Ls n) impl_minuteOk_ann n Try.f88 (sg 88) [vA T 3 n0] impl_minuteOk_dec = impl_minuteOk n n0 := by kernel_rfl
theorem impl_minuteOk_lo (n : Nat) : LoopsOk (T := T) (Phi n 13) (impl_minuteOk_Ls n) impl_minuteOk_ann n impl_minuteOk_code := loopsOk_all (cs := []) (by kernel_rfl) trivial
theorem impl_minuteOk_ok (n : Nat) : EntOk Try.prog (ents n) (impl_minuteOk_ent n) := by
  intro hs ar y hg h
  replace h : impl_minuteOk_D n ar = some y := h
  unfold impl_minuteOk_D at h
  replace h := ocons_some h
  obtain ⟨a0, r0, rfl, h⟩ := h
  replace h := onil_some h
  obtain ⟨rfl, h⟩ := h
  obtain ⟨n0, qh0, h⟩ := obind_some h
  rw [argV_eq ok qh0]
  exact call_of (phiE_nat _ _) hs ok mixed Try.func88 (c := impl_minuteOk_code) (by kernel_rfl) (impl_minuteOk_lo n) (by kernel_rfl) (by kernel_rfl) (by kernel_rfl) impl_minuteOk_de ((impl_minuteOk_tie n n0).trans h)
noncomputable def impl_LegsOk_code : Code := match Try.f25.body with | some c => c | none => .skip
def impl_LegsOk_5_sv : List Sv := [.one (.map 88), .one (.arr 41), .one (.int .i64), .one (.int .i64)]
def impl_LegsOk_5_so : List So := [.map 3 41]
def impl_LegsOk_5_emb (c : List SLeg × Int) (x : Int × (List (Int × SLeg))) : EVs T impl_LegsOk_5_sv × EOs T impl_LegsOk_5_so := (((), c.1, c.2, x.1, ()), (x.2, ()))
def impl_LegsOk_5_prj (y : EVs T impl_LegsOk_5_sv × EOs T impl_LegsOk_5_so) : (List SLeg × Int) × (Int × (List (Int × SLeg))) := ((y.1.2.1, y.1.2.2.1), (y.1.2.2.2.1, y.2.1))
def impl_LegsOk_5_b (n : Nat) {R : Type} (K : Ex → Sm.St T → Option R) (c : List SLeg × Int) (x : Int × (List (Int × SLeg))) (J : (Int × (List (Int × SLeg))) → Option R) : Option R :=
  impl_LegsOk_L5 n (K (.exit 0) (stOf (T := T) [] [] [] [] () ())) (fun (y0 : Bool) => K .ret (stOf (T := T) [2] [] [.one (.bool)] [] (y0, ()) ())) (fun z0 z1 => J (z0, z1)) c.1 c.2 x.1 x.2
def impl_LegsOk_5_sp (n : Nat) : LSpec T := mkSpec T ⟨[], [3, 12, 13, 14], [88]⟩ impl_LegsOk_5_sv impl_LegsOk_5_so (List SLeg × Int) (Int × (List (Int × SLeg))) impl_LegsOk_5_emb impl_LegsOk_5_prj (impl_LegsOk_5_b n)
noncomputable def impl_LegsOk_5_c : Code := ((loopCodes impl_LegsOk_code)[0]?).getD .skip
def impl_LegsOk_ann : Ann := fun id => bif Nat.beq id 3000005 then some ⟨[], [], []⟩ else bif Nat.beq id 2000005 then some ⟨[], [2], []⟩ else none
def impl_LegsOk_Ls (n : Nat) : Nat → Option (LSpec T) := fun id => bif Nat.beq id 5 then some (impl_LegsOk_5_sp n) else none
theorem impl_LegsOk_5_le (n : Nat) : LoopEq (T := T) (Phi n 14) (impl_LegsOk_Ls n) impl_LegsOk_ann n impl_LegsOk_5_c (impl_LegsOk_5_sp n) := ⟨mkSpec_dec (fun y => rfl), fun c x => by kernel_rfl, fun K J c x => by kernel_rfl⟩
theorem impl_LegsOk_tie (n : Nat) (legs0 : List SLeg) : evF (T := T) (Phi n 14) (impl_LegsOk_Ls n) impl_LegsOk_ann n Try.f25 (sg 25) [vA T 27 legs0] impl_LegsOk_dec = impl_LegsOk n legs0 := by kernel_rfl
theorem impl_LegsOk_lo (n : Nat) : LoopsOk (T := T) (Phi n 14) (impl_LegsOk_Ls n) impl_LegsOk_ann n impl_LegsOk_code := loopsOk_all (cs := [impl_LegsOk_5_c]) (by kernel_rfl) ⟨⟨_, by kernel_rfl, impl_LegsOk_5_le n⟩, trivial⟩
theorem impl_LegsOk_ok (n : Nat) : EntOk Try.prog (ents n) (impl_LegsOk_ent n) := by
  intro hs ar y hg h
  replace h : impl_LegsOk_D n ar = some y := h
  unfold impl_LegsOk_D at h
  replace h := ocons_some h
  obtain ⟨a0, r0, rfl, h⟩ := h
  replace h := onil_some h
  obtain ⟨rfl, h⟩ := h
  obtain ⟨legs0, qh0, h⟩ := obind_some h
  rw [argV_eq ok qh0]
  exact call_of (phiE_nat _ _) hs ok mixed Try.func25 (c := impl_LegsOk_code) (by kernel_rfl) (impl_LegsOk_lo n) (by kernel_rfl) (by kernel_rfl) (by kernel_rfl) impl_LegsOk_de ((impl_LegsOk_tie n legs0).trans h)
noncomputable def impl_lineRight_code : Code := match Try.f83.body with | some c => c | none => .skip
def impl_lineRight_ann : Ann := fun id => none
def impl_lineRight_Ls (n : Nat) : Nat → Option (LSpec T) := fun id => none
theorem impl_lineRight_tie (n : Nat) (legs0 : List SLeg) (from1 : Int) (at2 : Int) (change3 : Int) : evF (T := T) (Phi n 15) (impl_lineRight_Ls n) impl_lineRight_ann n Try.f83 (sg 83) [vA T 27 legs0, vA T 3 from1, vA T 3 at2, vA T 3 change3] impl_lineRight_dec = impl_lineRight n legs0 from1 at2 change3 := by kernel_rfl
theorem impl_lineRight_lo (n : Nat) : LoopsOk (T := T) (Phi n 15) (impl_lineRight_Ls n) impl_lineRight_ann n impl_lineRight_code := loopsOk_all (cs := []) (by kernel_rfl) trivial
theorem impl_lineRight_ok (n : Nat) : EntOk Try.prog (ents n) (impl_lineRight_ent n) := by
  intro hs ar y hg h
  replace h : impl_lineRight_D n ar = some y := h
  unfold impl_lineRight_D at h
  replace h := ocons_some h
  obtain ⟨a0, r0, rfl, h⟩ := h
  replace h := ocons_some h
  obtain ⟨a1, r1, rfl, h⟩ := h
  replace h := ocons_some h
  obtain ⟨a2, r2, rfl, h⟩ := h
  replace h := ocons_some h
  obtain ⟨a3, r3, rfl, h⟩ := h
  replace h := onil_some h
  obtain ⟨rfl, h⟩ := h
  obtain ⟨legs0, qh0, h⟩ := obind_some h
  obtain ⟨from1, qh1, h⟩ := obind_some h
  obtain ⟨at2, qh2, h⟩ := obind_some h
  obtain ⟨change3, qh3, h⟩ := obind_some h
  rw [argV_eq ok qh0, argV_eq ok qh1, argV_eq ok qh2, argV_eq ok qh3]
  exact call_of (phiE_nat _ _) hs ok mixed Try.func83 (c := impl_lineRight_code) (by kernel_rfl) (impl_lineRight_lo n) (by kernel_rfl) (by kernel_rfl) (by kernel_rfl) impl_lineRight_de ((impl_lineRight_tie n legs0 from1 at2 change3).trans h)
noncomputable def cmp_isNaN_int_code : Code := match Try.f168.body with | some c => c | none => .skip
def cmp_isNaN_int_ann : Ann := fun id => none
def cmp_isNaN_int_Ls (n : Nat) : Nat → Option (LSpec T) := fun id => none
theorem cmp_isNaN_int_tie (n : Nat) (x0 : Int) : evF (T := T) (Phi n 16) (cmp_isNaN_int_Ls n) cmp_isNaN_int_ann n Try.f168 (sg 168) [vA T 3 x0] cmp_isNaN_int_dec = cmp_isNaN_int n x0 := by kernel_rfl
theorem cmp_isNaN_int_lo (n : Nat) : LoopsOk (T := T) (Phi n 16) (cmp_isNaN_int_Ls n) cmp_isNaN_int_ann n cmp_isNaN_int_code := loopsOk_all (cs := []) (by kernel_rfl) trivial
theorem cmp_isNaN_int_ok (n : Nat) : EntOk Try.prog (ents n) (cmp_isNaN_int_ent n) := by
  intro hs ar y hg h
  replace h : cmp_isNaN_int_D n ar = some y := h
  unfold cmp_isNaN_int_D at h
  replace h := ocons_some h
  obtain ⟨a0, r0, rfl, h⟩ := h
  replace h := onil_some h
  obtain ⟨rfl, h⟩ := h
  obtain ⟨x0, qh0, h⟩ := obind_some h
  rw [argV_eq ok qh0]
  exact call_of (phiE_nat _ _) hs ok mixed Try.func168 (c := cmp_isNaN_int_code) (by kernel_rfl) (cmp_isNaN_int_lo n) (by kernel_rfl) (by kernel_rfl) (by kernel_rfl) cmp_isNaN_int_de ((cmp_isNaN_int_tie n x0).trans h)
noncomputable def cmp_Compare_int_code : Code := match Try.f86.body with | some c => c | none => .skip
def cmp_Compare_int_ann : Ann := fun id => none
def cmp_Compare_int_Ls (n : Nat) : Nat → Option (LSpec T) := fun id => none
theorem cmp_Compare_int_tie (n : Nat) (x0 : Int) (y1 : Int) : evF (T := T) (Phi n 17) (cmp_Compare_int_Ls n) cmp_Compare_int_ann n Try.f86 (sg 86) [vA T 3 x0, vA T 3 y1] cmp_Compare_int_dec = cmp_Compare_int n x0 y1 := by kernel_rfl
theorem cmp_Compare_int_lo (n : Nat) : LoopsOk (T := T) (Phi n 17) (cmp_Compare_int_Ls n) cmp_Compare_int_ann n cmp_Compare_int_code := loopsOk_all (cs := []) (by kernel_rfl) trivial
theorem cmp_Compare_int_ok (n : Nat) : EntOk Try.prog (ents n) (cmp_Compare_int_ent n) := by
  intro hs ar y hg h
  replace h : cmp_Compare_int_D n ar = some y := h
  unfold cmp_Compare_int_D at h
  replace h := ocons_some h
  obtain ⟨a0, r0, rfl, h⟩ := h
  replace h := ocons_some h
  obtain ⟨a1, r1, rfl, h⟩ := h
  replace h := onil_some h
  obtain ⟨rfl, h⟩ := h
  obtain ⟨x0, qh0, h⟩ := obind_some h
  obtain ⟨y1, qh1, h⟩ := obind_some h
  rw [argV_eq ok qh0, argV_eq ok qh1]
  exact call_of (phiE_nat _ _) hs ok mixed Try.func86 (c := cmp_Compare_int_code) (by kernel_rfl) (cmp_Compare_int_lo n) (by kernel_rfl) (by kernel_rfl) (by kernel_rfl) cmp_Compare_int_de ((cmp_Compare_int_tie n x0 y1).trans h)
noncomputable def impl_Earliest_1_code : Code := match Try.f85.body with | some c => c | none => .skip
def impl_Earliest_1_ann : Ann := fun id => none
def impl_Earliest_1_Ls (n : Nat) : Nat → Option (LSpec T) := fun id => none
theorem impl_Earliest_1_tie (n : Nat) (a0 : Int) (b1 : Int) (a2 : List SLeg) : evF (T := T) (Phi n 18) (impl_Earliest_1_Ls n) impl_Earliest_1_ann n Try.f85 (sg 85) [vA T 3 a0, vA T 3 b1, .ptr 27 a2] impl_Earliest_1_dec = impl_Earliest_1 n a0 b1 a2 := by kernel_rfl
theorem impl_Earliest_1_lo (n : Nat) : LoopsOk (T := T) (Phi n 18) (impl_Earliest_1_Ls n) impl_Earliest_1_ann n impl_Earliest_1_code := loopsOk_all (cs := []) (by kernel_rfl) trivial
theorem impl_Earliest_1_ok (n : Nat) : EntOk Try.prog (ents n) (impl_Earliest_1_ent n) := by
  intro hs ar y hg h
  replace h : impl_Earliest_1_D n ar = some y := h
  unfold impl_Earliest_1_D at h
  replace h := ocons_some h
  obtain ⟨a0, r0, rfl, h⟩ := h
  replace h := ocons_some h
  obtain ⟨a1, r1, rfl, h⟩ := h
  replace h := ocons_some h
  obtain ⟨a2, r2, rfl, h⟩ := h
  replace h := onil_some h
  obtain ⟨rfl, h⟩ := h
  obtain ⟨a0, qh0, h⟩ := obind_some h
  obtain ⟨b1, qh1, h⟩ := obind_some h
  obtain ⟨a2, qh2, h⟩ := obind_some h
  rw [argV_eq ok qh0, argV_eq ok qh1, argP_eq qh2]
  exact call_of (phiE_nat _ _) hs ok mixed Try.func85 (c := impl_Earliest_1_code) (by kernel_rfl) (impl_Earliest_1_lo n) (by kernel_rfl) (by kernel_rfl) (by kernel_rfl) impl_Earliest_1_de ((impl_Earliest_1_tie n a0 b1 a2).trans h)
theorem slices_SortFunc_int_int__impl_Earliest_1_cl (n : Nat) (x y : U 3) (c0 : List SLeg) : PhiE (T := T) (ents n) 19 85 [vA T 3 x, vA T 3 y, .ptr 27 c0] some = (impl_Earliest_1 n x y c0).bind fun r => some (impl_Earliest_1_enc r) := by kernel_rfl
theorem slices_SortFunc_int_int__impl_Earliest_1_ok (n : Nat) : EntOk Try.prog (ents n) (slices_SortFunc_int_int__impl_Earliest_1_ent n) := by
  intro hs ar y hg h
  replace h : slices_SortFunc_int_int__impl_Earliest_1_D n ar = some y := h
  unfold slices_SortFunc_int_int__impl_Earliest_1_D at h
  split at h
  · obtain ⟨l0, qh0, h⟩ := obind_some h
    obtain ⟨c0, qh1, h⟩ := obind_some h
    rw [argV_eq ok qh0, argP_eq qh1] at hg ⊢
    cases (show [_] = [85] from natsEq_eq hg)
    refine sortL1_call ok lay84 (e := 3) (g := 85) (caps := [.ptr 27 c0]) (by kernel_rfl) (by kernel_rfl) (by kernel_rfl) (by kernel_rfl) (by kernel_rfl) (fun x y c hc => ?_) h
    have h1 : PhiE (T := T) (ents n) 19 85 [vA T 3 x, vA T 3 y, .ptr 27 c0] some = some (impl_Earliest_1_enc c) := (slices_SortFunc_int_int__impl_Earliest_1_cl n x y c0).trans (by rw [show impl_Earliest_1 n x y c0 = some c from hc]; rfl)
    obtain ⟨res, h2, h3⟩ := hs _ _ _ _ h1
    cases h3
    exact h2
  · cases h
noncomputable def impl_changes_code : Code := match Try.f78.body with | some c => c | none => .skip
def impl_changes_ann : Ann := fun id => none
def impl_changes_Ls (n : Nat) : Nat → Option (LSpec T) := fun id => none
theorem impl_changes_tie (n : Nat) (i0 : SLeg) (j1 : SLeg) (change2 : Int) : evF (T := T) (Phi n 20) (impl_changes_Ls n) impl_changes_ann n Try.f78 (sg 78) [vA T 41 i0, vA T 41 j1, vA T 3 change2] impl_changes_dec = impl_changes n i0 j1 change2 := by kernel_rfl
theorem impl_changes_lo (n : Nat) : LoopsOk (T := T) (Phi n 20) (impl_changes_Ls n) impl_changes_ann n impl_changes_code := loopsOk_all (cs := []) (by kernel_rfl) trivial
theorem impl_changes_ok (n : Nat) : EntOk Try.prog (ents n) (impl_changes_ent n) := by
  intro hs ar y hg h
  replace h : impl_changes_D n ar = some y := h
  unfold impl_changes_D at h
  replace h := ocons_some h
  obtain ⟨a0, r0, rfl, h⟩ := h
  replace h := ocons_some h
  obtain ⟨a1, r1, rfl, h⟩ := h
  replace h := ocons_some h
  obtain ⟨a2, r2, rfl, h⟩ := h
  replace h := onil_some h
  obtain ⟨rfl, h⟩ := h
  obtain ⟨i0, qh0, h⟩ := obind_some h
  obtain ⟨j1, qh1, h⟩ := obind_some h
  obtain ⟨change2, qh2, h⟩ := obind_some h
  rw [argV_eq ok qh0, argV_eq ok qh1, argV_eq ok qh2]
  exact call_of (phiE_nat _ _) hs ok mixed Try.func78 (c := impl_changes_code) (by kernel_rfl) (impl_changes_lo n) (by kernel_rfl) (by kernel_rfl) (by kernel_rfl) impl_changes_de ((impl_changes_tie n i0 j1 change2).trans h)
noncomputable def impl_Earliest_code : Code := match Try.f24.body with | some c => c | none => .skip
def impl_Earliest_5_sv : List Sv := [.one (.int .i64), .one (.int .i64), .one (.int .i64), .one (.ptr 32 0 0), .one (.own 3000000 3 false), .one (.int .i64), .one (.int .i64)]
def impl_Earliest_5_so : List So := [.var [.arr 41], .arr 3 false]
def impl_Earliest_5_emb (c : Int × Int × Int × Int × List SLeg) (x : Int × List Int) : EVs T impl_Earliest_5_sv × EOs T impl_Earliest_5_so := ((c.1, c.2.1, c.2.2.1, (), (), c.2.2.2.1, x.1, ()), ((c.2.2.2.2, ()), x.2, ()))
def impl_Earliest_5_prj (y : EVs T impl_Earliest_5_sv × EOs T impl_Earliest_5_so) : (Int × Int × Int × Int × List SLeg) × (Int × List Int) := ((y.1.1, y.1.2.1, y.1.2.2.1, y.1.2.2.2.2.2.1, y.2.1.1), (y.1.2.2.2.2.2.2.1, y.2.2.1))
def impl_Earliest_5_b (n : Nat) {R : Type} (K : Ex → Sm.St T → Option R) (c : Int × Int × Int × Int × List SLeg) (x : Int × List Int) (J : (Int × List Int) → Option R) : Option R :=
  impl_Earliest_L5 n (fun (y4 : List Int) => K (.exit 0) (stOf (T := T) [1, 2, 3, 4, 10] [32, 3000000] [.one (.int .i64), .one (.int .i64), .one (.int .i64), .one (.ptr 32 0 0), .one (.own 3000000 3 false)] [.var [.arr 41], .arr 3 false] (c.1, c.2.1, c.2.2.1, (), (), ()) ((c.2.2.2.2, ()), y4, ()))) (fun z0 z1 => J (z0, z1)) c.1 c.2.1 c.2.2.1 c.2.2.2.1 x.1 c.2.2.2.2 x.2
def impl_Earliest_5_sp (n : Nat) : LSpec T := mkSpec T ⟨[((.reg 10), 3000000, 3)], [1, 2, 3, 4, 10, 27, 28], [32, 3000000]⟩ impl_Earliest_5_sv impl_Earliest_5_so (Int × Int × Int × Int × List SLeg) (Int × List Int) impl_Earliest_5_emb impl_Earliest_5_prj (impl_Earliest_5_b n)
noncomputable def impl_Earliest_5_c : Code := ((loopCodes impl_Earliest_code)[0]?).getD .skip
def impl_Earliest_12_sv : List Sv := [.one (.int .i64), .one (.int .i64), .one (.int .i64), .one (.ptr 32 0 0), .one (.own 3000000 3 false), .one (.own 3000001 3 false), .one (.int .i64), .one (.int .i64)]
def impl_Earliest_12_so : List So := [.var [.arr 41], .arr 3 false, .arr 3 false]
def impl_Earliest_12_emb (c : Int × Int × Int × Int × List SLeg × List Int) (x : Int × List Int) : EVs T impl_Earliest_12_sv × EOs T impl_Earliest_12_so := ((c.1, c.2.1, c.2.2.1, (), (), (), c.2.2.2.1, x.1, ()), ((c.2.2.2.2.1, ()), c.2.2.2.2.2, x.2, ()))
def impl_Earliest_12_prj (y : EVs T impl_Earliest_12_sv × EOs T impl_Earliest_12_so) : (Int × Int × Int × Int × List SLeg × List Int) × (Int × List Int) := ((y.1.1, y.1.2.1, y.1.2.2.1, y.1.2.2.2.2.2.2.1, y.2.1.1, y.2.2.1), (y.1.2.2.2.2.2.2.2.1, y.2.2.2.1))
def impl_Earliest_12_b (n : Nat) {R : Type} (K : Ex → Sm.St T → Option R) (c : Int × Int × Int × Int × List SLeg × List Int) (x : Int × List Int) (J : (Int × List Int) → Option R) : Option R :=
  impl_Earliest_L12 n (fun (y5 : List Int) => K (.exit 2) (stOf (T := T) [1, 2, 3, 4, 10, 12] [32, 3000000, 3000001] [.one (.int .i64), .one (.int .i64), .one (.int .i64), .one (.ptr 32 0 0), .one (.own 3000000 3 false), .one (.own 3000001 3 false)] [.var [.arr 41], .arr 3 false, .arr 3 false] (c.1, c.2.1, c.2.2.1, (), (), (), ()) ((c.2.2.2.2.1, ()), c.2.2.2.2.2, y5, ()))) (fun z0 z1 => J (z0, z1)) c.1 c.2.1 c.2.2.1 c.2.2.2.1 x.1 c.2.2.2.2.1 c.2.2.2.2.2 x.2
def impl_Earliest_12_sp (n : Nat) : LSpec T := mkSpec T ⟨[((.reg 10), 3000000, 3), ((.reg 12), 3000001, 3)], [1, 2, 3, 4, 10, 12, 43, 44], [32, 3000000, 3000001]⟩ impl_Earliest_12_sv impl_Earliest_12_so (Int × Int × Int × Int × List SLeg × List Int) (Int × List Int) impl_Earliest_12_emb impl_Earliest_12_prj (impl_Earliest_12_b n)
noncomputable def impl_Earliest_12_c : Code := ((loopCodes impl_Earliest_code)[1]?).getD .skip
def impl_Earliest_19_sv : List Sv := [.one (.int .i64), .one (.int .i64), .one (.int .i64), .one (.ptr 32 0 0), .one (.own 3000000 3 false), .one (.own 3000002 4 false), .one (.own 3000003 3 false), .one (.int .i64), .one (.int .i64)]
def impl_Earliest_19_so : List So := [.var [.arr 41], .arr 3 false, .arr 4 false, .arr 3 false]
def impl_Earliest_19_emb (c : Int × Int × Int × Int × List SLeg × List Int) (x : Int × List Int × List Bool) : EVs T impl_Earliest_19_sv × EOs T impl_Earliest_19_so := ((c.1, c.2.1, c.2.2.1, (), (), (), (), c.2.2.2.1, x.1, ()), ((c.2.2.2.2.1, ()), x.2.1, x.2.2, c.2.2.2.2.2, ()))
def impl_Earliest_19_prj (y : EVs T impl_Earliest_19_sv × EOs T impl_Earliest_19_so) : (Int × Int × Int × Int × List SLeg × List Int) × (Int × List Int × List Bool) := ((y.1.1, y.1.2.1, y.1.2.2.1, y.1.2.2.2.2.2.2.2.1, y.2.1.1, y.2.2.2.2.1), (y.1.2.2.2.2.2.2.2.2.1, y.2.2.1, y.2.2.2.1))
def impl_Earliest_19_b (n : Nat) {R : Type} (K : Ex → Sm.St T → Option R) (c : Int × Int × Int × Int × List SLeg × List Int) (x : Int × List Int × List Bool) (J : (Int × List Int × List Bool) → Option R) : Option R :=
  impl_Earliest_L19 n (fun (y0 : List Int) => K (.exit 4) (stOf (T := T) [10] [3000000] [.one (.own 3000000 3 false)] [.arr 3 false] ((), ()) (y0, ()))) (fun z0 z1 z2 => J (z0, z1, z2)) c.1 c.2.1 c.2.2.1 c.2.2.2.1 x.1 c.2.2.2.2.1 x.2.1 x.2.2 c.2.2.2.2.2
def impl_Earliest_19_sp (n : Nat) : LSpec T := mkSpec T ⟨[((.reg 10), 3000000, 3), ((.reg 14), 3000002, 4), ((.reg 58), 3000003, 3)], [1, 2, 3, 4, 10, 14, 58, 59, 60], [32, 3000000, 3000002, 3000003]⟩ impl_Earliest_19_sv impl_Earliest_19_so (Int × Int × Int × Int × List SLeg × List Int) (Int × List Int × List Bool) impl_Earliest_19_emb impl_Earliest_19_prj (impl_Earliest_19_b n)
noncomputable def impl_Earliest_19_c : Code := ((loopCodes impl_Earliest_code)[2]?).getD .skip
def impl_Earliest_24_sv : List Sv := [.one (.int .i64), .one (.int .i64), .one (.int .i64), .one (.ptr 32 0 0), .one (.own 3000000 3 false), .one (.own 3000002 4 false), .one (.int .i64), .one (.ptr 136 0 0), .one (.own 3000003 3 false), .one (.int .i64), .one (.int .i64), .one (.int .i64), .one (.int .i64)]
def impl_Earliest_24_so : List So := [.var [.arr 41], .arr 3 false, .arr 4 false, .var [.int .i64, .int .i64, .int .i64, .int .i64, .int .i64, .int .i64], .arr 3 false]
def impl_Earliest_24_emb (c : Int × Int × Int × Int × Int × Int × Int × List SLeg × List Int × SLeg × List Int) (x : Int × List Bool) : EVs T impl_Earliest_24_sv × EOs T impl_Earliest_24_so := ((c.1, c.2.1, c.2.2.1, (), (), (), c.2.2.2.1, (), (), c.2.2.2.2.1, c.2.2.2.2.2.1, c.2.2.2.2.2.2.1, x.1, ()), ((c.2.2.2.2.2.2.2.1, ()), c.2.2.2.2.2.2.2.2.1, x.2, (c.2.2.2.2.2.2.2.2.2.1.Service, c.2.2.2.2.2.2.2.2.2.1.From, c.2.2.2.2.2.2.2.2.2.1.To, c.2.2.2.2.2.2.2.2.2.1.Leaves, c.2.2.2.2.2.2.2.2.2.1.Comes, c.2.2.2.2.2.2.2.2.2.1.Room, ()), c.2.2.2.2.2.2.2.2.2.2, ()))
def impl_Earliest_24_prj (y : EVs T impl_Earliest_24_sv × EOs T impl_Earliest_24_so) : (Int × Int × Int × Int × Int × Int × Int × List SLeg × List Int × SLeg × List Int) × (Int × List Bool) := ((y.1.1, y.1.2.1, y.1.2.2.1, y.1.2.2.2.2.2.2.1, y.1.2.2.2.2.2.2.2.2.2.1, y.1.2.2.2.2.2.2.2.2.2.2.1, y.1.2.2.2.2.2.2.2.2.2.2.2.1, y.2.1.1, y.2.2.1, ((⟨y.2.2.2.2.1.1, y.2.2.2.2.1.2.1, y.2.2.2.2.1.2.2.1, y.2.2.2.2.1.2.2.2.1, y.2.2.2.2.1.2.2.2.2.1, y.2.2.2.2.1.2.2.2.2.2.1⟩ : SLeg) : SLeg), y.2.2.2.2.2.1), (y.1.2.2.2.2.2.2.2.2.2.2.2.2.1, y.2.2.2.1))
def impl_Earliest_24_b (n : Nat) {R : Type} (K : Ex → Sm.St T → Option R) (c : Int × Int × Int × Int × Int × Int × Int × List SLeg × List Int × SLeg × List Int) (x : Int × List Bool) (J : (Int × List Bool) → Option R) : Option R :=
  impl_Earliest_L24 n (fun (y8 : List Bool) => K (.exit 6) (stOf (T := T) [1, 2, 3, 4, 10, 14, 16, 17, 58, 59, 60] [32, 3000000, 3000002, 136, 3000003] [.one (.int .i64), .one (.int .i64), .one (.int .i64), .one (.ptr 32 0 0), .one (.own 3000000 3 false), .one (.own 3000002 4 false), .one (.int .i64), .one (.ptr 136 0 0), .one (.own 3000003 3 false), .one (.int .i64), .one (.int .i64)] [.var [.arr 41], .arr 3 false, .arr 4 false, .var [.int .i64, .int .i64, .int .i64, .int .i64, .int .i64, .int .i64], .arr 3 false] (c.1, c.2.1, c.2.2.1, (), (), (), c.2.2.2.1, (), (), c.2.2.2.2.1, c.2.2.2.2.2.1, ()) ((c.2.2.2.2.2.2.2.1, ()), c.2.2.2.2.2.2.2.2.1, y8, (c.2.2.2.2.2.2.2.2.2.1.Service, c.2.2.2.2.2.2.2.2.2.1.From, c.2.2.2.2.2.2.2.2.2.1.To, c.2.2.2.2.2.2.2.2.2.1.Leaves, c.2.2.2.2.2.2.2.2.2.1.Comes, c.2.2.2.2.2.2.2.2.2.1.Room, ()), c.2.2.2.2.2.2.2.2.2.2, ()))) (fun z0 z1 => J (z0, z1)) c.1 c.2.1 c.2.2.1 c.2.2.2.1 c.2.2.2.2.1 c.2.2.2.2.2.1 c.2.2.2.2.2.2.1 x.1 c.2.2.2.2.2.2.2.1 c.2.2.2.2.2.2.2.2.1 x.2 c.2.2.2.2.2.2.2.2.2.1 c.2.2.2.2.2.2.2.2.2.2
def impl_Earliest_24_sp (n : Nat) : LSpec T := mkSpec T ⟨[((.reg 10), 3000000, 3), ((.reg 14), 3000002, 4), ((.reg 58), 3000003, 3)], [1, 2, 3, 4, 10, 14, 16, 17, 58, 59, 60, 82, 83], [32, 3000000, 3000002, 136, 3000003]⟩ impl_Earliest_24_sv impl_Earliest_24_so (Int × Int × Int × Int × Int × Int × Int × List SLeg × List Int × SLeg × List Int) (Int × List Bool) impl_Earliest_24_emb impl_Earliest_24_prj (impl_Earliest_24_b n)
noncomputable def impl_Earliest_24_c : Code := ((loopCodes impl_Earliest_code)[3]?).getD .skip
def impl_Earliest_ann : Ann := fun id => bif Nat.beq id 3000005 then some ⟨[((.reg 10), 3000000, 3)], [1, 2, 3, 4, 10], [32, 3000000]⟩ else bif Nat.beq id 5000012 then some ⟨[((.reg 10), 3000000, 3), ((.reg 12), 3000001, 3)], [1, 2, 3, 4, 10, 12], [32, 3000000, 3000001]⟩ else bif Nat.beq id 7000019 then some ⟨[((.reg 10), 3000000, 3)], [10], [3000000]⟩ else bif Nat.beq id 9000024 then some ⟨[((.reg 10), 3000000, 3), ((.reg 14), 3000002, 4), ((.reg 58), 3000003, 3)], [1, 2, 3, 4, 10, 14, 16, 17, 58, 59, 60], [32, 3000000, 3000002, 136, 3000003]⟩ else none
def impl_Earliest_Ls (n : Nat) : Nat → Option (LSpec T) := fun id => bif Nat.beq id 5 then some (impl_Earliest_5_sp n) else bif Nat.beq id 12 then some (impl_Earliest_12_sp n) else bif Nat.beq id 19 then some (impl_Earliest_19_sp n) else bif Nat.beq id 24 then some (impl_Earliest_24_sp n) else none
theorem impl_Earliest_5_le (n : Nat) : LoopEq (T := T) (Phi n 21) (impl_Earliest_Ls n) impl_Earliest_ann n impl_Earliest_5_c (impl_Earliest_5_sp n) := ⟨mkSpec_dec (fun y => rfl), fun c x => by kernel_rfl, fun K J c x => by kernel_rfl⟩
theorem impl_Earliest_12_le (n : Nat) : LoopEq (T := T) (Phi n 21) (impl_Earliest_Ls n) impl_Earliest_ann n impl_Earliest_12_c (impl_Earliest_12_sp n) := ⟨mkSpec_dec (fun y => rfl), fun c x => by kernel_rfl, fun K J c x => by kernel_rfl⟩
theorem impl_Earliest_19_le (n : Nat) : LoopEq (T := T) (Phi n 21) (impl_Earliest_Ls n) impl_Earliest_ann n impl_Earliest_19_c (impl_Earliest_19_sp n) := ⟨mkSpec_dec (fun y => rfl), fun c x => by kernel_rfl, fun K J c x => by kernel_rfl⟩
theorem impl_Earliest_24_le (n : Nat) : LoopEq (T := T) (Phi n 21) (impl_Earliest_Ls n) impl_Earliest_ann n impl_Earliest_24_c (impl_Earliest_24_sp n) := ⟨mkSpec_dec (fun y => rfl), fun c x => by kernel_rfl, fun K J c x => by kernel_rfl⟩
theorem impl_Earliest_tie (n : Nat) (legs0 : List SLeg) (from1 : Int) (at2 : Int) (change3 : Int) : evF (T := T) (Phi n 21) (impl_Earliest_Ls n) impl_Earliest_ann n Try.f24 (sg 24) [vA T 27 legs0, vA T 3 from1, vA T 3 at2, vA T 3 change3] impl_Earliest_dec = impl_Earliest n legs0 from1 at2 change3 := by kernel_rfl
theorem impl_Earliest_lo (n : Nat) : LoopsOk (T := T) (Phi n 21) (impl_Earliest_Ls n) impl_Earliest_ann n impl_Earliest_code := loopsOk_all (cs := [impl_Earliest_5_c, impl_Earliest_12_c, impl_Earliest_19_c, impl_Earliest_24_c]) (by kernel_rfl) ⟨⟨_, by kernel_rfl, impl_Earliest_5_le n⟩, ⟨_, by kernel_rfl, impl_Earliest_12_le n⟩, ⟨_, by kernel_rfl, impl_Earliest_19_le n⟩, ⟨_, by kernel_rfl, impl_Earliest_24_le n⟩, trivial⟩
theorem impl_Earliest_ok (n : Nat) : EntOk Try.prog (ents n) (impl_Earliest_ent n) := by
  intro hs ar y hg h
  replace h : impl_Earliest_D n ar = some y := h
  unfold impl_Earliest_D at h
  replace h := ocons_some h
  obtain ⟨a0, r0, rfl, h⟩ := h
  replace h := ocons_some h
  obtain ⟨a1, r1, rfl, h⟩ := h
  replace h := ocons_some h
  obtain ⟨a2, r2, rfl, h⟩ := h
  replace h := ocons_some h
  obtain ⟨a3, r3, rfl, h⟩ := h
  replace h := onil_some h
  obtain ⟨rfl, h⟩ := h
  obtain ⟨legs0, qh0, h⟩ := obind_some h
  obtain ⟨from1, qh1, h⟩ := obind_some h
  obtain ⟨at2, qh2, h⟩ := obind_some h
  obtain ⟨change3, qh3, h⟩ := obind_some h
  rw [argV_eq ok qh0, argV_eq ok qh1, argV_eq ok qh2, argV_eq ok qh3]
  exact call_of (phiE_nat _ _) hs ok mixed Try.func24 (c := impl_Earliest_code) (by kernel_rfl) (impl_Earliest_lo n) (by kernel_rfl) (by kernel_rfl) (by kernel_rfl) impl_Earliest_de ((impl_Earliest_tie n legs0 from1 at2 change3).trans h)
noncomputable def impl_Travel_1_code : Code := match Try.f77.body with | some c => c | none => .skip
def impl_Travel_1_ann : Ann := fun id => none
def impl_Travel_1_Ls (n : Nat) : Nat → Option (LSpec T) := fun id => none
theorem impl_Travel_1_tie (n : Nat) (j0 : Int) (a1 : List Int) (a2 : List SLeg) (a3 : Int) (a4 : Int) (a5 : Int) : evF (T := T) (Phi n 22) (impl_Travel_1_Ls n) impl_Travel_1_ann n Try.f77 (sg 77) [vA T 3 j0, .ptr 24 a1, .ptr 27 a2, .ptr 3 a3, .ptr 3 a4, .ptr 3 a5] impl_Travel_1_dec = impl_Travel_1 n j0 a1 a2 a3 a4 a5 := by kernel_rfl
theorem impl_Travel_1_lo (n : Nat) : LoopsOk (T := T) (Phi n 22) (impl_Travel_1_Ls n) impl_Travel_1_ann n impl_Travel_1_code := loopsOk_all (cs := []) (by kernel_rfl) trivial
theorem impl_Travel_1_ok (n : Nat) : EntOk Try.prog (ents n) (impl_Travel_1_ent n) := by
  intro hs ar y hg h
  replace h : impl_Travel_1_D n ar = some y := h
  unfold impl_Travel_1_D at h
  replace h := ocons_some h
  obtain ⟨a0, r0, rfl, h⟩ := h
  replace h := ocons_some h
  obtain ⟨a1, r1, rfl, h⟩ := h
  replace h := ocons_some h
  obtain ⟨a2, r2, rfl, h⟩ := h
  replace h := ocons_some h
  obtain ⟨a3, r3, rfl, h⟩ := h
  replace h := ocons_some h
  obtain ⟨a4, r4, rfl, h⟩ := h
  replace h := ocons_some h
  obtain ⟨a5, r5, rfl, h⟩ := h
  replace h := onil_some h
  obtain ⟨rfl, h⟩ := h
  obtain ⟨j0, qh0, h⟩ := obind_some h
  obtain ⟨a1, qh1, h⟩ := obind_some h
  obtain ⟨a2, qh2, h⟩ := obind_some h
  obtain ⟨a3, qh3, h⟩ := obind_some h
  obtain ⟨a4, qh4, h⟩ := obind_some h
  obtain ⟨a5, qh5, h⟩ := obind_some h
  rw [argV_eq ok qh0, argP_eq qh1, argP_eq qh2, argP_eq qh3, argP_eq qh4, argP_eq qh5]
  exact call_of (phiE_nat _ _) hs ok mixed Try.func77 (c := impl_Travel_1_code) (by kernel_rfl) (impl_Travel_1_lo n) (by kernel_rfl) (by kernel_rfl) (by kernel_rfl) impl_Travel_1_de ((impl_Travel_1_tie n j0 a1 a2 a3 a4 a5).trans h)
noncomputable def impl_own_int_code : Code := match Try.f79.body with | some c => c | none => .skip
def impl_own_int_ann : Ann := fun id => none
def impl_own_int_Ls (n : Nat) : Nat → Option (LSpec T) := fun id => none
theorem impl_own_int_tie (n : Nat) (l0 : List Int) : evF (T := T) (Phi n 23) (impl_own_int_Ls n) impl_own_int_ann n Try.f79 (sg 79) [vA T 24 l0] impl_own_int_dec = impl_own_int n l0 := by kernel_rfl
theorem impl_own_int_lo (n : Nat) : LoopsOk (T := T) (Phi n 23) (impl_own_int_Ls n) impl_own_int_ann n impl_own_int_code := loopsOk_all (cs := []) (by kernel_rfl) trivial
theorem impl_own_int_ok (n : Nat) : EntOk Try.prog (ents n) (impl_own_int_ent n) := by
  intro hs ar y hg h
  replace h : impl_own_int_D n ar = some y := h
  unfold impl_own_int_D at h
  replace h := ocons_some h
  obtain ⟨a0, r0, rfl, h⟩ := h
  replace h := onil_some h
  obtain ⟨rfl, h⟩ := h
  obtain ⟨l0, qh0, h⟩ := obind_some h
  rw [argV_eq ok qh0]
  exact call_of (phiE_nat _ _) hs ok mixed Try.func79 (c := impl_own_int_code) (by kernel_rfl) (impl_own_int_lo n) (by kernel_rfl) (by kernel_rfl) (by kernel_rfl) impl_own_int_de ((impl_own_int_tie n l0).trans h)
noncomputable def impl_Travel_code : Code := match Try.f15.body with | some c => c | none => .skip
def impl_Travel_8_sv : List Sv := [.one (.int .i64), .one (.ptr 40 0 0), .one (.ptr 48 0 0), .one (.ptr 64 0 0), .one (.ptr 72 0 0), .one (.own 3000000 3 false), .one (.own 3000001 119 false), .one (.arr 41), .one (.int .i64), .one (.int .i64)]
def impl_Travel_8_so : List So := [.var [.arr 41], .var [.int .i64], .var [.int .i64], .var [.int .i64], .arr 3 false, .arr 119 false]
def impl_Travel_8_emb (c : Int × List SLeg × Int × List SLeg × Int × Int × Int × List Int) (x : Int × List (List Bool)) : EVs T impl_Travel_8_sv × EOs T impl_Travel_8_so := ((c.1, (), (), (), (), (), (), c.2.1, c.2.2.1, x.1, ()), ((c.2.2.2.1, ()), (c.2.2.2.2.1, ()), (c.2.2.2.2.2.1, ()), (c.2.2.2.2.2.2.1, ()), c.2.2.2.2.2.2.2, x.2, ()))
def impl_Travel_8_prj (y : EVs T impl_Travel_8_sv × EOs T impl_Travel_8_so) : (Int × List SLeg × Int × List SLeg × Int × Int × Int × List Int) × (Int × List (List Bool)) := ((y.1.1, y.1.2.2.2.2.2.2.2.1, y.1.2.2.2.2.2.2.2.2.1, y.2.1.1, y.2.2.1.1, y.2.2.2.1.1, y.2.2.2.2.1.1, y.2.2.2.2.2.1), (y.1.2.2.2.2.2.2.2.2.2.1, y.2.2.2.2.2.2.1))
def impl_Travel_8_b (n : Nat) {R : Type} (K : Ex → Sm.St T → Option R) (c : Int × List SLeg × Int × List SLeg × Int × Int × Int × List Int) (x : Int × List (List Bool)) (J : (Int × List (List Bool)) → Option R) : Option R :=
  impl_Travel_L8 n (fun (y4 : List (List Bool)) => K (.exit 0) (stOf (T := T) [5, 6, 8, 9, 14] [40, 48, 64, 72, 3000001] [.one (.ptr 40 0 0), .one (.ptr 48 0 0), .one (.ptr 64 0 0), .one (.ptr 72 0 0), .one (.own 3000001 119 false)] [.var [.arr 41], .var [.int .i64], .var [.int .i64], .var [.int .i64], .arr 119 false] ((), (), (), (), (), ()) ((c.2.2.2.1, ()), (c.2.2.2.2.1, ()), (c.2.2.2.2.2.1, ()), (c.2.2.2.2.2.2.1, ()), y4, ()))) (fun z0 z1 => J (z0, z1)) c.1 c.2.1 c.2.2.1 x.1 c.2.2.2.1 c.2.2.2.2.1 c.2.2.2.2.2.1 c.2.2.2.2.2.2.1 c.2.2.2.2.2.2.2 x.2
def impl_Travel_8_sp (n : Nat) : LSpec T := mkSpec T ⟨[((.reg 12), 3000000, 3), ((.reg 14), 3000001, 119)], [2, 5, 6, 8, 9, 12, 14, 54, 55, 56], [40, 48, 64, 72, 3000000, 3000001]⟩ impl_Travel_8_sv impl_Travel_8_so (Int × List SLeg × Int × List SLeg × Int × Int × Int × List Int) (Int × List (List Bool)) impl_Travel_8_emb impl_Travel_8_prj (impl_Travel_8_b n)
noncomputable def impl_Travel_8_c : Code := ((loopCodes impl_Travel_code)[0]?).getD .skip
def impl_Travel_13_sv : List Sv := [.one (.ptr 40 0 0), .one (.ptr 48 0 0), .one (.ptr 64 0 0), .one (.ptr 72 0 0), .one (.own 3000001 119 false), .one (.int .i64)]
def impl_Travel_13_so : List So := [.var [.arr 41], .var [.int .i64], .var [.int .i64], .var [.int .i64], .arr 119 false]
def impl_Travel_13_emb (c : List SLeg × Int × Int × Int) (x : Int × List (List Bool)) : EVs T impl_Travel_13_sv × EOs T impl_Travel_13_so := (((), (), (), (), (), x.1, ()), ((c.1, ()), (c.2.1, ()), (c.2.2.1, ()), (c.2.2.2, ()), x.2, ()))
def impl_Travel_13_prj (y : EVs T impl_Travel_13_sv × EOs T impl_Travel_13_so) : (List SLeg × Int × Int × Int) × (Int × List (List Bool)) := ((y.2.1.1, y.2.2.1.1, y.2.2.2.1.1, y.2.2.2.2.1.1), (y.1.2.2.2.2.2.1, y.2.2.2.2.2.1))
def impl_Travel_13_b (n : Nat) {R : Type} (K : Ex → Sm.St T → Option R) (c : List SLeg × Int × Int × Int) (x : Int × List (List Bool)) (J : (Int × List (List Bool)) → Option R) : Option R :=
  impl_Travel_L13 n (K (.exit 2) (stOf (T := T) [] [] [] [] () ())) (fun (y0 : Bool) (y1 : List Int) => K .ret (stOf (T := T) [10, 11] [3000003] [.one (.own 3000003 3 false), .one (.bool)] [.arr 3 false] ((), y0, ()) (y1, ()))) (fun z0 z1 => J (z0, z1)) x.1 c.1 c.2.1 c.2.2.1 c.2.2.2 x.2
def impl_Travel_13_sp (n : Nat) : LSpec T := mkSpec T ⟨[((.reg 14), 3000001, 119)], [5, 6, 8, 9, 14, 17], [40, 48, 64, 72, 3000001]⟩ impl_Travel_13_sv impl_Travel_13_so (List SLeg × Int × Int × Int) (Int × List (List Bool)) impl_Travel_13_emb impl_Travel_13_prj (impl_Travel_13_b n)
noncomputable def impl_Travel_13_c : Code := ((loopCodes impl_Travel_code)[1]?).getD .skip
def impl_Travel_18_sv : List Sv := [.one (.ptr 40 0 0), .one (.ptr 48 0 0), .one (.ptr 64 0 0), .one (.ptr 72 0 0), .one (.own 3000001 119 false), .one (.int .i64), .one (.ptr 144 0 0), .one (.fn 77 [144, 40, 48, 64, 72]), .one (.int .i64)]
def impl_Travel_18_so : List So := [.var [.arr 41], .var [.int .i64], .var [.int .i64], .var [.int .i64], .arr 119 false, .var [.own 3000002 3 false], .arr 3 false]
def impl_Travel_18_emb (c : Int × List SLeg × Int × Int × Int × List (List Bool)) (x : Int × List Int) : EVs T impl_Travel_18_sv × EOs T impl_Travel_18_so := (((), (), (), (), (), c.1, (), (), x.1, ()), ((c.2.1, ()), (c.2.2.1, ()), (c.2.2.2.1, ()), (c.2.2.2.2.1, ()), c.2.2.2.2.2, ((), ()), x.2, ()))
def impl_Travel_18_prj (y : EVs T impl_Travel_18_sv × EOs T impl_Travel_18_so) : (Int × List SLeg × Int × Int × Int × List (List Bool)) × (Int × List Int) := ((y.1.2.2.2.2.2.1, y.2.1.1, y.2.2.1.1, y.2.2.2.1.1, y.2.2.2.2.1.1, y.2.2.2.2.2.1), (y.1.2.2.2.2.2.2.2.2.1, y.2.2.2.2.2.2.2.1))
def impl_Travel_18_b (n : Nat) {R : Type} (K : Ex → Sm.St T → Option R) (c : Int × List SLeg × Int × Int × Int × List (List Bool)) (x : Int × List Int) (J : (Int × List Int) → Option R) : Option R :=
  impl_Travel_L18 n (fun (y6 : List Int) => K (.exit 4) (stOf (T := T) [5, 6, 8, 9, 14, 17, 18] [40, 48, 64, 72, 3000001, 144, 3000002] [.one (.ptr 40 0 0), .one (.ptr 48 0 0), .one (.ptr 64 0 0), .one (.ptr 72 0 0), .one (.own 3000001 119 false), .one (.int .i64), .one (.ptr 144 0 0)] [.var [.arr 41], .var [.int .i64], .var [.int .i64], .var [.int .i64], .arr 119 false, .var [.own 3000002 3 false], .arr 3 false] ((), (), (), (), (), c.1, (), ()) ((c.2.1, ()), (c.2.2.1, ()), (c.2.2.2.1, ()), (c.2.2.2.2.1, ()), c.2.2.2.2.2, ((), ()), y6, ()))) (fun z0 z1 => J (z0, z1)) c.1 x.1 c.2.1 c.2.2.1 c.2.2.2.1 c.2.2.2.2.1 c.2.2.2.2.2 x.2
def impl_Travel_18_sp (n : Nat) : LSpec T := mkSpec T ⟨[((.reg 14), 3000001, 119), ((.cell 144 0), 3000002, 3)], [5, 6, 8, 9, 14, 17, 18, 19, 20], [40, 48, 64, 72, 3000001, 144, 3000002]⟩ impl_Travel_18_sv impl_Travel_18_so (Int × List SLeg × Int × Int × Int × List (List Bool)) (Int × List Int) impl_Travel_18_emb impl_Travel_18_prj (impl_Travel_18_b n)
noncomputable def impl_Travel_18_c : Code := ((loopCodes impl_Travel_code)[2]?).getD .skip
def impl_Travel_21_sv : List Sv := [.one (.ptr 40 0 0), .one (.ptr 48 0 0), .one (.ptr 64 0 0), .one (.ptr 72 0 0), .one (.own 3000001 119 false), .one (.int .i64), .one (.ptr 144 0 0), .one (.fn 77 [144, 40, 48, 64, 72]), .one (.int .i64), .one (.int .i64)]
def impl_Travel_21_so : List So := [.var [.arr 41], .var [.int .i64], .var [.int .i64], .var [.int .i64], .arr 119 false, .var [.own 3000002 3 false], .arr 3 false]
def impl_Travel_21_emb (c : Int × Int × List SLeg × Int × Int × Int × List (List Bool) × List Int) (x : Int) : EVs T impl_Travel_21_sv × EOs T impl_Travel_21_so := (((), (), (), (), (), c.1, (), (), c.2.1, x, ()), ((c.2.2.1, ()), (c.2.2.2.1, ()), (c.2.2.2.2.1, ()), (c.2.2.2.2.2.1, ()), c.2.2.2.2.2.2.1, ((), ()), c.2.2.2.2.2.2.2, ()))
def impl_Travel_21_prj (y : EVs T impl_Travel_21_sv × EOs T impl_Travel_21_so) : (Int × Int × List SLeg × Int × Int × Int × List (List Bool) × List Int) × Int := ((y.1.2.2.2.2.2.1, y.1.2.2.2.2.2.2.2.2.1, y.2.1.1, y.2.2.1.1, y.2.2.2.1.1, y.2.2.2.2.1.1, y.2.2.2.2.2.1, y.2.2.2.2.2.2.2.1), (y.1.2.2.2.2.2.2.2.2.2.1))
def impl_Travel_21_b (n : Nat) {R : Type} (K : Ex → Sm.St T → Option R) (c : Int × Int × List SLeg × Int × Int × Int × List (List Bool) × List Int) (x : Int) (J : Int → Option R) : Option R :=
  impl_Travel_L21 n (fun (y2 : Int) => K (.exit 6) (stOf (T := T) [5, 6, 8, 9, 14, 17, 18, 19, 20, 21] [40, 48, 64, 72, 3000001, 144, 3000002] [.one (.ptr 40 0 0), .one (.ptr 48 0 0), .one (.ptr 64 0 0), .one (.ptr 72 0 0), .one (.own 3000001 119 false), .one (.int .i64), .one (.ptr 144 0 0), .one (.fn 77 [144, 40, 48, 64, 72]), .one (.int .i64), .one (.int .i64)] [.var [.arr 41], .var [.int .i64], .var [.int .i64], .var [.int .i64], .arr 119 false, .var [.own 3000002 3 false], .arr 3 false] ((), (), (), (), (), c.1, (), (), c.2.1, y2, ()) ((c.2.2.1, ()), (c.2.2.2.1, ()), (c.2.2.2.2.1, ()), (c.2.2.2.2.2.1, ()), c.2.2.2.2.2.2.1, ((), ()), c.2.2.2.2.2.2.2, ()))) J c.1 c.2.1 x c.2.2.1 c.2.2.2.1 c.2.2.2.2.1 c.2.2.2.2.2.1 c.2.2.2.2.2.2.1 c.2.2.2.2.2.2.2
def impl_Travel_21_sp (n : Nat) : LSpec T := mkSpec T ⟨[((.reg 14), 3000001, 119), ((.cell 144 0), 3000002, 3)], [5, 6, 8, 9, 14, 17, 18, 19, 20, 21], [40, 48, 64, 72, 3000001, 144, 3000002]⟩ impl_Travel_21_sv impl_Travel_21_so (Int × Int × List SLeg × Int × Int × Int × List (List Bool) × List Int) (Int) impl_Travel_21_emb impl_Travel_21_prj (impl_Travel_21_b n)
noncomputable def impl_Travel_21_c : Code := ((loopCodes impl_Travel_code)[3]?).getD .skip
def impl_Travel_29_sv : List Sv := [.one (.ptr 40 0 0), .one (.ptr 48 0 0), .one (.ptr 64 0 0), .one (.ptr 72 0 0), .one (.own 3000001 119 false), .one (.int .i64), .one (.own 3000004 4 false), .one (.int .i64), .one (.int .i64)]
def impl_Travel_29_so : List So := [.var [.arr 41], .var [.int .i64], .var [.int .i64], .var [.int .i64], .arr 119 false, .arr 4 false]
def impl_Travel_29_emb (c : Int × Int × List SLeg × Int × Int × Int × List (List Bool)) (x : Int × List Bool) : EVs T impl_Travel_29_sv × EOs T impl_Travel_29_so := (((), (), (), (), (), c.1, (), c.2.1, x.1, ()), ((c.2.2.1, ()), (c.2.2.2.1, ()), (c.2.2.2.2.1, ()), (c.2.2.2.2.2.1, ()), c.2.2.2.2.2.2, x.2, ()))
def impl_Travel_29_prj (y : EVs T impl_Travel_29_sv × EOs T impl_Travel_29_so) : (Int × Int × List SLeg × Int × Int × Int × List (List Bool)) × (Int × List Bool) := ((y.1.2.2.2.2.2.1, y.1.2.2.2.2.2.2.2.1, y.2.1.1, y.2.2.1.1, y.2.2.2.1.1, y.2.2.2.2.1.1, y.2.2.2.2.2.1), (y.1.2.2.2.2.2.2.2.2.1, y.2.2.2.2.2.2.1))
def impl_Travel_29_b (n : Nat) {R : Type} (K : Ex → Sm.St T → Option R) (c : Int × Int × List SLeg × Int × Int × Int × List (List Bool)) (x : Int × List Bool) (J : (Int × List Bool) → Option R) : Option R :=
  impl_Travel_L29 n (fun (y6 : List Bool) => K (.exit 8) (stOf (T := T) [5, 6, 8, 9, 14, 17, 22] [40, 48, 64, 72, 3000001, 3000004] [.one (.ptr 40 0 0), .one (.ptr 48 0 0), .one (.ptr 64 0 0), .one (.ptr 72 0 0), .one (.own 3000001 119 false), .one (.int .i64), .one (.own 3000004 4 false)] [.var [.arr 41], .var [.int .i64], .var [.int .i64], .var [.int .i64], .arr 119 false, .arr 4 false] ((), (), (), (), (), c.1, (), ()) ((c.2.2.1, ()), (c.2.2.2.1, ()), (c.2.2.2.2.1, ()), (c.2.2.2.2.2.1, ()), c.2.2.2.2.2.2, y6, ()))) (fun z0 z1 => J (z0, z1)) c.1 c.2.1 x.1 c.2.2.1 c.2.2.2.1 c.2.2.2.2.1 c.2.2.2.2.2.1 c.2.2.2.2.2.2 x.2
def impl_Travel_29_sp (n : Nat) : LSpec T := mkSpec T ⟨[((.reg 14), 3000001, 119), ((.reg 22), 3000004, 4)], [5, 6, 8, 9, 14, 17, 22, 130, 131], [40, 48, 64, 72, 3000001, 3000004]⟩ impl_Travel_29_sv impl_Travel_29_so (Int × Int × List SLeg × Int × Int × Int × List (List Bool)) (Int × List Bool) impl_Travel_29_emb impl_Travel_29_prj (impl_Travel_29_b n)
noncomputable def impl_Travel_29_c : Code := ((loopCodes impl_Travel_code)[4]?).getD .skip
def impl_Travel_32_sv : List Sv := [.one (.ptr 40 0 0), .one (.ptr 48 0 0), .one (.ptr 64 0 0), .one (.ptr 72 0 0), .one (.own 3000001 119 false), .one (.int .i64), .one (.own 3000004 4 false), .one (.int .i64), .one (.int .i64), .one (.int .i64), .one (.int .i64), .one (.int .i64)]
def impl_Travel_32_so : List So := [.var [.arr 41], .var [.int .i64], .var [.int .i64], .var [.int .i64], .arr 119 false, .arr 4 false]
def impl_Travel_32_emb (c : Int × Int × Int × Int × Int × List SLeg × Int × Int × Int × List (List Bool)) (x : Int × List Bool) : EVs T impl_Travel_32_sv × EOs T impl_Travel_32_so := (((), (), (), (), (), c.1, (), c.2.1, c.2.2.1, c.2.2.2.1, c.2.2.2.2.1, x.1, ()), ((c.2.2.2.2.2.1, ()), (c.2.2.2.2.2.2.1, ()), (c.2.2.2.2.2.2.2.1, ()), (c.2.2.2.2.2.2.2.2.1, ()), c.2.2.2.2.2.2.2.2.2, x.2, ()))
def impl_Travel_32_prj (y : EVs T impl_Travel_32_sv × EOs T impl_Travel_32_so) : (Int × Int × Int × Int × Int × List SLeg × Int × Int × Int × List (List Bool)) × (Int × List Bool) := ((y.1.2.2.2.2.2.1, y.1.2.2.2.2.2.2.2.1, y.1.2.2.2.2.2.2.2.2.1, y.1.2.2.2.2.2.2.2.2.2.1, y.1.2.2.2.2.2.2.2.2.2.2.1, y.2.1.1, y.2.2.1.1, y.2.2.2.1.1, y.2.2.2.2.1.1, y.2.2.2.2.2.1), (y.1.2.2.2.2.2.2.2.2.2.2.2.1, y.2.2.2.2.2.2.1))
def impl_Travel_32_b (n : Nat) {R : Type} (K : Ex → Sm.St T → Option R) (c : Int × Int × Int × Int × Int × List SLeg × Int × Int × Int × List (List Bool)) (x : Int × List Bool) (J : (Int × List Bool) → Option R) : Option R :=
  impl_Travel_L32 n (fun (y8 : List Bool) => K (.exit 10) (stOf (T := T) [5, 6, 8, 9, 14, 17, 22, 130, 131] [40, 48, 64, 72, 3000001, 3000004] [.one (.ptr 40 0 0), .one (.ptr 48 0 0), .one (.ptr 64 0 0), .one (.ptr 72 0 0), .one (.own 3000001 119 false), .one (.int .i64), .one (.own 3000004 4 false), .one (.int .i64), .one (.int .i64)] [.var [.arr 41], .var [.int .i64], .var [.int .i64], .var [.int .i64], .arr 119 false, .arr 4 false] ((), (), (), (), (), c.1, (), c.2.2.1, c.2.2.2.1, ()) ((c.2.2.2.2.2.1, ()), (c.2.2.2.2.2.2.1, ()), (c.2.2.2.2.2.2.2.1, ()), (c.2.2.2.2.2.2.2.2.1, ()), c.2.2.2.2.2.2.2.2.2, y8, ()))) (fun z0 z1 => J (z0, z1)) c.1 c.2.1 c.2.2.1 c.2.2.2.1 c.2.2.2.2.1 x.1 c.2.2.2.2.2.1 c.2.2.2.2.2.2.1 c.2.2.2.2.2.2.2.1 c.2.2.2.2.2.2.2.2.1 c.2.2.2.2.2.2.2.2.2 x.2
def impl_Travel_32_sp (n : Nat) : LSpec T := mkSpec T ⟨[((.reg 14), 3000001, 119), ((.reg 22), 3000004, 4)], [5, 6, 8, 9, 14, 17, 22, 23, 130, 131, 135, 136], [40, 48, 64, 72, 3000001, 3000004]⟩ impl_Travel_32_sv impl_Travel_32_so (Int × Int × Int × Int × Int × List SLeg × Int × Int × Int × List (List Bool)) (Int × List Bool) impl_Travel_32_emb impl_Travel_32_prj (impl_Travel_32_b n)
noncomputable def impl_Travel_32_c : Code := ((loopCodes impl_Travel_code)[5]?).getD .skip
def impl_Travel_ann : Ann := fun id => bif Nat.beq id 3000008 then some ⟨[((.reg 14), 3000001, 119)], [5, 6, 8, 9, 14], [40, 48, 64, 72, 3000001]⟩ else bif Nat.beq id 5000013 then some ⟨[], [], []⟩ else bif Nat.beq id 2000013 then some ⟨[((.reg 10), 3000003, 3)], [10, 11], [3000003]⟩ else bif Nat.beq id 7000018 then some ⟨[((.reg 14), 3000001, 119), ((.cell 144 0), 3000002, 3)], [5, 6, 8, 9, 14, 17, 18], [40, 48, 64, 72, 3000001, 144, 3000002]⟩ else bif Nat.beq id 9000021 then some ⟨[((.reg 14), 3000001, 119), ((.cell 144 0), 3000002, 3)], [5, 6, 8, 9, 14, 17, 18, 19, 20, 21], [40, 48, 64, 72, 3000001, 144, 3000002]⟩ else bif Nat.beq id 11000029 then some ⟨[((.reg 14), 3000001, 119), ((.reg 22), 3000004, 4)], [5, 6, 8, 9, 14, 17, 22], [40, 48, 64, 72, 3000001, 3000004]⟩ else bif Nat.beq id 13000032 then some ⟨[((.reg 14), 3000001, 119), ((.reg 22), 3000004, 4)], [5, 6, 8, 9, 14, 17, 22, 130, 131], [40, 48, 64, 72, 3000001, 3000004]⟩ else none
def impl_Travel_Ls (n : Nat) : Nat → Option (LSpec T) := fun id => bif Nat.beq id 8 then some (impl_Travel_8_sp n) else bif Nat.beq id 13 then some (impl_Travel_13_sp n) else bif Nat.beq id 18 then some (impl_Travel_18_sp n) else bif Nat.beq id 21 then some (impl_Travel_21_sp n) else bif Nat.beq id 29 then some (impl_Travel_29_sp n) else bif Nat.beq id 32 then some (impl_Travel_32_sp n) else none
theorem impl_Travel_8_le (n : Nat) : LoopEq (T := T) (Phi n 24) (impl_Travel_Ls n) impl_Travel_ann n impl_Travel_8_c (impl_Travel_8_sp n) := ⟨mkSpec_dec (fun y => rfl), fun c x => by kernel_rfl, fun K J c x => by kernel_rfl⟩
theorem impl_Travel_13_le (n : Nat) : LoopEq (T := T) (Phi n 24) (impl_Travel_Ls n) impl_Travel_ann n impl_Travel_13_c (impl_Travel_13_sp n) := ⟨mkSpec_dec (fun y => rfl), fun c x => by kernel_rfl, fun K J c x => by kernel_rfl⟩
theorem impl_Travel_18_le (n : Nat) : LoopEq (T := T) (Phi n 24) (impl_Travel_Ls n) impl_Travel_ann n impl_Travel_18_c (impl_Travel_18_sp n) := ⟨mkSpec_dec (fun y => rfl), fun c x => by kernel_rfl, fun K J c x => by kernel_rfl⟩
theorem impl_Travel_21_le (n : Nat) : LoopEq (T := T) (Phi n 24) (impl_Travel_Ls n) impl_Travel_ann n impl_Travel_21_c (impl_Travel_21_sp n) := ⟨mkSpec_dec (fun y => rfl), fun c x => by kernel_rfl, fun K J c x => by kernel_rfl⟩
theorem impl_Travel_29_le (n : Nat) : LoopEq (T := T) (Phi n 24) (impl_Travel_Ls n) impl_Travel_ann n impl_Travel_29_c (impl_Travel_29_sp n) := ⟨mkSpec_dec (fun y => rfl), fun c x => by kernel_rfl, fun K J c x => by kernel_rfl⟩
theorem impl_Travel_32_le (n : Nat) : LoopEq (T := T) (Phi n 24) (impl_Travel_Ls n) impl_Travel_ann n impl_Travel_32_c (impl_Travel_32_sp n) := ⟨mkSpec_dec (fun y => rfl), fun c x => by kernel_rfl, fun K J c x => by kernel_rfl⟩
theorem impl_Travel_tie (n : Nat) (legs0 : List SLeg) (from1 : Int) (to2 : Int) (at3 : Int) (change4 : Int) : evF (T := T) (Phi n 24) (impl_Travel_Ls n) impl_Travel_ann n Try.f15 (sg 15) [vA T 27 legs0, vA T 3 from1, vA T 3 to2, vA T 3 at3, vA T 3 change4] impl_Travel_dec = impl_Travel n legs0 from1 to2 at3 change4 := by kernel_rfl
theorem impl_Travel_lo (n : Nat) : LoopsOk (T := T) (Phi n 24) (impl_Travel_Ls n) impl_Travel_ann n impl_Travel_code := loopsOk_all (cs := [impl_Travel_8_c, impl_Travel_13_c, impl_Travel_18_c, impl_Travel_21_c, impl_Travel_29_c, impl_Travel_32_c]) (by kernel_rfl) ⟨⟨_, by kernel_rfl, impl_Travel_8_le n⟩, ⟨_, by kernel_rfl, impl_Travel_13_le n⟩, ⟨_, by kernel_rfl, impl_Travel_18_le n⟩, ⟨_, by kernel_rfl, impl_Travel_21_le n⟩, ⟨_, by kernel_rfl, impl_Travel_29_le n⟩, ⟨_, by kernel_rfl, impl_Travel_32_le n⟩, trivial⟩
theorem impl_Travel_ok (n : Nat) : EntOk Try.prog (ents n) (impl_Travel_ent n) := by
  intro hs ar y hg h
  replace h : impl_Travel_D n ar = some y := h
  unfold impl_Travel_D at h
  replace h := ocons_some h
  obtain ⟨a0, r0, rfl, h⟩ := h
  replace h := ocons_some h
  obtain ⟨a1, r1, rfl, h⟩ := h
  replace h := ocons_some h
  obtain ⟨a2, r2, rfl, h⟩ := h
  replace h := ocons_some h
  obtain ⟨a3, r3, rfl, h⟩ := h
  replace h := ocons_some h
  obtain ⟨a4, r4, rfl, h⟩ := h
  replace h := onil_some h
  obtain ⟨rfl, h⟩ := h
  obtain ⟨legs0, qh0, h⟩ := obind_some h
  obtain ⟨from1, qh1, h⟩ := obind_some h
  obtain ⟨to2, qh2, h⟩ := obind_some h
  obtain ⟨at3, qh3, h⟩ := obind_some h
  obtain ⟨change4, qh4, h⟩ := obind_some h
  rw [argV_eq ok qh0, argV_eq ok qh1, argV_eq ok qh2, argV_eq ok qh3, argV_eq ok qh4]
  exact call_of (phiE_nat _ _) hs ok mixed Try.func15 (c := impl_Travel_code) (by kernel_rfl) (impl_Travel_lo n) (by kernel_rfl) (by kernel_rfl) (by kernel_rfl) impl_Travel_de ((impl_Travel_tie n legs0 from1 to2 at3 change4).trans h)
noncomputable def laws_eqIntS_code : Code := match Try.f16.body with | some c => c | none => .skip
def laws_eqIntS_4_sv : List Sv := [.one (.arr 3), .one (.arr 3), .one (.int .i64)]
def laws_eqIntS_4_so : List So := []
def laws_eqIntS_4_emb (c : List Int × List Int) (x : Int) : EVs T laws_eqIntS_4_sv × EOs T laws_eqIntS_4_so := ((c.1, c.2, x, ()), ())
def laws_eqIntS_4_prj (y : EVs T laws_eqIntS_4_sv × EOs T laws_eqIntS_4_so) : (List Int × List Int) × Int := ((y.1.1, y.1.2.1), (y.1.2.2.1))
def laws_eqIntS_4_b (n : Nat) {R : Type} (K : Ex → Sm.St T → Option R) (c : List Int × List Int) (x : Int) (J : Int → Option R) : Option R :=
  laws_eqIntS_L4 n (K (.exit 0) (stOf (T := T) [] [] [] [] () ())) (fun (y0 : Bool) => K .ret (stOf (T := T) [4] [] [.one (.bool)] [] (y0, ()) ())) J c.1 c.2 x
def laws_eqIntS_4_sp (n : Nat) : LSpec T := mkSpec T ⟨[], [0, 1, 5], []⟩ laws_eqIntS_4_sv laws_eqIntS_4_so (List Int × List Int) (Int) laws_eqIntS_4_emb laws_eqIntS_4_prj (laws_eqIntS_4_b n)
noncomputable def laws_eqIntS_4_c : Code := ((loopCodes laws_eqIntS_code)[0]?).getD .skip
def laws_eqIntS_ann : Ann := fun id => bif Nat.beq id 3000004 then some ⟨[], [], []⟩ else bif Nat.beq id 2000004 then some ⟨[], [4], []⟩ else none
def laws_eqIntS_Ls (n : Nat) : Nat → Option (LSpec T) := fun id => bif Nat.beq id 4 then some (laws_eqIntS_4_sp n) else none
theorem laws_eqIntS_4_le (n : Nat) : LoopEq (T := T) (Phi n 25) (laws_eqIntS_Ls n) laws_eqIntS_ann n laws_eqIntS_4_c (laws_eqIntS_4_sp n) := ⟨mkSpec_dec (fun y => rfl), fun c x => by kernel_rfl, fun K J c x => by kernel_rfl⟩
theorem laws_eqIntS_tie (n : Nat) (a0 : List Int) (b1 : List Int) : evF (T := T) (Phi n 25) (laws_eqIntS_Ls n) laws_eqIntS_ann n Try.f16 (sg 16) [vA T 24 a0, vA T 24 b1] laws_eqIntS_dec = laws_eqIntS n a0 b1 := by kernel_rfl
theorem laws_eqIntS_lo (n : Nat) : LoopsOk (T := T) (Phi n 25) (laws_eqIntS_Ls n) laws_eqIntS_ann n laws_eqIntS_code := loopsOk_all (cs := [laws_eqIntS_4_c]) (by kernel_rfl) ⟨⟨_, by kernel_rfl, laws_eqIntS_4_le n⟩, trivial⟩
theorem laws_eqIntS_ok (n : Nat) : EntOk Try.prog (ents n) (laws_eqIntS_ent n) := by
  intro hs ar y hg h
  replace h : laws_eqIntS_D n ar = some y := h
  unfold laws_eqIntS_D at h
  replace h := ocons_some h
  obtain ⟨a0, r0, rfl, h⟩ := h
  replace h := ocons_some h
  obtain ⟨a1, r1, rfl, h⟩ := h
  replace h := onil_some h
  obtain ⟨rfl, h⟩ := h
  obtain ⟨a0, qh0, h⟩ := obind_some h
  obtain ⟨b1, qh1, h⟩ := obind_some h
  rw [argV_eq ok qh0, argV_eq ok qh1]
  exact call_of (phiE_nat _ _) hs ok mixed Try.func16 (c := laws_eqIntS_code) (by kernel_rfl) (laws_eqIntS_lo n) (by kernel_rfl) (by kernel_rfl) (by kernel_rfl) laws_eqIntS_de ((laws_eqIntS_tie n a0 b1).trans h)
noncomputable def laws_eqLeg_code : Code := match Try.f80.body with | some c => c | none => .skip
def laws_eqLeg_ann : Ann := fun id => none
def laws_eqLeg_Ls (n : Nat) : Nat → Option (LSpec T) := fun id => none
theorem laws_eqLeg_tie (n : Nat) (a0 : SLeg) (b1 : SLeg) : evF (T := T) (Phi n 26) (laws_eqLeg_Ls n) laws_eqLeg_ann n Try.f80 (sg 80) [vA T 41 a0, vA T 41 b1] laws_eqLeg_dec = laws_eqLeg n a0 b1 := by kernel_rfl
theorem laws_eqLeg_lo (n : Nat) : LoopsOk (T := T) (Phi n 26) (laws_eqLeg_Ls n) laws_eqLeg_ann n laws_eqLeg_code := loopsOk_all (cs := []) (by kernel_rfl) trivial
theorem laws_eqLeg_ok (n : Nat) : EntOk Try.prog (ents n) (laws_eqLeg_ent n) := by
  intro hs ar y hg h
  replace h : laws_eqLeg_D n ar = some y := h
  unfold laws_eqLeg_D at h
  replace h := ocons_some h
  obtain ⟨a0, r0, rfl, h⟩ := h
  replace h := ocons_some h
  obtain ⟨a1, r1, rfl, h⟩ := h
  replace h := onil_some h
  obtain ⟨rfl, h⟩ := h
  obtain ⟨a0, qh0, h⟩ := obind_some h
  obtain ⟨b1, qh1, h⟩ := obind_some h
  rw [argV_eq ok qh0, argV_eq ok qh1]
  exact call_of (phiE_nat _ _) hs ok mixed Try.func80 (c := laws_eqLeg_code) (by kernel_rfl) (laws_eqLeg_lo n) (by kernel_rfl) (by kernel_rfl) (by kernel_rfl) laws_eqLeg_de ((laws_eqLeg_tie n a0 b1).trans h)
noncomputable def laws_eqLegS_code : Code := match Try.f17.body with | some c => c | none => .skip
def laws_eqLegS_4_sv : List Sv := [.one (.arr 41), .one (.arr 41), .one (.int .i64)]
def laws_eqLegS_4_so : List So := []
def laws_eqLegS_4_emb (c : List SLeg × List SLeg) (x : Int) : EVs T laws_eqLegS_4_sv × EOs T laws_eqLegS_4_so := ((c.1, c.2, x, ()), ())
def laws_eqLegS_4_prj (y : EVs T laws_eqLegS_4_sv × EOs T laws_eqLegS_4_so) : (List SLeg × List SLeg) × Int := ((y.1.1, y.1.2.1), (y.1.2.2.1))
def laws_eqLegS_4_b (n : Nat) {R : Type} (K : Ex → Sm.St T → Option R) (c : List SLeg × List SLeg) (x : Int) (J : Int → Option R) : Option R :=
  laws_eqLegS_L4 n (K (.exit 0) (stOf (T := T) [] [] [] [] () ())) (fun (y0 : Bool) => K .ret (stOf (T := T) [4] [] [.one (.bool)] [] (y0, ()) ())) J c.1 c.2 x
def laws_eqLegS_4_sp (n : Nat) : LSpec T := mkSpec T ⟨[], [0, 1, 5], []⟩ laws_eqLegS_4_sv laws_eqLegS_4_so (List SLeg × List SLeg) (Int) laws_eqLegS_4_emb laws_eqLegS_4_prj (laws_eqLegS_4_b n)
noncomputable def laws_eqLegS_4_c : Code := ((loopCodes laws_eqLegS_code)[0]?).getD .skip
def laws_eqLegS_ann : Ann := fun id => bif Nat.beq id 3000004 then some ⟨[], [], []⟩ else bif Nat.beq id 2000004 then some ⟨[], [4], []⟩ else none
def laws_eqLegS_Ls (n : Nat) : Nat → Option (LSpec T) := fun id => bif Nat.beq id 4 then some (laws_eqLegS_4_sp n) else none
theorem laws_eqLegS_4_le (n : Nat) : LoopEq (T := T) (Phi n 27) (laws_eqLegS_Ls n) laws_eqLegS_ann n laws_eqLegS_4_c (laws_eqLegS_4_sp n) := ⟨mkSpec_dec (fun y => rfl), fun c x => by kernel_rfl, fun K J c x => by kernel_rfl⟩
theorem laws_eqLegS_tie (n : Nat) (a0 : List SLeg) (b1 : List SLeg) : evF (T := T) (Phi n 27) (laws_eqLegS_Ls n) laws_eqLegS_ann n Try.f17 (sg 17) [vA T 27 a0, vA T 27 b1] laws_eqLegS_dec = laws_eqLegS n a0 b1 := by kernel_rfl
theorem laws_eqLegS_lo (n : Nat) : LoopsOk (T := T) (Phi n 27) (laws_eqLegS_Ls n) laws_eqLegS_ann n laws_eqLegS_code := loopsOk_all (cs := [laws_eqLegS_4_c]) (by kernel_rfl) ⟨⟨_, by kernel_rfl, laws_eqLegS_4_le n⟩, trivial⟩
theorem laws_eqLegS_ok (n : Nat) : EntOk Try.prog (ents n) (laws_eqLegS_ent n) := by
  intro hs ar y hg h
  replace h : laws_eqLegS_D n ar = some y := h
  unfold laws_eqLegS_D at h
  replace h := ocons_some h
  obtain ⟨a0, r0, rfl, h⟩ := h
  replace h := ocons_some h
  obtain ⟨a1, r1, rfl, h⟩ := h
  replace h := onil_some h
  obtain ⟨rfl, h⟩ := h
  obtain ⟨a0, qh0, h⟩ := obind_some h
  obtain ⟨b1, qh1, h⟩ := obind_some h
  rw [argV_eq ok qh0, argV_eq ok qh1]
  exact call_of (phiE_nat _ _) hs ok mixed Try.func17 (c := laws_eqLegS_code) (by kernel_rfl) (laws_eqLegS_lo n) (by kernel_rfl) (by kernel_rfl) (by kernel_rfl) laws_eqLegS_de ((laws_eqLegS_tie n a0 b1).trans h)
noncomputable def laws_markLegS_code : Code := match Try.f18.body with | some c => c | none => .skip
def laws_markLegS_2_sv : List Sv := [.one (.own 4503599627370496 41 false), .one (.int .i64), .one (.int .i64)]
def laws_markLegS_2_so : List So := [.arr 41 true]
def laws_markLegS_2_emb (c : Unit) (x : Int × Int × List SLeg) : EVs T laws_markLegS_2_sv × EOs T laws_markLegS_2_so := (((), x.1, x.2.1, ()), (x.2.2, ()))
def laws_markLegS_2_prj (y : EVs T laws_markLegS_2_sv × EOs T laws_markLegS_2_so) : Unit × (Int × Int × List SLeg) := ((), (y.1.2.1, y.1.2.2.1, y.2.1))
def laws_markLegS_2_b (n : Nat) {R : Type} (K : Ex → Sm.St T → Option R) (c : Unit) (x : Int × Int × List SLeg) (J : (Int × Int × List SLeg) → Option R) : Option R :=
  laws_markLegS_L2 n (fun (y0 : Int) (y1 : List SLeg) => K (.exit 0) (stOf (T := T) [1] [4503599627370496] [.one (.int .i64)] [.arr 41 true] (y0, ()) (y1, ()))) (fun z0 z1 z2 => J (z0, z1, z2)) x.1 x.2.1 x.2.2
def laws_markLegS_2_sp (n : Nat) : LSpec T := mkSpec T ⟨[], [0, 1, 5], [4503599627370496]⟩ laws_markLegS_2_sv laws_markLegS_2_so (Unit) (Int × Int × List SLeg) laws_markLegS_2_emb laws_markLegS_2_prj (laws_markLegS_2_b n)
noncomputable def laws_markLegS_2_c : Code := ((loopCodes laws_markLegS_code)[0]?).getD .skip
def laws_markLegS_ann : Ann := fun id => bif Nat.beq id 3000002 then some ⟨[], [1], [4503599627370496]⟩ else none
def laws_markLegS_Ls (n : Nat) : Nat → Option (LSpec T) := fun id => bif Nat.beq id 2 then some (laws_markLegS_2_sp n) else none
theorem laws_markLegS_2_le (n : Nat) : LoopEq (T := T) (Phi n 28) (laws_markLegS_Ls n) laws_markLegS_ann n laws_markLegS_2_c (laws_markLegS_2_sp n) := ⟨mkSpec_dec (fun y => rfl), fun c x => by kernel_rfl, fun K J c x => by kernel_rfl⟩
theorem laws_markLegS_tie (n : Nat) (a0 : List SLeg) (k1 : Int) : evF (T := T) (Phi n 28) (laws_markLegS_Ls n) laws_markLegS_ann n Try.f18 (sg 18) [vA T 27 a0, vA T 3 k1] laws_markLegS_dec = laws_markLegS n a0 k1 := by kernel_rfl
theorem laws_markLegS_lo (n : Nat) : LoopsOk (T := T) (Phi n 28) (laws_markLegS_Ls n) laws_markLegS_ann n laws_markLegS_code := loopsOk_all (cs := [laws_markLegS_2_c]) (by kernel_rfl) ⟨⟨_, by kernel_rfl, laws_markLegS_2_le n⟩, trivial⟩
theorem laws_markLegS_ok (n : Nat) : EntOk Try.prog (ents n) (laws_markLegS_ent n) := by
  intro hs ar y hg h
  replace h : laws_markLegS_D n ar = some y := h
  unfold laws_markLegS_D at h
  replace h := ocons_some h
  obtain ⟨a0, r0, rfl, h⟩ := h
  replace h := ocons_some h
  obtain ⟨a1, r1, rfl, h⟩ := h
  replace h := onil_some h
  obtain ⟨rfl, h⟩ := h
  obtain ⟨a0, qh0, h⟩ := obind_some h
  obtain ⟨k1, qh1, h⟩ := obind_some h
  rw [argV_eq ok qh0, argV_eq ok qh1]
  exact call_of (phiE_nat _ _) hs ok mixed Try.func18 (c := laws_markLegS_code) (by kernel_rfl) (laws_markLegS_lo n) (by kernel_rfl) (by kernel_rfl) (by kernel_rfl) laws_markLegS_de ((laws_markLegS_tie n a0 k1).trans h)
noncomputable def laws_markIntS_code : Code := match Try.f19.body with | some c => c | none => .skip
def laws_markIntS_2_sv : List Sv := [.one (.own 4503599627370496 3 false), .one (.int .i64), .one (.int .i64)]
def laws_markIntS_2_so : List So := [.arr 3 true]
def laws_markIntS_2_emb (c : Unit) (x : Int × Int × List Int) : EVs T laws_markIntS_2_sv × EOs T laws_markIntS_2_so := (((), x.1, x.2.1, ()), (x.2.2, ()))
def laws_markIntS_2_prj (y : EVs T laws_markIntS_2_sv × EOs T laws_markIntS_2_so) : Unit × (Int × Int × List Int) := ((), (y.1.2.1, y.1.2.2.1, y.2.1))
def laws_markIntS_2_b (n : Nat) {R : Type} (K : Ex → Sm.St T → Option R) (c : Unit) (x : Int × Int × List Int) (J : (Int × Int × List Int) → Option R) : Option R :=
  laws_markIntS_L2 n (fun (y0 : Int) (y1 : List Int) => K (.exit 0) (stOf (T := T) [1] [4503599627370496] [.one (.int .i64)] [.arr 3 true] (y0, ()) (y1, ()))) (fun z0 z1 z2 => J (z0, z1, z2)) x.1 x.2.1 x.2.2
def laws_markIntS_2_sp (n : Nat) : LSpec T := mkSpec T ⟨[], [0, 1, 5], [4503599627370496]⟩ laws_markIntS_2_sv laws_markIntS_2_so (Unit) (Int × Int × List Int) laws_markIntS_2_emb laws_markIntS_2_prj (laws_markIntS_2_b n)
noncomputable def laws_markIntS_2_c : Code := ((loopCodes laws_markIntS_code)[0]?).getD .skip
def laws_markIntS_ann : Ann := fun id => bif Nat.beq id 3000002 then some ⟨[], [1], [4503599627370496]⟩ else none
def laws_markIntS_Ls (n : Nat) : Nat → Option (LSpec T) := fun id => bif Nat.beq id 2 then some (laws_markIntS_2_sp n) else none
theorem laws_markIntS_2_le (n : Nat) : LoopEq (T := T) (Phi n 29) (laws_markIntS_Ls n) laws_markIntS_ann n laws_markIntS_2_c (laws_markIntS_2_sp n) := ⟨mkSpec_dec (fun y => rfl), fun c x => by kernel_rfl, fun K J c x => by kernel_rfl⟩
theorem laws_markIntS_tie (n : Nat) (a0 : List Int) (k1 : Int) : evF (T := T) (Phi n 29) (laws_markIntS_Ls n) laws_markIntS_ann n Try.f19 (sg 19) [vA T 24 a0, vA T 3 k1] laws_markIntS_dec = laws_markIntS n a0 k1 := by kernel_rfl
theorem laws_markIntS_lo (n : Nat) : LoopsOk (T := T) (Phi n 29) (laws_markIntS_Ls n) laws_markIntS_ann n laws_markIntS_code := loopsOk_all (cs := [laws_markIntS_2_c]) (by kernel_rfl) ⟨⟨_, by kernel_rfl, laws_markIntS_2_le n⟩, trivial⟩
theorem laws_markIntS_ok (n : Nat) : EntOk Try.prog (ents n) (laws_markIntS_ent n) := by
  intro hs ar y hg h
  replace h : laws_markIntS_D n ar = some y := h
  unfold laws_markIntS_D at h
  replace h := ocons_some h
  obtain ⟨a0, r0, rfl, h⟩ := h
  replace h := ocons_some h
  obtain ⟨a1, r1, rfl, h⟩ := h
  replace h := onil_some h
  obtain ⟨rfl, h⟩ := h
  obtain ⟨a0, qh0, h⟩ := obind_some h
  obtain ⟨k1, qh1, h⟩ := obind_some h
  rw [argV_eq ok qh0, argV_eq ok qh1]
  exact call_of (phiE_nat _ _) hs ok mixed Try.func19 (c := laws_markIntS_code) (by kernel_rfl) (laws_markIntS_lo n) (by kernel_rfl) (by kernel_rfl) (by kernel_rfl) laws_markIntS_de ((laws_markIntS_tie n a0 k1).trans h)
noncomputable def laws_heldIntS_code : Code := match Try.f20.body with | some c => c | none => .skip
def laws_heldIntS_2_sv : List Sv := [.one (.arr 3), .one (.int .i64), .one (.int .i64)]
def laws_heldIntS_2_so : List So := []
def laws_heldIntS_2_emb (c : List Int) (x : Int × Int) : EVs T laws_heldIntS_2_sv × EOs T laws_heldIntS_2_so := ((c, x.1, x.2, ()), ())
def laws_heldIntS_2_prj (y : EVs T laws_heldIntS_2_sv × EOs T laws_heldIntS_2_so) : List Int × (Int × Int) := ((y.1.1), (y.1.2.1, y.1.2.2.1))
def laws_heldIntS_2_b (n : Nat) {R : Type} (K : Ex → Sm.St T → Option R) (c : List Int) (x : Int × Int) (J : (Int × Int) → Option R) : Option R :=
  laws_heldIntS_L2 n (fun (y0 : Int) => K (.exit 0) (stOf (T := T) [1] [] [.one (.int .i64)] [] (y0, ()) ())) (fun (y0 : Int) => K .ret (stOf (T := T) [4] [] [.one (.int .i64)] [] (y0, ()) ())) (fun z0 z1 => J (z0, z1)) c x.1 x.2
def laws_heldIntS_2_sp (n : Nat) : LSpec T := mkSpec T ⟨[], [0, 1, 5], []⟩ laws_heldIntS_2_sv laws_heldIntS_2_so (List Int) (Int × Int) laws_heldIntS_2_emb laws_heldIntS_2_prj (laws_heldIntS_2_b n)
noncomputable def laws_heldIntS_2_c : Code := ((loopCodes laws_heldIntS_code)[0]?).getD .skip
def laws_heldIntS_ann : Ann := fun id => bif Nat.beq id 3000002 then some ⟨[], [1], []⟩ else bif Nat.beq id 2000002 then some ⟨[], [4], []⟩ else none
def laws_heldIntS_Ls (n : Nat) : Nat → Option (LSpec T) := fun id => bif Nat.beq id 2 then some (laws_heldIntS_2_sp n) else none
theorem laws_heldIntS_2_le (n : Nat) : LoopEq (T := T) (Phi n 30) (laws_heldIntS_Ls n) laws_heldIntS_ann n laws_heldIntS_2_c (laws_heldIntS_2_sp n) := ⟨mkSpec_dec (fun y => rfl), fun c x => by kernel_rfl, fun K J c x => by kernel_rfl⟩
theorem laws_heldIntS_tie (n : Nat) (a0 : List Int) (k1 : Int) : evF (T := T) (Phi n 30) (laws_heldIntS_Ls n) laws_heldIntS_ann n Try.f20 (sg 20) [vA T 24 a0, vA T 3 k1] laws_heldIntS_dec = laws_heldIntS n a0 k1 := by kernel_rfl
theorem laws_heldIntS_lo (n : Nat) : LoopsOk (T := T) (Phi n 30) (laws_heldIntS_Ls n) laws_heldIntS_ann n laws_heldIntS_code := loopsOk_all (cs := [laws_heldIntS_2_c]) (by kernel_rfl) ⟨⟨_, by kernel_rfl, laws_heldIntS_2_le n⟩, trivial⟩
theorem laws_heldIntS_ok (n : Nat) : EntOk Try.prog (ents n) (laws_heldIntS_ent n) := by
  intro hs ar y hg h
  replace h : laws_heldIntS_D n ar = some y := h
  unfold laws_heldIntS_D at h
  replace h := ocons_some h
  obtain ⟨a0, r0, rfl, h⟩ := h
  replace h := ocons_some h
  obtain ⟨a1, r1, rfl, h⟩ := h
  replace h := onil_some h
  obtain ⟨rfl, h⟩ := h
  obtain ⟨a0, qh0, h⟩ := obind_some h
  obtain ⟨k1, qh1, h⟩ := obind_some h
  rw [argV_eq ok qh0, argV_eq ok qh1]
  exact call_of (phiE_nat _ _) hs ok mixed Try.func20 (c := laws_heldIntS_code) (by kernel_rfl) (laws_heldIntS_lo n) (by kernel_rfl) (by kernel_rfl) (by kernel_rfl) laws_heldIntS_de ((laws_heldIntS_tie n a0 k1).trans h)
noncomputable def laws_FnExactTravel_code : Code := match Try.f3.body with | some c => c | none => .skip
def laws_FnExactTravel_ann : Ann := fun id => none
def laws_FnExactTravel_Ls (n : Nat) : Nat → Option (LSpec T) := fun id => none
theorem laws_FnExactTravel_tie (n : Nat) (aLegs0 : List SLeg) (aFrom1 : Int) (aTo2 : Int) (aAt3 : Int) (aChange4 : Int) : evF (T := T) (Phi n 31) (laws_FnExactTravel_Ls n) laws_FnExactTravel_ann n Try.f3 (sg 3) [vA T 22 aLegs0, vA T 3 aFrom1, vA T 3 aTo2, vA T 3 aAt3, vA T 3 aChange4] laws_FnExactTravel_dec = laws_FnExactTravel n aLegs0 aFrom1 aTo2 aAt3 aChange4 := by kernel_rfl
theorem laws_FnExactTravel_lo (n : Nat) : LoopsOk (T := T) (Phi n 31) (laws_FnExactTravel_Ls n) laws_FnExactTravel_ann n laws_FnExactTravel_code := loopsOk_all (cs := []) (by kernel_rfl) trivial
theorem laws_FnExactTravel_ok (n : Nat) : EntOk Try.prog (ents n) (laws_FnExactTravel_ent n) := by
  intro hs ar y hg h
  replace h : laws_FnExactTravel_D n ar = some y := h
  unfold laws_FnExactTravel_D at h
  replace h := ocons_some h
  obtain ⟨a0, r0, rfl, h⟩ := h
  replace h := ocons_some h
  obtain ⟨a1, r1, rfl, h⟩ := h
  replace h := ocons_some h
  obtain ⟨a2, r2, rfl, h⟩ := h
  replace h := ocons_some h
  obtain ⟨a3, r3, rfl, h⟩ := h
  replace h := ocons_some h
  obtain ⟨a4, r4, rfl, h⟩ := h
  replace h := onil_some h
  obtain ⟨rfl, h⟩ := h
  obtain ⟨aLegs0, qh0, h⟩ := obind_some h
  obtain ⟨aFrom1, qh1, h⟩ := obind_some h
  obtain ⟨aTo2, qh2, h⟩ := obind_some h
  obtain ⟨aAt3, qh3, h⟩ := obind_some h
  obtain ⟨aChange4, qh4, h⟩ := obind_some h
  rw [argV_eq ok qh0, argV_eq ok qh1, argV_eq ok qh2, argV_eq ok qh3, argV_eq ok qh4]
  exact call_of (phiE_nat _ _) hs ok mixed Try.func3 (c := laws_FnExactTravel_code) (by kernel_rfl) (laws_FnExactTravel_lo n) (by kernel_rfl) (by kernel_rfl) (by kernel_rfl) laws_FnExactTravel_de ((laws_FnExactTravel_tie n aLegs0 aFrom1 aTo2 aAt3 aChange4).trans h)
theorem entsOk (n : Nat) : EntsOk Try.prog (ents n) (ents n) := ⟨laws_szLegS_ok n, laws_toLeg_ok n, laws_toLegS_ok n, spec_l1In_ok n, spec_l1Minute_ok n, spec_LegsOk_ok n, spec_l22May_ok n, spec_l22Reach_ok n, spec_Earliest_ok n, spec_l22Seek_ok n, spec_Travel_ok n, impl_in_ok n, impl_linePort_ok n, impl_minuteOk_ok n, impl_LegsOk_ok n, impl_lineRight_ok n, cmp_isNaN_int_ok n, cmp_Compare_int_ok n, impl_Earliest_1_ok n, slices_SortFunc_int_int__impl_Earliest_1_ok n, impl_changes_ok n, impl_Earliest_ok n, impl_Travel_1_ok n, impl_own_int_ok n, impl_Travel_ok n, laws_eqIntS_ok n, laws_eqLeg_ok n, laws_eqLegS_ok n, laws_markLegS_ok n, laws_markIntS_ok n, laws_heldIntS_ok n, laws_FnExactTravel_ok n, trivial⟩
theorem sem (n i : Nat) : SemOk (Phi n i) (CallOk Try.prog T) := phiE_ok (entsOk n) i
end Go.Sm.E3
