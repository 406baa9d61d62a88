import Derived.Test.YtjilmfkglikoeaaB3Tb
import Derived.KernelRfl
/- Each function's code computes what the plain function computes. -/
set_option linter.unusedSimpArgs false
set_option linter.deprecated false
set_option linter.unusedSectionVars false
set_option linter.unusedVariables false
set_option maxRecDepth 100000
open Go Go.Proofs
noncomputable section
namespace Go.Sm.B3
/-- By recursors, and of a greater height than all of the functions: the kernel takes these apart first. -/
def obind {α β : Type} (o : Option α) (f : α → Option β) : Option β := let _ := @laws_FnRaised; Option.rec (motive := fun _ => Option β) none (fun a => f a) o
theorem obind_some {α β : Type} {o : Option α} {f : α → Option β} {y : β} (h : obind o f = some y) : ∃ a, o = some a ∧ f a = some y := by
  cases o with
  | none => cases h
  | some a => exact ⟨a, rfl, h⟩
def ocons {β : Type} (l : List (A T)) (f : A T → List (A T) → Option β) : Option β := let _ := @laws_FnRaised; List.rec (motive := fun _ => Option β) none (fun a r _ => f a r) l
theorem ocons_some {β : Type} {l : List (A T)} {f : A T → List (A T) → Option β} {y : β} (h : ocons l f = some y) : ∃ a r, l = a :: r ∧ f a r = some y := by
  cases l with
  | nil => cases h
  | cons a r => exact ⟨a, r, rfl, h⟩
def onil {β : Type} (l : List (A T)) (x : Option β) : Option β := let _ := @laws_FnRaised; List.rec (motive := fun _ => Option β) x (fun _ _ _ => none) l
theorem onil_some {β : Type} {l : List (A T)} {x : Option β} {y : β} (h : onil l x = some y) : l = [] ∧ x = some y := by
  cases l with
  | nil => exact ⟨rfl, h⟩
  | cons a r => cases h
def laws_big_dec (res : Res T) : Option Bool := match res.rets, res.outs with
  | [a0], [] => (retV (T := T) 4 a0).bind fun r0 => some (r0)
  | _, _ => none
def laws_big_enc (y : Bool) : Res T := ⟨[vR T 4 y], []⟩
theorem laws_big_de (res : Res T) (y : Bool) (h : laws_big_dec res = some y) : res = laws_big_enc y := by
  obtain ⟨rets, outs⟩ := res
  unfold laws_big_dec at h
  dsimp only at h
  split at h
  · obtain ⟨r0, h0, h⟩ := Option.bind_eq_some_iff.1 h
    cases h
    rw [retV_eq ok h0]
    rfl
  · cases h
def spec_l1New_dec (res : Res T) : Option Sl1Cur := match res.rets, res.outs with
  | [a0], [] => (retP (T := T) 239 a0).bind fun r0 => some (r0)
  | _, _ => none
def spec_l1New_enc (y : Sl1Cur) : Res T := ⟨[.ptr 239 y], []⟩
theorem spec_l1New_de (res : Res T) (y : Sl1Cur) (h : spec_l1New_dec res = some y) : res = spec_l1New_enc y := by
  obtain ⟨rets, outs⟩ := res
  unfold spec_l1New_dec at h
  dsimp only at h
  split at h
  · obtain ⟨r0, h0, h⟩ := Option.bind_eq_some_iff.1 h
    cases h
    rw [retP_eq h0]
    rfl
  · cases h
def spec_l1Byte_dec (res : Res T) : Option (Int × Sl1Cur) := match res.rets, res.outs with
  | [a0], [b0] => (retV (T := T) 3 a0).bind fun r0 => (outV (T := T) 239 b0).bind fun r1 => some (r0, r1)
  | _, _ => none
def spec_l1Byte_enc (y : Int × Sl1Cur) : Res T := ⟨[vR T 3 y.1], [.var 239 y.2]⟩
theorem spec_l1Byte_de (res : Res T) (y : Int × Sl1Cur) (h : spec_l1Byte_dec res = some y) : res = spec_l1Byte_enc y := by
  obtain ⟨rets, outs⟩ := res
  unfold spec_l1Byte_dec at h
  dsimp only at h
  split at h
  · obtain ⟨r0, h0, h⟩ := Option.bind_eq_some_iff.1 h
    obtain ⟨r1, h1, h⟩ := Option.bind_eq_some_iff.1 h
    cases h
    rw [retV_eq ok h0, outV_eq h1]
    rfl
  · cases h
def spec_l1Below_dec (res : Res T) : Option (Int × Sl1Cur) := match res.rets, res.outs with
  | [a0], [b0] => (retV (T := T) 3 a0).bind fun r0 => (outV (T := T) 239 b0).bind fun r1 => some (r0, r1)
  | _, _ => none
def spec_l1Below_enc (y : Int × Sl1Cur) : Res T := ⟨[vR T 3 y.1], [.var 239 y.2]⟩
theorem spec_l1Below_de (res : Res T) (y : Int × Sl1Cur) (h : spec_l1Below_dec res = some y) : res = spec_l1Below_enc y := by
  obtain ⟨rets, outs⟩ := res
  unfold spec_l1Below_dec at h
  dsimp only at h
  split at h
  · obtain ⟨r0, h0, h⟩ := Option.bind_eq_some_iff.1 h
    obtain ⟨r1, h1, h⟩ := Option.bind_eq_some_iff.1 h
    cases h
    rw [retV_eq ok h0, outV_eq h1]
    rfl
  · cases h
def spec_l1Once_dec (res : Res T) : Option (Bool × Sl1Cur) := match res.rets, res.outs with
  | [a0], [b0] => (retV (T := T) 4 a0).bind fun r0 => (outV (T := T) 239 b0).bind fun r1 => some (r0, r1)
  | _, _ => none
def spec_l1Once_enc (y : Bool × Sl1Cur) : Res T := ⟨[vR T 4 y.1], [.var 239 y.2]⟩
theorem spec_l1Once_de (res : Res T) (y : Bool × Sl1Cur) (h : spec_l1Once_dec res = some y) : res = spec_l1Once_enc y := by
  obtain ⟨rets, outs⟩ := res
  unfold spec_l1Once_dec at h
  dsimp only at h
  split at h
  · obtain ⟨r0, h0, h⟩ := Option.bind_eq_some_iff.1 h
    obtain ⟨r1, h1, h⟩ := Option.bind_eq_some_iff.1 h
    cases h
    rw [retV_eq ok h0, outV_eq h1]
    rfl
  · cases h
def spec_l1DrawHull_dec (res : Res T) : Option (SHull × Sl1Cur) := match res.rets, res.outs with
  | [a0], [b0] => (retV (T := T) 26 a0).bind fun r0 => (outV (T := T) 239 b0).bind fun r1 => some (r0, r1)
  | _, _ => none
def spec_l1DrawHull_enc (y : SHull × Sl1Cur) : Res T := ⟨[vR T 26 y.1], [.var 239 y.2]⟩
theorem spec_l1DrawHull_de (res : Res T) (y : SHull × Sl1Cur) (h : spec_l1DrawHull_dec res = some y) : res = spec_l1DrawHull_enc y := by
  obtain ⟨rets, outs⟩ := res
  unfold spec_l1DrawHull_dec at h
  dsimp only at h
  split at h
  · obtain ⟨r0, h0, h⟩ := Option.bind_eq_some_iff.1 h
    obtain ⟨r1, h1, h⟩ := Option.bind_eq_some_iff.1 h
    cases h
    rw [retV_eq ok h0, outV_eq h1]
    rfl
  · cases h
def spec_DrawRightHull_dec (res : Res T) : Option (SHull × Int) := match res.rets, res.outs with
  | [a0, a1], [] => (retV (T := T) 26 a0).bind fun r0 => (retV (T := T) 3 a1).bind fun r1 => some (r0, r1)
  | _, _ => none
def spec_DrawRightHull_enc (y : SHull × Int) : Res T := ⟨[vR T 26 y.1, vR T 3 y.2], []⟩
theorem spec_DrawRightHull_de (res : Res T) (y : SHull × Int) (h : spec_DrawRightHull_dec res = some y) : res = spec_DrawRightHull_enc y := by
  obtain ⟨rets, outs⟩ := res
  unfold spec_DrawRightHull_dec at h
  dsimp only at h
  split at h
  · obtain ⟨r0, h0, h⟩ := Option.bind_eq_some_iff.1 h
    obtain ⟨r1, h1, h⟩ := Option.bind_eq_some_iff.1 h
    cases h
    rw [retV_eq ok h0, retV_eq ok h1]
    rfl
  · cases h
def laws_at_dec (res : Res T) : Option Int := match res.rets, res.outs with
  | [a0], [] => (retV (T := T) 3 a0).bind fun r0 => some (r0)
  | _, _ => none
def laws_at_enc (y : Int) : Res T := ⟨[vR T 3 y], []⟩
theorem laws_at_de (res : Res T) (y : Int) (h : laws_at_dec res = some y) : res = laws_at_enc y := by
  obtain ⟨rets, outs⟩ := res
  unfold laws_at_dec at h
  dsimp only at h
  split at h
  · obtain ⟨r0, h0, h⟩ := Option.bind_eq_some_iff.1 h
    cases h
    rw [retV_eq ok h0]
    rfl
  · cases h
def impl_in_dec (res : Res T) : Option Bool := match res.rets, res.outs with
  | [a0], [] => (retV (T := T) 4 a0).bind fun r0 => some (r0)
  | _, _ => none
def impl_in_enc (y : Bool) : Res T := ⟨[vR T 4 y], []⟩
theorem impl_in_de (res : Res T) (y : Bool) (h : impl_in_dec res = some y) : res = impl_in_enc y := by
  obtain ⟨rets, outs⟩ := res
  unfold impl_in_dec at h
  dsimp only at h
  split at h
  · obtain ⟨r0, h0, h⟩ := Option.bind_eq_some_iff.1 h
    cases h
    rw [retV_eq ok h0]
    rfl
  · cases h
def impl_all_1_dec (res : Res T) : Option Bool := match res.rets, res.outs with
  | [a0], [] => (retV (T := T) 4 a0).bind fun r0 => some (r0)
  | _, _ => none
def impl_all_1_enc (y : Bool) : Res T := ⟨[vR T 4 y], []⟩
theorem impl_all_1_de (res : Res T) (y : Bool) (h : impl_all_1_dec res = some y) : res = impl_all_1_enc y := by
  obtain ⟨rets, outs⟩ := res
  unfold impl_all_1_dec at h
  dsimp only at h
  split at h
  · obtain ⟨r0, h0, h⟩ := Option.bind_eq_some_iff.1 h
    cases h
    rw [retV_eq ok h0]
    rfl
  · cases h
def slices_IndexFunc_int_int__impl_all_1_dec (res : Res T) : Option Int := match res.rets, res.outs with
  | [a0], [] => (retV (T := T) 3 a0).bind fun r0 => some (r0)
  | _, _ => none
def slices_IndexFunc_int_int__impl_all_1_enc (y : Int) : Res T := ⟨[vR T 3 y], []⟩
theorem slices_IndexFunc_int_int__impl_all_1_de (res : Res T) (y : Int) (h : slices_IndexFunc_int_int__impl_all_1_dec res = some y) : res = slices_IndexFunc_int_int__impl_all_1_enc y := by
  obtain ⟨rets, outs⟩ := res
  unfold slices_IndexFunc_int_int__impl_all_1_dec at h
  dsimp only at h
  split at h
  · obtain ⟨r0, h0, h⟩ := Option.bind_eq_some_iff.1 h
    cases h
    rw [retV_eq ok h0]
    rfl
  · cases h
def slices_ContainsFunc_int_int__impl_all_1_dec (res : Res T) : Option Bool := match res.rets, res.outs with
  | [a0], [] => (retV (T := T) 4 a0).bind fun r0 => some (r0)
  | _, _ => none
def slices_ContainsFunc_int_int__impl_all_1_enc (y : Bool) : Res T := ⟨[vR T 4 y], []⟩
theorem slices_ContainsFunc_int_int__impl_all_1_de (res : Res T) (y : Bool) (h : slices_ContainsFunc_int_int__impl_all_1_dec res = some y) : res = slices_ContainsFunc_int_int__impl_all_1_enc y := by
  obtain ⟨rets, outs⟩ := res
  unfold slices_ContainsFunc_int_int__impl_all_1_dec at h
  dsimp only at h
  split at h
  · obtain ⟨r0, h0, h⟩ := Option.bind_eq_some_iff.1 h
    cases h
    rw [retV_eq ok h0]
    rfl
  · cases h
def impl_all_dec (res : Res T) : Option Bool := match res.rets, res.outs with
  | [a0], [] => (retV (T := T) 4 a0).bind fun r0 => some (r0)
  | _, _ => none
def impl_all_enc (y : Bool) : Res T := ⟨[vR T 4 y], []⟩
theorem impl_all_de (res : Res T) (y : Bool) (h : impl_all_dec res = some y) : res = impl_all_enc y := by
  obtain ⟨rets, outs⟩ := res
  unfold impl_all_dec at h
  dsimp only at h
  split at h
  · obtain ⟨r0, h0, h⟩ := Option.bind_eq_some_iff.1 h
    cases h
    rw [retV_eq ok h0]
    rfl
  · cases h
def impl_HullOk_dec (res : Res T) : Option Bool := match res.rets, res.outs with
  | [a0], [] => (retV (T := T) 4 a0).bind fun r0 => some (r0)
  | _, _ => none
def impl_HullOk_enc (y : Bool) : Res T := ⟨[vR T 4 y], []⟩
theorem impl_HullOk_de (res : Res T) (y : Bool) (h : impl_HullOk_dec res = some y) : res = impl_HullOk_enc y := by
  obtain ⟨rets, outs⟩ := res
  unfold impl_HullOk_dec at h
  dsimp only at h
  split at h
  · obtain ⟨r0, h0, h⟩ := Option.bind_eq_some_iff.1 h
    cases h
    rw [retV_eq ok h0]
    rfl
  · cases h
def impl_waterOk_dec (res : Res T) : Option Bool := match res.rets, res.outs with
  | [a0], [] => (retV (T := T) 4 a0).bind fun r0 => some (r0)
  | _, _ => none
def impl_waterOk_enc (y : Bool) : Res T := ⟨[vR T 4 y], []⟩
theorem impl_waterOk_de (res : Res T) (y : Bool) (h : impl_waterOk_dec res = some y) : res = impl_waterOk_enc y := by
  obtain ⟨rets, outs⟩ := res
  unfold impl_waterOk_dec at h
  dsimp only at h
  split at h
  · obtain ⟨r0, h0, h⟩ := Option.bind_eq_some_iff.1 h
    cases h
    rw [retV_eq ok h0]
    rfl
  · cases h
def impl_Strips2_dec (res : Res T) : Option (List Int) := match res.rets, res.outs with
  | [a0], [] => (retV (T := T) 55 a0).bind fun r0 => some (r0)
  | _, _ => none
def impl_Strips2_enc (y : List Int) : Res T := ⟨[vR T 55 y], []⟩
theorem impl_Strips2_de (res : Res T) (y : List Int) (h : impl_Strips2_dec res = some y) : res = impl_Strips2_enc y := by
  obtain ⟨rets, outs⟩ := res
  unfold impl_Strips2_dec at h
  dsimp only at h
  split at h
  · obtain ⟨r0, h0, h⟩ := Option.bind_eq_some_iff.1 h
    cases h
    rw [retV_eq ok h0]
    rfl
  · cases h
def impl_sumOf_dec (res : Res T) : Option Int := match res.rets, res.outs with
  | [a0], [] => (retV (T := T) 3 a0).bind fun r0 => some (r0)
  | _, _ => none
def impl_sumOf_enc (y : Int) : Res T := ⟨[vR T 3 y], []⟩
theorem impl_sumOf_de (res : Res T) (y : Int) (h : impl_sumOf_dec res = some y) : res = impl_sumOf_enc y := by
  obtain ⟨rets, outs⟩ := res
  unfold impl_sumOf_dec at h
  dsimp only at h
  split at h
  · obtain ⟨r0, h0, h⟩ := Option.bind_eq_some_iff.1 h
    cases h
    rw [retV_eq ok h0]
    rfl
  · cases h
def impl_Volume2_dec (res : Res T) : Option Int := match res.rets, res.outs with
  | [a0], [] => (retV (T := T) 3 a0).bind fun r0 => some (r0)
  | _, _ => none
def impl_Volume2_enc (y : Int) : Res T := ⟨[vR T 3 y], []⟩
theorem impl_Volume2_de (res : Res T) (y : Int) (h : impl_Volume2_dec res = some y) : res = impl_Volume2_enc y := by
  obtain ⟨rets, outs⟩ := res
  unfold impl_Volume2_dec at h
  dsimp only at h
  split at h
  · obtain ⟨r0, h0, h⟩ := Option.bind_eq_some_iff.1 h
    cases h
    rw [retV_eq ok h0]
    rfl
  · cases h
def impl_MassesOk_1_dec (res : Res T) : Option Bool := match res.rets, res.outs with
  | [a0], [] => (retV (T := T) 4 a0).bind fun r0 => some (r0)
  | _, _ => none
def impl_MassesOk_1_enc (y : Bool) : Res T := ⟨[vR T 4 y], []⟩
theorem impl_MassesOk_1_de (res : Res T) (y : Bool) (h : impl_MassesOk_1_dec res = some y) : res = impl_MassesOk_1_enc y := by
  obtain ⟨rets, outs⟩ := res
  unfold impl_MassesOk_1_dec at h
  dsimp only at h
  split at h
  · obtain ⟨r0, h0, h⟩ := Option.bind_eq_some_iff.1 h
    cases h
    rw [retV_eq ok h0]
    rfl
  · cases h
def slices_IndexFunc_impl_Mass_impl_Mass__impl_MassesOk_1_dec (res : Res T) : Option Int := match res.rets, res.outs with
  | [a0], [] => (retV (T := T) 3 a0).bind fun r0 => some (r0)
  | _, _ => none
def slices_IndexFunc_impl_Mass_impl_Mass__impl_MassesOk_1_enc (y : Int) : Res T := ⟨[vR T 3 y], []⟩
theorem slices_IndexFunc_impl_Mass_impl_Mass__impl_MassesOk_1_de (res : Res T) (y : Int) (h : slices_IndexFunc_impl_Mass_impl_Mass__impl_MassesOk_1_dec res = some y) : res = slices_IndexFunc_impl_Mass_impl_Mass__impl_MassesOk_1_enc y := by
  obtain ⟨rets, outs⟩ := res
  unfold slices_IndexFunc_impl_Mass_impl_Mass__impl_MassesOk_1_dec at h
  dsimp only at h
  split at h
  · obtain ⟨r0, h0, h⟩ := Option.bind_eq_some_iff.1 h
    cases h
    rw [retV_eq ok h0]
    rfl
  · cases h
def slices_ContainsFunc_impl_Mass_impl_Mass__impl_MassesOk_1_dec (res : Res T) : Option Bool := match res.rets, res.outs with
  | [a0], [] => (retV (T := T) 4 a0).bind fun r0 => some (r0)
  | _, _ => none
def slices_ContainsFunc_impl_Mass_impl_Mass__impl_MassesOk_1_enc (y : Bool) : Res T := ⟨[vR T 4 y], []⟩
theorem slices_ContainsFunc_impl_Mass_impl_Mass__impl_MassesOk_1_de (res : Res T) (y : Bool) (h : slices_ContainsFunc_impl_Mass_impl_Mass__impl_MassesOk_1_dec res = some y) : res = slices_ContainsFunc_impl_Mass_impl_Mass__impl_MassesOk_1_enc y := by
  obtain ⟨rets, outs⟩ := res
  unfold slices_ContainsFunc_impl_Mass_impl_Mass__impl_MassesOk_1_dec at h
  dsimp only at h
  split at h
  · obtain ⟨r0, h0, h⟩ := Option.bind_eq_some_iff.1 h
    cases h
    rw [retV_eq ok h0]
    rfl
  · cases h
def impl_MassesOk_dec (res : Res T) : Option Bool := match res.rets, res.outs with
  | [a0], [] => (retV (T := T) 4 a0).bind fun r0 => some (r0)
  | _, _ => none
def impl_MassesOk_enc (y : Bool) : Res T := ⟨[vR T 4 y], []⟩
theorem impl_MassesOk_de (res : Res T) (y : Bool) (h : impl_MassesOk_dec res = some y) : res = impl_MassesOk_enc y := by
  obtain ⟨rets, outs⟩ := res
  unfold impl_MassesOk_dec at h
  dsimp only at h
  split at h
  · obtain ⟨r0, h0, h⟩ := Option.bind_eq_some_iff.1 h
    cases h
    rw [retV_eq ok h0]
    rfl
  · cases h
def impl_LoadOf_dec (res : Res T) : Option (SLoad × Bool) := match res.rets, res.outs with
  | [a0, a1], [] => (retV (T := T) 38 a0).bind fun r0 => (retV (T := T) 4 a1).bind fun r1 => some (r0, r1)
  | _, _ => none
def impl_LoadOf_enc (y : SLoad × Bool) : Res T := ⟨[vR T 38 y.1, vR T 4 y.2], []⟩
theorem impl_LoadOf_de (res : Res T) (y : SLoad × Bool) (h : impl_LoadOf_dec res = some y) : res = impl_LoadOf_enc y := by
  obtain ⟨rets, outs⟩ := res
  unfold impl_LoadOf_dec at h
  dsimp only at h
  split at h
  · obtain ⟨r0, h0, h⟩ := Option.bind_eq_some_iff.1 h
    obtain ⟨r1, h1, h⟩ := Option.bind_eq_some_iff.1 h
    cases h
    rw [retV_eq ok h0, retV_eq ok h1]
    rfl
  · cases h
def impl_tanksOk_1_dec (res : Res T) : Option Bool := match res.rets, res.outs with
  | [a0], [] => (retV (T := T) 4 a0).bind fun r0 => some (r0)
  | _, _ => none
def impl_tanksOk_1_enc (y : Bool) : Res T := ⟨[vR T 4 y], []⟩
theorem impl_tanksOk_1_de (res : Res T) (y : Bool) (h : impl_tanksOk_1_dec res = some y) : res = impl_tanksOk_1_enc y := by
  obtain ⟨rets, outs⟩ := res
  unfold impl_tanksOk_1_dec at h
  dsimp only at h
  split at h
  · obtain ⟨r0, h0, h⟩ := Option.bind_eq_some_iff.1 h
    cases h
    rw [retV_eq ok h0]
    rfl
  · cases h
def slices_IndexFunc_impl_Tank_impl_Tank__impl_tanksOk_1_dec (res : Res T) : Option Int := match res.rets, res.outs with
  | [a0], [] => (retV (T := T) 3 a0).bind fun r0 => some (r0)
  | _, _ => none
def slices_IndexFunc_impl_Tank_impl_Tank__impl_tanksOk_1_enc (y : Int) : Res T := ⟨[vR T 3 y], []⟩
theorem slices_IndexFunc_impl_Tank_impl_Tank__impl_tanksOk_1_de (res : Res T) (y : Int) (h : slices_IndexFunc_impl_Tank_impl_Tank__impl_tanksOk_1_dec res = some y) : res = slices_IndexFunc_impl_Tank_impl_Tank__impl_tanksOk_1_enc y := by
  obtain ⟨rets, outs⟩ := res
  unfold slices_IndexFunc_impl_Tank_impl_Tank__impl_tanksOk_1_dec at h
  dsimp only at h
  split at h
  · obtain ⟨r0, h0, h⟩ := Option.bind_eq_some_iff.1 h
    cases h
    rw [retV_eq ok h0]
    rfl
  · cases h
def slices_ContainsFunc_impl_Tank_impl_Tank__impl_tanksOk_1_dec (res : Res T) : Option Bool := match res.rets, res.outs with
  | [a0], [] => (retV (T := T) 4 a0).bind fun r0 => some (r0)
  | _, _ => none
def slices_ContainsFunc_impl_Tank_impl_Tank__impl_tanksOk_1_enc (y : Bool) : Res T := ⟨[vR T 4 y], []⟩
theorem slices_ContainsFunc_impl_Tank_impl_Tank__impl_tanksOk_1_de (res : Res T) (y : Bool) (h : slices_ContainsFunc_impl_Tank_impl_Tank__impl_tanksOk_1_dec res = some y) : res = slices_ContainsFunc_impl_Tank_impl_Tank__impl_tanksOk_1_enc y := by
  obtain ⟨rets, outs⟩ := res
  unfold slices_ContainsFunc_impl_Tank_impl_Tank__impl_tanksOk_1_dec at h
  dsimp only at h
  split at h
  · obtain ⟨r0, h0, h⟩ := Option.bind_eq_some_iff.1 h
    cases h
    rw [retV_eq ok h0]
    rfl
  · cases h
def impl_tanksOk_dec (res : Res T) : Option Bool := match res.rets, res.outs with
  | [a0], [] => (retV (T := T) 4 a0).bind fun r0 => some (r0)
  | _, _ => none
def impl_tanksOk_enc (y : Bool) : Res T := ⟨[vR T 4 y], []⟩
theorem impl_tanksOk_de (res : Res T) (y : Bool) (h : impl_tanksOk_dec res = some y) : res = impl_tanksOk_enc y := by
  obtain ⟨rets, outs⟩ := res
  unfold impl_tanksOk_dec at h
  dsimp only at h
  split at h
  · obtain ⟨r0, h0, h⟩ := Option.bind_eq_some_iff.1 h
    cases h
    rw [retV_eq ok h0]
    rfl
  · cases h
def impl_Plane_1_dec (res : Res T) : Option Int := match res.rets, res.outs with
  | [a0], [] => (retV (T := T) 3 a0).bind fun r0 => some (r0)
  | _, _ => none
def impl_Plane_1_enc (y : Int) : Res T := ⟨[vR T 3 y], []⟩
theorem impl_Plane_1_de (res : Res T) (y : Int) (h : impl_Plane_1_dec res = some y) : res = impl_Plane_1_enc y := by
  obtain ⟨rets, outs⟩ := res
  unfold impl_Plane_1_dec at h
  dsimp only at h
  split at h
  · obtain ⟨r0, h0, h⟩ := Option.bind_eq_some_iff.1 h
    cases h
    rw [retV_eq ok h0]
    rfl
  · cases h
def impl_strips__impl_Plane_1_dec (res : Res T) : Option Int := match res.rets, res.outs with
  | [a0], [] => (retV (T := T) 3 a0).bind fun r0 => some (r0)
  | _, _ => none
def impl_strips__impl_Plane_1_enc (y : Int) : Res T := ⟨[vR T 3 y], []⟩
theorem impl_strips__impl_Plane_1_de (res : Res T) (y : Int) (h : impl_strips__impl_Plane_1_dec res = some y) : res = impl_strips__impl_Plane_1_enc y := by
  obtain ⟨rets, outs⟩ := res
  unfold impl_strips__impl_Plane_1_dec at h
  dsimp only at h
  split at h
  · obtain ⟨r0, h0, h⟩ := Option.bind_eq_some_iff.1 h
    cases h
    rw [retV_eq ok h0]
    rfl
  · cases h
def impl_Plane_dec (res : Res T) : Option Int := match res.rets, res.outs with
  | [a0], [] => (retV (T := T) 3 a0).bind fun r0 => some (r0)
  | _, _ => none
def impl_Plane_enc (y : Int) : Res T := ⟨[vR T 3 y], []⟩
theorem impl_Plane_de (res : Res T) (y : Int) (h : impl_Plane_dec res = some y) : res = impl_Plane_enc y := by
  obtain ⟨rets, outs⟩ := res
  unfold impl_Plane_dec at h
  dsimp only at h
  split at h
  · obtain ⟨r0, h0, h⟩ := Option.bind_eq_some_iff.1 h
    cases h
    rw [retV_eq ok h0]
    rfl
  · cases h
def impl_Height4_dec (res : Res T) : Option Int := match res.rets, res.outs with
  | [a0], [] => (retV (T := T) 3 a0).bind fun r0 => some (r0)
  | _, _ => none
def impl_Height4_enc (y : Int) : Res T := ⟨[vR T 3 y], []⟩
theorem impl_Height4_de (res : Res T) (y : Int) (h : impl_Height4_dec res = some y) : res = impl_Height4_enc y := by
  obtain ⟨rets, outs⟩ := res
  unfold impl_Height4_dec at h
  dsimp only at h
  split at h
  · obtain ⟨r0, h0, h⟩ := Option.bind_eq_some_iff.1 h
    cases h
    rw [retV_eq ok h0]
    rfl
  · cases h
def impl_Inertia3_1_dec (res : Res T) : Option Int := match res.rets, res.outs with
  | [a0], [] => (retV (T := T) 3 a0).bind fun r0 => some (r0)
  | _, _ => none
def impl_Inertia3_1_enc (y : Int) : Res T := ⟨[vR T 3 y], []⟩
theorem impl_Inertia3_1_de (res : Res T) (y : Int) (h : impl_Inertia3_1_dec res = some y) : res = impl_Inertia3_1_enc y := by
  obtain ⟨rets, outs⟩ := res
  unfold impl_Inertia3_1_dec at h
  dsimp only at h
  split at h
  · obtain ⟨r0, h0, h⟩ := Option.bind_eq_some_iff.1 h
    cases h
    rw [retV_eq ok h0]
    rfl
  · cases h
def impl_strips__impl_Inertia3_1_dec (res : Res T) : Option Int := match res.rets, res.outs with
  | [a0], [] => (retV (T := T) 3 a0).bind fun r0 => some (r0)
  | _, _ => none
def impl_strips__impl_Inertia3_1_enc (y : Int) : Res T := ⟨[vR T 3 y], []⟩
theorem impl_strips__impl_Inertia3_1_de (res : Res T) (y : Int) (h : impl_strips__impl_Inertia3_1_dec res = some y) : res = impl_strips__impl_Inertia3_1_enc y := by
  obtain ⟨rets, outs⟩ := res
  unfold impl_strips__impl_Inertia3_1_dec at h
  dsimp only at h
  split at h
  · obtain ⟨r0, h0, h⟩ := Option.bind_eq_some_iff.1 h
    cases h
    rw [retV_eq ok h0]
    rfl
  · cases h
def impl_Inertia3_dec (res : Res T) : Option Int := match res.rets, res.outs with
  | [a0], [] => (retV (T := T) 3 a0).bind fun r0 => some (r0)
  | _, _ => none
def impl_Inertia3_enc (y : Int) : Res T := ⟨[vR T 3 y], []⟩
theorem impl_Inertia3_de (res : Res T) (y : Int) (h : impl_Inertia3_dec res = some y) : res = impl_Inertia3_enc y := by
  obtain ⟨rets, outs⟩ := res
  unfold impl_Inertia3_dec at h
  dsimp only at h
  split at h
  · obtain ⟨r0, h0, h⟩ := Option.bind_eq_some_iff.1 h
    cases h
    rw [retV_eq ok h0]
    rfl
  · cases h
def impl_size_dec (res : Res T) : Option Int := match res.rets, res.outs with
  | [a0], [] => (retV (T := T) 3 a0).bind fun r0 => some (r0)
  | _, _ => none
def impl_size_enc (y : Int) : Res T := ⟨[vR T 3 y], []⟩
theorem impl_size_de (res : Res T) (y : Int) (h : impl_size_dec res = some y) : res = impl_size_enc y := by
  obtain ⟨rets, outs⟩ := res
  unfold impl_size_dec at h
  dsimp only at h
  split at h
  · obtain ⟨r0, h0, h⟩ := Option.bind_eq_some_iff.1 h
    cases h
    rw [retV_eq ok h0]
    rfl
  · cases h
def impl_gcd_dec (res : Res T) : Option Int := match res.rets, res.outs with
  | [a0], [] => (retV (T := T) 3 a0).bind fun r0 => some (r0)
  | _, _ => none
def impl_gcd_enc (y : Int) : Res T := ⟨[vR T 3 y], []⟩
theorem impl_gcd_de (res : Res T) (y : Int) (h : impl_gcd_dec res = some y) : res = impl_gcd_enc y := by
  obtain ⟨rets, outs⟩ := res
  unfold impl_gcd_dec at h
  dsimp only at h
  split at h
  · obtain ⟨r0, h0, h⟩ := Option.bind_eq_some_iff.1 h
    cases h
    rw [retV_eq ok h0]
    rfl
  · cases h
def impl_fracOf_dec (res : Res T) : Option SFrac := match res.rets, res.outs with
  | [a0], [] => (retV (T := T) 34 a0).bind fun r0 => some (r0)
  | _, _ => none
def impl_fracOf_enc (y : SFrac) : Res T := ⟨[vR T 34 y], []⟩
theorem impl_fracOf_de (res : Res T) (y : SFrac) (h : impl_fracOf_dec res = some y) : res = impl_fracOf_enc y := by
  obtain ⟨rets, outs⟩ := res
  unfold impl_fracOf_dec at h
  dsimp only at h
  split at h
  · obtain ⟨r0, h0, h⟩ := Option.bind_eq_some_iff.1 h
    cases h
    rw [retV_eq ok h0]
    rfl
  · cases h
def impl_Metacentre_dec (res : Res T) : Option (SFrac × Bool) := match res.rets, res.outs with
  | [a0, a1], [] => (retV (T := T) 34 a0).bind fun r0 => (retV (T := T) 4 a1).bind fun r1 => some (r0, r1)
  | _, _ => none
def impl_Metacentre_enc (y : SFrac × Bool) : Res T := ⟨[vR T 34 y.1, vR T 4 y.2], []⟩
theorem impl_Metacentre_de (res : Res T) (y : SFrac × Bool) (h : impl_Metacentre_dec res = some y) : res = impl_Metacentre_enc y := by
  obtain ⟨rets, outs⟩ := res
  unfold impl_Metacentre_dec at h
  dsimp only at h
  split at h
  · obtain ⟨r0, h0, h⟩ := Option.bind_eq_some_iff.1 h
    obtain ⟨r1, h1, h⟩ := Option.bind_eq_some_iff.1 h
    cases h
    rw [retV_eq ok h0, retV_eq ok h1]
    rfl
  · cases h
def spec_l1In_dec (res : Res T) : Option Bool := match res.rets, res.outs with
  | [a0], [] => (retV (T := T) 4 a0).bind fun r0 => some (r0)
  | _, _ => none
def spec_l1In_enc (y : Bool) : Res T := ⟨[vR T 4 y], []⟩
theorem spec_l1In_de (res : Res T) (y : Bool) (h : spec_l1In_dec res = some y) : res = spec_l1In_enc y := by
  obtain ⟨rets, outs⟩ := res
  unfold spec_l1In_dec at h
  dsimp only at h
  split at h
  · obtain ⟨r0, h0, h⟩ := Option.bind_eq_some_iff.1 h
    cases h
    rw [retV_eq ok h0]
    rfl
  · cases h
def spec_HullOk_dec (res : Res T) : Option Bool := match res.rets, res.outs with
  | [a0], [] => (retV (T := T) 4 a0).bind fun r0 => some (r0)
  | _, _ => none
def spec_HullOk_enc (y : Bool) : Res T := ⟨[vR T 4 y], []⟩
theorem spec_HullOk_de (res : Res T) (y : Bool) (h : spec_HullOk_dec res = some y) : res = spec_HullOk_enc y := by
  obtain ⟨rets, outs⟩ := res
  unfold spec_HullOk_dec at h
  dsimp only at h
  split at h
  · obtain ⟨r0, h0, h⟩ := Option.bind_eq_some_iff.1 h
    cases h
    rw [retV_eq ok h0]
    rfl
  · cases h
def spec_l1Water_dec (res : Res T) : Option Bool := match res.rets, res.outs with
  | [a0], [] => (retV (T := T) 4 a0).bind fun r0 => some (r0)
  | _, _ => none
def spec_l1Water_enc (y : Bool) : Res T := ⟨[vR T 4 y], []⟩
theorem spec_l1Water_de (res : Res T) (y : Bool) (h : spec_l1Water_dec res = some y) : res = spec_l1Water_enc y := by
  obtain ⟨rets, outs⟩ := res
  unfold spec_l1Water_dec at h
  dsimp only at h
  split at h
  · obtain ⟨r0, h0, h⟩ := Option.bind_eq_some_iff.1 h
    cases h
    rw [retV_eq ok h0]
    rfl
  · cases h
def spec_Strips2_dec (res : Res T) : Option (List Int) := match res.rets, res.outs with
  | [a0], [] => (retV (T := T) 55 a0).bind fun r0 => some (r0)
  | _, _ => none
def spec_Strips2_enc (y : List Int) : Res T := ⟨[vR T 55 y], []⟩
theorem spec_Strips2_de (res : Res T) (y : List Int) (h : spec_Strips2_dec res = some y) : res = spec_Strips2_enc y := by
  obtain ⟨rets, outs⟩ := res
  unfold spec_Strips2_dec at h
  dsimp only at h
  split at h
  · obtain ⟨r0, h0, h⟩ := Option.bind_eq_some_iff.1 h
    cases h
    rw [retV_eq ok h0]
    rfl
  · cases h
def spec_l1Sum_dec (res : Res T) : Option Int := match res.rets, res.outs with
  | [a0], [] => (retV (T := T) 3 a0).bind fun r0 => some (r0)
  | _, _ => none
def spec_l1Sum_enc (y : Int) : Res T := ⟨[vR T 3 y], []⟩
theorem spec_l1Sum_de (res : Res T) (y : Int) (h : spec_l1Sum_dec res = some y) : res = spec_l1Sum_enc y := by
  obtain ⟨rets, outs⟩ := res
  unfold spec_l1Sum_dec at h
  dsimp only at h
  split at h
  · obtain ⟨r0, h0, h⟩ := Option.bind_eq_some_iff.1 h
    cases h
    rw [retV_eq ok h0]
    rfl
  · cases h
def spec_Volume2_dec (res : Res T) : Option Int := match res.rets, res.outs with
  | [a0], [] => (retV (T := T) 3 a0).bind fun r0 => some (r0)
  | _, _ => none
def spec_Volume2_enc (y : Int) : Res T := ⟨[vR T 3 y], []⟩
theorem spec_Volume2_de (res : Res T) (y : Int) (h : spec_Volume2_dec res = some y) : res = spec_Volume2_enc y := by
  obtain ⟨rets, outs⟩ := res
  unfold spec_Volume2_dec at h
  dsimp only at h
  split at h
  · obtain ⟨r0, h0, h⟩ := Option.bind_eq_some_iff.1 h
    cases h
    rw [retV_eq ok h0]
    rfl
  · cases h
def laws_less_dec (res : Res T) : Option Bool := match res.rets, res.outs with
  | [a0], [] => (retV (T := T) 4 a0).bind fun r0 => some (r0)
  | _, _ => none
def laws_less_enc (y : Bool) : Res T := ⟨[vR T 4 y], []⟩
theorem laws_less_de (res : Res T) (y : Bool) (h : laws_less_dec res = some y) : res = laws_less_enc y := by
  obtain ⟨rets, outs⟩ := res
  unfold laws_less_dec at h
  dsimp only at h
  split at h
  · obtain ⟨r0, h0, h⟩ := Option.bind_eq_some_iff.1 h
    cases h
    rw [retV_eq ok h0]
    rfl
  · cases h
def laws_FnRaised_dec (res : Res T) : Option Bool := match res.rets, res.outs with
  | [a0], [] => (retV (T := T) 4 a0).bind fun r0 => some (r0)
  | _, _ => none
def laws_FnRaised_enc (y : Bool) : Res T := ⟨[vR T 4 y], []⟩
theorem laws_FnRaised_de (res : Res T) (y : Bool) (h : laws_FnRaised_dec res = some y) : res = laws_FnRaised_enc y := by
  obtain ⟨rets, outs⟩ := res
  unfold laws_FnRaised_dec at h
  dsimp only at h
  split at h
  · obtain ⟨r0, h0, h⟩ := Option.bind_eq_some_iff.1 h
    cases h
    rw [retV_eq ok h0]
    rfl
  · cases h
def laws_big_D (n : Nat) (r0 : List (A T)) : Option Bool := ocons r0 fun a0 r1 => onil r1 (obind (argV (T := T) 22 a0) fun code0 => laws_big n code0)
def laws_big_ent (n : Nat) : Ent T := ⟨15, 0, [], Bool, laws_big_D n, laws_big_enc⟩
def spec_l1New_D (n : Nat) (r0 : List (A T)) : Option Sl1Cur := ocons r0 fun a0 r1 => onil r1 (obind (argV (T := T) 22 a0) fun code0 => spec_l1New n code0)
def spec_l1New_ent (n : Nat) : Ent T := ⟨87, 1, [], Sl1Cur, spec_l1New_D n, spec_l1New_enc⟩
def spec_l1Byte_D (n : Nat) (r0 : List (A T)) : Option (Int × Sl1Cur) := ocons r0 fun a0 r1 => onil r1 (obind (argP (T := T) 239 a0) fun c0 => spec_l1Byte n c0)
def spec_l1Byte_ent (n : Nat) : Ent T := ⟨176, 2, [], Int × Sl1Cur, spec_l1Byte_D n, spec_l1Byte_enc⟩
def spec_l1Below_D (n : Nat) (r0 : List (A T)) : Option (Int × Sl1Cur) := ocons r0 fun a0 r1 => ocons r1 fun a1 r2 => onil r2 (obind (argP (T := T) 239 a0) fun c0 => obind (argV (T := T) 3 a1) fun n1 => spec_l1Below n c0 n1)
def spec_l1Below_ent (n : Nat) : Ent T := ⟨89, 3, [], Int × Sl1Cur, spec_l1Below_D n, spec_l1Below_enc⟩
def spec_l1Once_D (n : Nat) (r0 : List (A T)) : Option (Bool × Sl1Cur) := ocons r0 fun a0 r1 => ocons r1 fun a1 r2 => onil r2 (obind (argP (T := T) 239 a0) fun c0 => obind (argV (T := T) 3 a1) fun n1 => spec_l1Once n c0 n1)
def spec_l1Once_ent (n : Nat) : Ent T := ⟨175, 4, [], Bool × Sl1Cur, spec_l1Once_D n, spec_l1Once_enc⟩
def spec_l1DrawHull_D (n : Nat) (r0 : List (A T)) : Option (SHull × Sl1Cur) := ocons r0 fun a0 r1 => onil r1 (obind (argP (T := T) 239 a0) fun c0 => spec_l1DrawHull n c0)
def spec_l1DrawHull_ent (n : Nat) : Ent T := ⟨88, 5, [], SHull × Sl1Cur, spec_l1DrawHull_D n, spec_l1DrawHull_enc⟩
def spec_DrawRightHull_D (n : Nat) (r0 : List (A T)) : Option (SHull × Int) := ocons r0 fun a0 r1 => onil r1 (obind (argV (T := T) 22 a0) fun code0 => spec_DrawRightHull n code0)
def spec_DrawRightHull_ent (n : Nat) : Ent T := ⟨16, 6, [], SHull × Int, spec_DrawRightHull_D n, spec_DrawRightHull_enc⟩
def laws_at_D (n : Nat) (r0 : List (A T)) : Option Int := ocons r0 fun a0 r1 => ocons r1 fun a1 r2 => onil r2 (obind (argV (T := T) 22 a0) fun code0 => obind (argV (T := T) 3 a1) fun i1 => laws_at n code0 i1)
def laws_at_ent (n : Nat) : Ent T := ⟨17, 7, [], Int, laws_at_D n, laws_at_enc⟩
def impl_in_D (n : Nat) (r0 : List (A T)) : Option Bool := ocons r0 fun a0 r1 => ocons r1 fun a1 r2 => ocons r2 fun a2 r3 => onil r3 (obind (argV (T := T) 3 a0) fun n0 => obind (argV (T := T) 3 a1) fun least1 => obind (argV (T := T) 3 a2) fun most2 => impl_in n n0 least1 most2)
def impl_in_ent (n : Nat) : Ent T := ⟨119, 8, [], Bool, impl_in_D n, impl_in_enc⟩
def impl_all_1_D (n : Nat) (r0 : List (A T)) : Option Bool := ocons r0 fun a0 r1 => ocons r1 fun a1 r2 => ocons r2 fun a2 r3 => onil r3 (obind (argV (T := T) 3 a0) fun n0 => obind (argP (T := T) 3 a1) fun a1 => obind (argP (T := T) 3 a2) fun a2 => impl_all_1 n n0 a1 a2)
def impl_all_1_ent (n : Nat) : Ent T := ⟨196, 9, [], Bool, impl_all_1_D n, impl_all_1_enc⟩
def slices_IndexFunc_int_int__impl_all_1_D (n : Nat) (ar : List (A T)) : Option Int := match ar with
  | [a0, .fn _ [k1_0, k1_1]] => obind (argV (T := T) 55 a0) fun s0 => obind (argP (T := T) 3 k1_0) fun f1c0 => obind (argP (T := T) 3 k1_1) fun f1c1 => slices_IndexFunc_int_int__impl_all_1 n s0 f1c0 f1c1
  | _ => none
def slices_IndexFunc_int_int__impl_all_1_ent (n : Nat) : Ent T := ⟨222, 10, [196], Int, slices_IndexFunc_int_int__impl_all_1_D n, slices_IndexFunc_int_int__impl_all_1_enc⟩
def slices_ContainsFunc_int_int__impl_all_1_D (n : Nat) (ar : List (A T)) : Option Bool := match ar with
  | [a0, .fn _ [k1_0, k1_1]] => obind (argV (T := T) 55 a0) fun s0 => obind (argP (T := T) 3 k1_0) fun f1c0 => obind (argP (T := T) 3 k1_1) fun f1c1 => slices_ContainsFunc_int_int__impl_all_1 n s0 f1c0 f1c1
  | _ => none
def slices_ContainsFunc_int_int__impl_all_1_ent (n : Nat) : Ent T := ⟨158, 11, [196], Bool, slices_ContainsFunc_int_int__impl_all_1_D n, slices_ContainsFunc_int_int__impl_all_1_enc⟩
def impl_all_D (n : Nat) (r0 : List (A T)) : Option Bool := ocons r0 fun a0 r1 => ocons r1 fun a1 r2 => ocons r2 fun a2 r3 => onil r3 (obind (argV (T := T) 55 a0) fun l0 => obind (argV (T := T) 3 a1) fun least1 => obind (argV (T := T) 3 a2) fun most2 => impl_all n l0 least1 most2)
def impl_all_ent (n : Nat) : Ent T := ⟨120, 12, [], Bool, impl_all_D n, impl_all_enc⟩
def impl_HullOk_D (n : Nat) (r0 : List (A T)) : Option Bool := ocons r0 fun a0 r1 => onil r1 (obind (argV (T := T) 26 a0) fun h0 => impl_HullOk n h0)
def impl_HullOk_ent (n : Nat) : Ent T := ⟨190, 13, [], Bool, impl_HullOk_D n, impl_HullOk_enc⟩
def impl_waterOk_D (n : Nat) (r0 : List (A T)) : Option Bool := ocons r0 fun a0 r1 => ocons r1 fun a1 r2 => onil r2 (obind (argV (T := T) 26 a0) fun h0 => obind (argV (T := T) 3 a1) fun w1 => impl_waterOk n h0 w1)
def impl_waterOk_ent (n : Nat) : Ent T := ⟨182, 14, [], Bool, impl_waterOk_D n, impl_waterOk_enc⟩
def impl_Strips2_D (n : Nat) (r0 : List (A T)) : Option (List Int) := ocons r0 fun a0 r1 => ocons r1 fun a1 r2 => onil r2 (obind (argV (T := T) 26 a0) fun h0 => obind (argV (T := T) 3 a1) fun w1 => impl_Strips2 n h0 w1)
def impl_Strips2_ent (n : Nat) : Ent T := ⟨178, 15, [], List Int, impl_Strips2_D n, impl_Strips2_enc⟩
def impl_sumOf_D (n : Nat) (r0 : List (A T)) : Option Int := ocons r0 fun a0 r1 => onil r1 (obind (argV (T := T) 55 a0) fun l0 => impl_sumOf n l0)
def impl_sumOf_ent (n : Nat) : Ent T := ⟨177, 16, [], Int, impl_sumOf_D n, impl_sumOf_enc⟩
def impl_Volume2_D (n : Nat) (r0 : List (A T)) : Option Int := ocons r0 fun a0 r1 => ocons r1 fun a1 r2 => onil r2 (obind (argV (T := T) 26 a0) fun h0 => obind (argV (T := T) 3 a1) fun w1 => impl_Volume2 n h0 w1)
def impl_Volume2_ent (n : Nat) : Ent T := ⟨90, 17, [], Int, impl_Volume2_D n, impl_Volume2_enc⟩
def impl_MassesOk_1_D (n : Nat) (r0 : List (A T)) : Option Bool := ocons r0 fun a0 r1 => onil r1 (obind (argV (T := T) 30 a0) fun m0 => impl_MassesOk_1 n m0)
def impl_MassesOk_1_ent (n : Nat) : Ent T := ⟨187, 18, [], Bool, impl_MassesOk_1_D n, impl_MassesOk_1_enc⟩
def slices_IndexFunc_impl_Mass_impl_Mass__impl_MassesOk_1_D (n : Nat) (ar : List (A T)) : Option Int := match ar with
  | [a0, .fn _ []] => obind (argV (T := T) 32 a0) fun s0 => slices_IndexFunc_impl_Mass_impl_Mass__impl_MassesOk_1 n s0
  | _ => none
def slices_IndexFunc_impl_Mass_impl_Mass__impl_MassesOk_1_ent (n : Nat) : Ent T := ⟨237, 19, [187], Int, slices_IndexFunc_impl_Mass_impl_Mass__impl_MassesOk_1_D n, slices_IndexFunc_impl_Mass_impl_Mass__impl_MassesOk_1_enc⟩
def slices_ContainsFunc_impl_Mass_impl_Mass__impl_MassesOk_1_D (n : Nat) (ar : List (A T)) : Option Bool := match ar with
  | [a0, .fn _ []] => obind (argV (T := T) 32 a0) fun s0 => slices_ContainsFunc_impl_Mass_impl_Mass__impl_MassesOk_1 n s0
  | _ => none
def slices_ContainsFunc_impl_Mass_impl_Mass__impl_MassesOk_1_ent (n : Nat) : Ent T := ⟨186, 20, [187], Bool, slices_ContainsFunc_impl_Mass_impl_Mass__impl_MassesOk_1_D n, slices_ContainsFunc_impl_Mass_impl_Mass__impl_MassesOk_1_enc⟩
def impl_MassesOk_D (n : Nat) (r0 : List (A T)) : Option Bool := ocons r0 fun a0 r1 => onil r1 (obind (argV (T := T) 32 a0) fun list0 => impl_MassesOk n list0)
def impl_MassesOk_ent (n : Nat) : Ent T := ⟨95, 21, [], Bool, impl_MassesOk_D n, impl_MassesOk_enc⟩
def impl_LoadOf_D (n : Nat) (r0 : List (A T)) : Option (SLoad × Bool) := ocons r0 fun a0 r1 => onil r1 (obind (argV (T := T) 32 a0) fun list0 => impl_LoadOf n list0)
def impl_LoadOf_ent (n : Nat) : Ent T := ⟨19, 22, [], SLoad × Bool, impl_LoadOf_D n, impl_LoadOf_enc⟩
def impl_tanksOk_1_D (n : Nat) (r0 : List (A T)) : Option Bool := ocons r0 fun a0 r1 => onil r1 (obind (argV (T := T) 157 a0) fun t0 => impl_tanksOk_1 n t0)
def impl_tanksOk_1_ent (n : Nat) : Ent T := ⟨180, 23, [], Bool, impl_tanksOk_1_D n, impl_tanksOk_1_enc⟩
def slices_IndexFunc_impl_Tank_impl_Tank__impl_tanksOk_1_D (n : Nat) (ar : List (A T)) : Option Int := match ar with
  | [a0, .fn _ []] => obind (argV (T := T) 154 a0) fun s0 => slices_IndexFunc_impl_Tank_impl_Tank__impl_tanksOk_1 n s0
  | _ => none
def slices_IndexFunc_impl_Tank_impl_Tank__impl_tanksOk_1_ent (n : Nat) : Ent T := ⟨235, 24, [180], Int, slices_IndexFunc_impl_Tank_impl_Tank__impl_tanksOk_1_D n, slices_IndexFunc_impl_Tank_impl_Tank__impl_tanksOk_1_enc⟩
def slices_ContainsFunc_impl_Tank_impl_Tank__impl_tanksOk_1_D (n : Nat) (ar : List (A T)) : Option Bool := match ar with
  | [a0, .fn _ []] => obind (argV (T := T) 154 a0) fun s0 => slices_ContainsFunc_impl_Tank_impl_Tank__impl_tanksOk_1 n s0
  | _ => none
def slices_ContainsFunc_impl_Tank_impl_Tank__impl_tanksOk_1_ent (n : Nat) : Ent T := ⟨179, 25, [180], Bool, slices_ContainsFunc_impl_Tank_impl_Tank__impl_tanksOk_1_D n, slices_ContainsFunc_impl_Tank_impl_Tank__impl_tanksOk_1_enc⟩
def impl_tanksOk_D (n : Nat) (r0 : List (A T)) : Option Bool := ocons r0 fun a0 r1 => onil r1 (obind (argV (T := T) 154 a0) fun tanks0 => impl_tanksOk n tanks0)
def impl_tanksOk_ent (n : Nat) : Ent T := ⟨91, 26, [], Bool, impl_tanksOk_D n, impl_tanksOk_enc⟩
def impl_Plane_1_D (n : Nat) (r0 : List (A T)) : Option Int := ocons r0 fun a0 r1 => ocons r1 fun a1 r2 => onil r2 (obind (argV (T := T) 3 a0) fun a0 => obind (argV (T := T) 3 a1) fun b1 => impl_Plane_1 n a0 b1)
def impl_Plane_1_ent (n : Nat) : Ent T := ⟨236, 27, [], Int, impl_Plane_1_D n, impl_Plane_1_enc⟩
def impl_strips__impl_Plane_1_D (n : Nat) (ar : List (A T)) : Option Int := match ar with
  | [a0, a1, .fn _ []] => obind (argV (T := T) 26 a0) fun h0 => obind (argV (T := T) 3 a1) fun w1 => impl_strips__impl_Plane_1 n h0 w1
  | _ => none
def impl_strips__impl_Plane_1_ent (n : Nat) : Ent T := ⟨184, 28, [236], Int, impl_strips__impl_Plane_1_D n, impl_strips__impl_Plane_1_enc⟩
def impl_Plane_D (n : Nat) (r0 : List (A T)) : Option Int := ocons r0 fun a0 r1 => ocons r1 fun a1 r2 => onil r2 (obind (argV (T := T) 26 a0) fun h0 => obind (argV (T := T) 3 a1) fun w1 => impl_Plane n h0 w1)
def impl_Plane_ent (n : Nat) : Ent T := ⟨183, 29, [], Int, impl_Plane_D n, impl_Plane_enc⟩
def impl_Height4_D (n : Nat) (r0 : List (A T)) : Option Int := ocons r0 fun a0 r1 => ocons r1 fun a1 r2 => onil r2 (obind (argV (T := T) 26 a0) fun h0 => obind (argV (T := T) 3 a1) fun w1 => impl_Height4 n h0 w1)
def impl_Height4_ent (n : Nat) : Ent T := ⟨93, 30, [], Int, impl_Height4_D n, impl_Height4_enc⟩
def impl_Inertia3_1_D (n : Nat) (r0 : List (A T)) : Option Int := ocons r0 fun a0 r1 => ocons r1 fun a1 r2 => onil r2 (obind (argV (T := T) 3 a0) fun a0 => obind (argV (T := T) 3 a1) fun b1 => impl_Inertia3_1 n a0 b1)
def impl_Inertia3_1_ent (n : Nat) : Ent T := ⟨185, 31, [], Int, impl_Inertia3_1_D n, impl_Inertia3_1_enc⟩
def impl_strips__impl_Inertia3_1_D (n : Nat) (ar : List (A T)) : Option Int := match ar with
  | [a0, a1, .fn _ []] => obind (argV (T := T) 26 a0) fun h0 => obind (argV (T := T) 3 a1) fun w1 => impl_strips__impl_Inertia3_1 n h0 w1
  | _ => none
def impl_strips__impl_Inertia3_1_ent (n : Nat) : Ent T := ⟨184, 32, [185], Int, impl_strips__impl_Inertia3_1_D n, impl_strips__impl_Inertia3_1_enc⟩
def impl_Inertia3_D (n : Nat) (r0 : List (A T)) : Option Int := ocons r0 fun a0 r1 => ocons r1 fun a1 r2 => onil r2 (obind (argV (T := T) 26 a0) fun h0 => obind (argV (T := T) 3 a1) fun w1 => impl_Inertia3 n h0 w1)
def impl_Inertia3_ent (n : Nat) : Ent T := ⟨94, 33, [], Int, impl_Inertia3_D n, impl_Inertia3_enc⟩
def impl_size_D (n : Nat) (r0 : List (A T)) : Option Int := ocons r0 fun a0 r1 => onil r1 (obind (argV (T := T) 3 a0) fun n0 => impl_size n n0)
def impl_size_ent (n : Nat) : Ent T := ⟨123, 34, [], Int, impl_size_D n, impl_size_enc⟩
def impl_gcd_D (n : Nat) (r0 : List (A T)) : Option Int := ocons r0 fun a0 r1 => ocons r1 fun a1 r2 => onil r2 (obind (argV (T := T) 3 a0) fun a0 => obind (argV (T := T) 3 a1) fun b1 => impl_gcd n a0 b1)
def impl_gcd_ent (n : Nat) : Ent T := ⟨181, 35, [], Int, impl_gcd_D n, impl_gcd_enc⟩
def impl_fracOf_D (n : Nat) (r0 : List (A T)) : Option SFrac := ocons r0 fun a0 r1 => ocons r1 fun a1 r2 => onil r2 (obind (argV (T := T) 3 a0) fun num0 => obind (argV (T := T) 3 a1) fun den1 => impl_fracOf n num0 den1)
def impl_fracOf_ent (n : Nat) : Ent T := ⟨92, 36, [], SFrac, impl_fracOf_D n, impl_fracOf_enc⟩
def impl_Metacentre_D (n : Nat) (r0 : List (A T)) : Option (SFrac × Bool) := ocons r0 fun a0 r1 => ocons r1 fun a1 r2 => ocons r2 fun a2 r3 => ocons r3 fun a3 r4 => onil r4 (obind (argV (T := T) 26 a0) fun h0 => obind (argV (T := T) 3 a1) fun w1 => obind (argV (T := T) 32 a2) fun list2 => obind (argV (T := T) 154 a3) fun tanks3 => impl_Metacentre n h0 w1 list2 tanks3)
def impl_Metacentre_ent (n : Nat) : Ent T := ⟨18, 37, [], SFrac × Bool, impl_Metacentre_D n, impl_Metacentre_enc⟩
def spec_l1In_D (n : Nat) (r0 : List (A T)) : Option Bool := ocons r0 fun a0 r1 => ocons r1 fun a1 r2 => ocons r2 fun a2 r3 => onil r3 (obind (argV (T := T) 3 a0) fun x0 => obind (argV (T := T) 3 a1) fun a1 => obind (argV (T := T) 3 a2) fun b2 => spec_l1In n x0 a1 b2)
def spec_l1In_ent (n : Nat) : Ent T := ⟨100, 38, [], Bool, spec_l1In_D n, spec_l1In_enc⟩
def spec_HullOk_D (n : Nat) (r0 : List (A T)) : Option Bool := ocons r0 fun a0 r1 => onil r1 (obind (argV (T := T) 26 a0) fun h0 => spec_HullOk n h0)
def spec_HullOk_ent (n : Nat) : Ent T := ⟨189, 39, [], Bool, spec_HullOk_D n, spec_HullOk_enc⟩
def spec_l1Water_D (n : Nat) (r0 : List (A T)) : Option Bool := ocons r0 fun a0 r1 => ocons r1 fun a1 r2 => onil r2 (obind (argV (T := T) 26 a0) fun h0 => obind (argV (T := T) 3 a1) fun w1 => spec_l1Water n h0 w1)
def spec_l1Water_ent (n : Nat) : Ent T := ⟨188, 40, [], Bool, spec_l1Water_D n, spec_l1Water_enc⟩
def spec_Strips2_D (n : Nat) (r0 : List (A T)) : Option (List Int) := ocons r0 fun a0 r1 => ocons r1 fun a1 r2 => onil r2 (obind (argV (T := T) 26 a0) fun h0 => obind (argV (T := T) 3 a1) fun w1 => spec_Strips2 n h0 w1)
def spec_Strips2_ent (n : Nat) : Ent T := ⟨97, 41, [], List Int, spec_Strips2_D n, spec_Strips2_enc⟩
def spec_l1Sum_D (n : Nat) (r0 : List (A T)) : Option Int := ocons r0 fun a0 r1 => onil r1 (obind (argV (T := T) 55 a0) fun list0 => spec_l1Sum n list0)
def spec_l1Sum_ent (n : Nat) : Ent T := ⟨96, 42, [], Int, spec_l1Sum_D n, spec_l1Sum_enc⟩
def spec_Volume2_D (n : Nat) (r0 : List (A T)) : Option Int := ocons r0 fun a0 r1 => ocons r1 fun a1 r2 => onil r2 (obind (argV (T := T) 26 a0) fun h0 => obind (argV (T := T) 3 a1) fun w1 => spec_Volume2 n h0 w1)
def spec_Volume2_ent (n : Nat) : Ent T := ⟨20, 43, [], Int, spec_Volume2_D n, spec_Volume2_enc⟩
def laws_less_D (n : Nat) (r0 : List (A T)) : Option Bool := ocons r0 fun a0 r1 => ocons r1 fun a1 r2 => onil r2 (obind (argV (T := T) 34 a0) fun a0 => obind (argV (T := T) 34 a1) fun b1 => laws_less n a0 b1)
def laws_less_ent (n : Nat) : Ent T := ⟨21, 44, [], Bool, laws_less_D n, laws_less_enc⟩
def laws_FnRaised_D (n : Nat) (r0 : List (A T)) : Option Bool := ocons r0 fun a0 r1 => onil r1 (obind (argV (T := T) 22 a0) fun code0 => laws_FnRaised n code0)
def laws_FnRaised_ent (n : Nat) : Ent T := ⟨3, 45, [], Bool, laws_FnRaised_D n, laws_FnRaised_enc⟩
def ents (n : Nat) : List (Ent T) := [laws_big_ent n, spec_l1New_ent n, spec_l1Byte_ent n, spec_l1Below_ent n, spec_l1Once_ent n, spec_l1DrawHull_ent n, spec_DrawRightHull_ent n, laws_at_ent n, impl_in_ent n, impl_all_1_ent n, slices_IndexFunc_int_int__impl_all_1_ent n, slices_ContainsFunc_int_int__impl_all_1_ent n, impl_all_ent n, impl_HullOk_ent n, impl_waterOk_ent n, impl_Strips2_ent n, impl_sumOf_ent n, impl_Volume2_ent n, impl_MassesOk_1_ent n, slices_IndexFunc_impl_Mass_impl_Mass__impl_MassesOk_1_ent n, slices_ContainsFunc_impl_Mass_impl_Mass__impl_MassesOk_1_ent n, impl_MassesOk_ent n, impl_LoadOf_ent n, impl_tanksOk_1_ent n, slices_IndexFunc_impl_Tank_impl_Tank__impl_tanksOk_1_ent n, slices_ContainsFunc_impl_Tank_impl_Tank__impl_tanksOk_1_ent n, impl_tanksOk_ent n, impl_Plane_1_ent n, impl_strips__impl_Plane_1_ent n, impl_Plane_ent n, impl_Height4_ent n, impl_Inertia3_1_ent n, impl_strips__impl_Inertia3_1_ent n, impl_Inertia3_ent n, impl_size_ent n, impl_gcd_ent n, impl_fracOf_ent n, impl_Metacentre_ent n, spec_l1In_ent n, spec_HullOk_ent n, spec_l1Water_ent n, spec_Strips2_ent n, spec_l1Sum_ent n, spec_Volume2_ent n, laws_less_ent n, laws_FnRaised_ent n]
abbrev Phi (n i : Nat) {R : Type} (f : Nat) (ar : List (A T)) (K : Res T → Option R) : Option R := PhiE (ents n) i f ar K
theorem mixed : Try.prog.follows .mixedOrders = true := by kernel_rfl
noncomputable def laws_big_code : Code := match Try.f15.body with | some c => c | none => .skip
def laws_big_ann : Ann := fun id => none
def laws_big_Ls (n : Nat) : Nat → Option (LSpec T) := fun id => none
theorem laws_big_tie (n : Nat) (code0 : List Int) : evF (T := T) (Phi n 0) (laws_big_Ls n) laws_big_ann n Try.f15 (sg 15) [vA T 22 code0] laws_big_dec = laws_big n code0 := by kernel_rfl
theorem laws_big_lo (n : Nat) : LoopsOk (T := T) (Phi n 0) (laws_big_Ls n) laws_big_ann n laws_big_code := loopsOk_all (cs := []) (by kernel_rfl) trivial
theorem laws_big_ok (n : Nat) : EntOk Try.prog (ents n) (laws_big_ent n) := by
  intro hs ar y hg h
  replace h : laws_big_D n ar = some y := h
  unfold laws_big_D at h
  replace h := ocons_some h
  obtain ⟨a0, r0, rfl, h⟩ := h
  replace h := onil_some h
  obtain ⟨rfl, h⟩ := h
  obtain ⟨code0, qh0, h⟩ := obind_some h
  rw [argV_eq ok qh0]
  exact call_of (phiE_nat _ _) hs ok mixed Try.func15 (c := laws_big_code) (by kernel_rfl) (laws_big_lo n) (by kernel_rfl) (by kernel_rfl) (by kernel_rfl) laws_big_de ((laws_big_tie n code0).trans h)
noncomputable def spec_l1New_code : Code := match Try.f87.body with | some c => c | none => .skip
def spec_l1New_3_sv : List Sv := [.one (.arr 5), .one (.int .i64), .one (.int .i64)]
def spec_l1New_3_so : List So := []
def spec_l1New_3_emb (c : List Int) (x : Int × Int) : EVs T spec_l1New_3_sv × EOs T spec_l1New_3_so := ((c, x.1, x.2, ()), ())
def spec_l1New_3_prj (y : EVs T spec_l1New_3_sv × EOs T spec_l1New_3_so) : List Int × (Int × Int) := ((y.1.1), (y.1.2.1, y.1.2.2.1))
def spec_l1New_3_b (n : Nat) {R : Type} (K : Ex → Sm.St T → Option R) (c : List Int) (x : Int × Int) (J : (Int × Int) → Option R) : Option R :=
  spec_l1New_L3 n (fun (y1 : Int) => K (.exit 0) (stOf (T := T) [0, 3] [] [.one (.arr 5), .one (.int .i64)] [] (c, y1, ()) ())) (fun z0 z1 => J (z0, z1)) c x.1 x.2
def spec_l1New_3_sp (n : Nat) : LSpec T := mkSpec T ⟨[], [0, 3, 4], []⟩ spec_l1New_3_sv spec_l1New_3_so (List Int) (Int × Int) spec_l1New_3_emb spec_l1New_3_prj (spec_l1New_3_b n)
noncomputable def spec_l1New_3_c : Code := ((loopCodes spec_l1New_code)[0]?).getD .skip
def spec_l1New_ann : Ann := fun id => bif Nat.beq id 3000003 then some ⟨[], [0, 3], []⟩ else none
def spec_l1New_Ls (n : Nat) : Nat → Option (LSpec T) := fun id => bif Nat.beq id 3 then some (spec_l1New_3_sp n) else none
theorem spec_l1New_3_le (n : Nat) : LoopEq (T := T) (Phi n 1) (spec_l1New_Ls n) spec_l1New_ann n spec_l1New_3_c (spec_l1New_3_sp n) := ⟨mkSpec_dec (fun y => rfl), fun c x => by kernel_rfl, fun K J c x => by kernel_rfl⟩
theorem spec_l1New_tie (n : Nat) (code0 : List Int) : evF (T := T) (Phi n 1) (spec_l1New_Ls n) spec_l1New_ann n Try.f87 (sg 87) [vA T 22 code0] spec_l1New_dec = spec_l1New n code0 := by kernel_rfl
theorem spec_l1New_lo (n : Nat) : LoopsOk (T := T) (Phi n 1) (spec_l1New_Ls n) spec_l1New_ann n spec_l1New_code := loopsOk_all (cs := [spec_l1New_3_c]) (by kernel_rfl) ⟨⟨_, by kernel_rfl, spec_l1New_3_le n⟩, trivial⟩
theorem spec_l1New_ok (n : Nat) : EntOk Try.prog (ents n) (spec_l1New_ent n) := by
  intro hs ar y hg h
  replace h : spec_l1New_D n ar = some y := h
  unfold spec_l1New_D at h
  replace h := ocons_some h
  obtain ⟨a0, r0, rfl, h⟩ := h
  replace h := onil_some h
  obtain ⟨rfl, h⟩ := h
  obtain ⟨code0, qh0, h⟩ := obind_some h
  rw [argV_eq ok qh0]
  exact call_of (phiE_nat _ _) hs ok mixed Try.func87 (c := spec_l1New_code) (by kernel_rfl) (spec_l1New_lo n) (by kernel_rfl) (by kernel_rfl) (by kernel_rfl) spec_l1New_de ((spec_l1New_tie n code0).trans h)
noncomputable def spec_l1Byte_code : Code := match Try.f176.body with | some c => c | none => .skip
def spec_l1Byte_ann : Ann := fun id => none
def spec_l1Byte_Ls (n : Nat) : Nat → Option (LSpec T) := fun id => none
theorem spec_l1Byte_tie (n : Nat) (c0 : Sl1Cur) : evF (T := T) (Phi n 2) (spec_l1Byte_Ls n) spec_l1Byte_ann n Try.f176 (sg 176) [.ptr 239 c0] spec_l1Byte_dec = spec_l1Byte n c0 := by kernel_rfl
theorem spec_l1Byte_lo (n : Nat) : LoopsOk (T := T) (Phi n 2) (spec_l1Byte_Ls n) spec_l1Byte_ann n spec_l1Byte_code := loopsOk_all (cs := []) (by kernel_rfl) trivial
theorem spec_l1Byte_ok (n : Nat) : EntOk Try.prog (ents n) (spec_l1Byte_ent n) := by
  intro hs ar y hg h
  replace h : spec_l1Byte_D n ar = some y := h
  unfold spec_l1Byte_D at h
  replace h := ocons_some h
  obtain ⟨a0, r0, rfl, h⟩ := h
  replace h := onil_some h
  obtain ⟨rfl, h⟩ := h
  obtain ⟨c0, qh0, h⟩ := obind_some h
  rw [argP_eq qh0]
  exact call_of (phiE_nat _ _) hs ok mixed Try.func176 (c := spec_l1Byte_code) (by kernel_rfl) (spec_l1Byte_lo n) (by kernel_rfl) (by kernel_rfl) (by kernel_rfl) spec_l1Byte_de ((spec_l1Byte_tie n c0).trans h)
noncomputable def spec_l1Below_code : Code := match Try.f89.body with | some c => c | none => .skip
def spec_l1Below_ann : Ann := fun id => none
def spec_l1Below_Ls (n : Nat) : Nat → Option (LSpec T) := fun id => none
theorem spec_l1Below_tie (n : Nat) (c0 : Sl1Cur) (n1 : Int) : evF (T := T) (Phi n 3) (spec_l1Below_Ls n) spec_l1Below_ann n Try.f89 (sg 89) [.ptr 239 c0, vA T 3 n1] spec_l1Below_dec = spec_l1Below n c0 n1 := by kernel_rfl
theorem spec_l1Below_lo (n : Nat) : LoopsOk (T := T) (Phi n 3) (spec_l1Below_Ls n) spec_l1Below_ann n spec_l1Below_code := loopsOk_all (cs := []) (by kernel_rfl) trivial
theorem spec_l1Below_ok (n : Nat) : EntOk Try.prog (ents n) (spec_l1Below_ent n) := by
  intro hs ar y hg h
  replace h : spec_l1Below_D n ar = some y := h
  unfold spec_l1Below_D at h
  replace h := ocons_some h
  obtain ⟨a0, r0, rfl, h⟩ := h
  replace h := ocons_some h
  obtain ⟨a1, r1, rfl, h⟩ := h
  replace h := onil_some h
  obtain ⟨rfl, h⟩ := h
  obtain ⟨c0, qh0, h⟩ := obind_some h
  obtain ⟨n1, qh1, h⟩ := obind_some h
  rw [argP_eq qh0, argV_eq ok qh1]
  exact call_of (phiE_nat _ _) hs ok mixed Try.func89 (c := spec_l1Below_code) (by kernel_rfl) (spec_l1Below_lo n) (by kernel_rfl) (by kernel_rfl) (by kernel_rfl) spec_l1Below_de ((spec_l1Below_tie n c0 n1).trans h)
noncomputable def spec_l1Once_code : Code := match Try.f175.body with | some c => c | none => .skip
def spec_l1Once_ann : Ann := fun id => none
def spec_l1Once_Ls (n : Nat) : Nat → Option (LSpec T) := fun id => none
theorem spec_l1Once_tie (n : Nat) (c0 : Sl1Cur) (n1 : Int) : evF (T := T) (Phi n 4) (spec_l1Once_Ls n) spec_l1Once_ann n Try.f175 (sg 175) [.ptr 239 c0, vA T 3 n1] spec_l1Once_dec = spec_l1Once n c0 n1 := by kernel_rfl
theorem spec_l1Once_lo (n : Nat) : LoopsOk (T := T) (Phi n 4) (spec_l1Once_Ls n) spec_l1Once_ann n spec_l1Once_code := loopsOk_all (cs := []) (by kernel_rfl) trivial
theorem spec_l1Once_ok (n : Nat) : EntOk Try.prog (ents n) (spec_l1Once_ent n) := by
  intro hs ar y hg h
  replace h : spec_l1Once_D n ar = some y := h
  unfold spec_l1Once_D at h
  replace h := ocons_some h
  obtain ⟨a0, r0, rfl, h⟩ := h
  replace h := ocons_some h
  obtain ⟨a1, r1, rfl, h⟩ := h
  replace h := onil_some h
  obtain ⟨rfl, h⟩ := h
  obtain ⟨c0, qh0, h⟩ := obind_some h
  obtain ⟨n1, qh1, h⟩ := obind_some h
  rw [argP_eq qh0, argV_eq ok qh1]
  exact call_of (phiE_nat _ _) hs ok mixed Try.func175 (c := spec_l1Once_code) (by kernel_rfl) (spec_l1Once_lo n) (by kernel_rfl) (by kernel_rfl) (by kernel_rfl) spec_l1Once_de ((spec_l1Once_tie n c0 n1).trans h)
noncomputable def spec_l1DrawHull_code : Code := match Try.f88.body with | some c => c | none => .skip
def spec_l1DrawHull_7_sv : List Sv := [.one (.ptr 4503599627370496 0 0), .one (.ptr 16 0 0), .one (.ptr 24 0 0), .one (.int .i64), .one (.int .i64), .one (.int .i64)]
def spec_l1DrawHull_7_so : List So := [.var [.arr 5, .int .i64, .int .i64], .var [.int .i64, .int .i64, .own 3000000 55 false], .arr 55 false, .var [.int .i64, .int .i64, .own 3000001 55 false], .arr 55 false]
def spec_l1DrawHull_7_emb (c : Int × Int × Int × Int × List (List Int) × Int × Int) (x : Int × Sl1Cur × List (List Int)) : EVs T spec_l1DrawHull_7_sv × EOs T spec_l1DrawHull_7_so := (((), (), (), c.1, c.2.1, x.1, ()), ((x.2.1.b, x.2.1.i, x.2.1.h, ()), (c.2.2.1, c.2.2.2.1, (), ()), c.2.2.2.2.1, (c.2.2.2.2.2.1, c.2.2.2.2.2.2, (), ()), x.2.2, ()))
def spec_l1DrawHull_7_prj (y : EVs T spec_l1DrawHull_7_sv × EOs T spec_l1DrawHull_7_so) : (Int × Int × Int × Int × List (List Int) × Int × Int) × (Int × Sl1Cur × List (List Int)) := ((y.1.2.2.2.1, y.1.2.2.2.2.1, y.2.2.1.1, y.2.2.1.2.1, y.2.2.2.1, y.2.2.2.2.1.1, y.2.2.2.2.1.2.1), (y.1.2.2.2.2.2.1, ((⟨y.2.1.1, y.2.1.2.1, y.2.1.2.2.1⟩ : Sl1Cur) : Sl1Cur), y.2.2.2.2.2.1))
def spec_l1DrawHull_7_b (n : Nat) {R : Type} (K : Ex → Sm.St T → Option R) (c : Int × Int × Int × Int × List (List Int) × Int × Int) (x : Int × Sl1Cur × List (List Int)) (J : (Int × Sl1Cur × List (List Int)) → Option R) : Option R :=
  spec_l1DrawHull_L7 n (fun (y5 : List (List Int)) (y6 : Sl1Cur) => K (.exit 0) (stOf (T := T) [2, 3] [16, 3000000, 24, 3000001, 4503599627370496] [.one (.ptr 16 0 0), .one (.ptr 24 0 0)] [.var [.int .i64, .int .i64, .own 3000000 55 false], .arr 55 false, .var [.int .i64, .int .i64, .own 3000001 55 false], .arr 55 false, .var [.arr 5, .int .i64, .int .i64]] ((), (), ()) ((c.2.2.1, c.2.2.2.1, (), ()), c.2.2.2.2.1, (c.2.2.2.2.2.1, c.2.2.2.2.2.2, (), ()), y5, (y6.b, y6.i, y6.h, ()), ()))) (fun z0 z1 z2 => J (z0, z1, z2)) c.1 c.2.1 x.1 x.2.1 c.2.2.1 c.2.2.2.1 c.2.2.2.2.1 c.2.2.2.2.2.1 c.2.2.2.2.2.2 x.2.2
def spec_l1DrawHull_7_sp (n : Nat) : LSpec T := mkSpec T ⟨[((.cell 16 2), 3000000, 55), ((.cell 24 2), 3000001, 55)], [0, 2, 3, 4, 5, 6], [4503599627370496, 16, 3000000, 24, 3000001]⟩ spec_l1DrawHull_7_sv spec_l1DrawHull_7_so (Int × Int × Int × Int × List (List Int) × Int × Int) (Int × Sl1Cur × List (List Int)) spec_l1DrawHull_7_emb spec_l1DrawHull_7_prj (spec_l1DrawHull_7_b n)
noncomputable def spec_l1DrawHull_7_c : Code := ((loopCodes spec_l1DrawHull_code)[0]?).getD .skip
def spec_l1DrawHull_12_sv : List Sv := [.one (.ptr 4503599627370496 0 0), .one (.ptr 16 0 0), .one (.ptr 24 0 0), .one (.int .i64), .one (.int .i64), .one (.int .i64), .one (.own 3000002 3 false), .one (.int .i64), .one (.int .i64)]
def spec_l1DrawHull_12_so : List So := [.var [.arr 5, .int .i64, .int .i64], .var [.int .i64, .int .i64, .own 3000000 55 false], .arr 55 false, .var [.int .i64, .int .i64, .own 3000001 55 false], .arr 55 false, .arr 3 false]
def spec_l1DrawHull_12_emb (c : Int × Int × Int × Int × Int × List (List Int) × Int × Int × List (List Int)) (x : Int × Int × Sl1Cur × List Int) : EVs T spec_l1DrawHull_12_sv × EOs T spec_l1DrawHull_12_so := (((), (), (), c.1, c.2.1, c.2.2.1, (), x.1, x.2.1, ()), ((x.2.2.1.b, x.2.2.1.i, x.2.2.1.h, ()), (c.2.2.2.1, c.2.2.2.2.1, (), ()), c.2.2.2.2.2.1, (c.2.2.2.2.2.2.1, c.2.2.2.2.2.2.2.1, (), ()), c.2.2.2.2.2.2.2.2, x.2.2.2, ()))
def spec_l1DrawHull_12_prj (y : EVs T spec_l1DrawHull_12_sv × EOs T spec_l1DrawHull_12_so) : (Int × Int × Int × Int × Int × List (List Int) × Int × Int × List (List Int)) × (Int × Int × Sl1Cur × List Int) := ((y.1.2.2.2.1, y.1.2.2.2.2.1, y.1.2.2.2.2.2.1, y.2.2.1.1, y.2.2.1.2.1, y.2.2.2.1, y.2.2.2.2.1.1, y.2.2.2.2.1.2.1, y.2.2.2.2.2.1), (y.1.2.2.2.2.2.2.2.1, y.1.2.2.2.2.2.2.2.2.1, ((⟨y.2.1.1, y.2.1.2.1, y.2.1.2.2.1⟩ : Sl1Cur) : Sl1Cur), y.2.2.2.2.2.2.1))
def spec_l1DrawHull_12_b (n : Nat) {R : Type} (K : Ex → Sm.St T → Option R) (c : Int × Int × Int × Int × Int × List (List Int) × Int × Int × List (List Int)) (x : Int × Int × Sl1Cur × List Int) (J : (Int × Int × Sl1Cur × List Int) → Option R) : Option R :=
  spec_l1DrawHull_L12 n (fun (y3 : Sl1Cur) (y10 : List Int) => K (.exit 2) (stOf (T := T) [0, 2, 3, 4, 5, 6, 7] [4503599627370496, 16, 3000000, 24, 3000001, 3000002] [.one (.ptr 4503599627370496 0 0), .one (.ptr 16 0 0), .one (.ptr 24 0 0), .one (.int .i64), .one (.int .i64), .one (.int .i64), .one (.own 3000002 3 false)] [.var [.arr 5, .int .i64, .int .i64], .var [.int .i64, .int .i64, .own 3000000 55 false], .arr 55 false, .var [.int .i64, .int .i64, .own 3000001 55 false], .arr 55 false, .arr 3 false] ((), (), (), c.1, c.2.1, c.2.2.1, (), ()) ((y3.b, y3.i, y3.h, ()), (c.2.2.2.1, c.2.2.2.2.1, (), ()), c.2.2.2.2.2.1, (c.2.2.2.2.2.2.1, c.2.2.2.2.2.2.2.1, (), ()), c.2.2.2.2.2.2.2.2, y10, ()))) (fun z0 z1 z2 z3 => J (z0, z1, z2, z3)) c.1 c.2.1 c.2.2.1 x.1 x.2.1 x.2.2.1 c.2.2.2.1 c.2.2.2.2.1 c.2.2.2.2.2.1 c.2.2.2.2.2.2.1 c.2.2.2.2.2.2.2.1 c.2.2.2.2.2.2.2.2 x.2.2.2
def spec_l1DrawHull_12_sp (n : Nat) : LSpec T := mkSpec T ⟨[((.reg 7), 3000002, 3), ((.cell 16 2), 3000000, 55), ((.cell 24 2), 3000001, 55)], [0, 2, 3, 4, 5, 6, 7, 8, 9], [4503599627370496, 16, 3000000, 24, 3000001, 3000002]⟩ spec_l1DrawHull_12_sv spec_l1DrawHull_12_so (Int × Int × Int × Int × Int × List (List Int) × Int × Int × List (List Int)) (Int × Int × Sl1Cur × List Int) spec_l1DrawHull_12_emb spec_l1DrawHull_12_prj (spec_l1DrawHull_12_b n)
noncomputable def spec_l1DrawHull_12_c : Code := ((loopCodes spec_l1DrawHull_code)[1]?).getD .skip
def spec_l1DrawHull_ann : Ann := fun id => bif Nat.beq id 3000007 then some ⟨[((.cell 16 2), 3000000, 55), ((.cell 24 2), 3000001, 55)], [2, 3], [16, 3000000, 24, 3000001, 4503599627370496]⟩ else bif Nat.beq id 5000012 then some ⟨[((.reg 7), 3000002, 3), ((.cell 16 2), 3000000, 55), ((.cell 24 2), 3000001, 55)], [0, 2, 3, 4, 5, 6, 7], [4503599627370496, 16, 3000000, 24, 3000001, 3000002]⟩ else none
def spec_l1DrawHull_Ls (n : Nat) : Nat → Option (LSpec T) := fun id => bif Nat.beq id 7 then some (spec_l1DrawHull_7_sp n) else bif Nat.beq id 12 then some (spec_l1DrawHull_12_sp n) else none
theorem spec_l1DrawHull_7_le (n : Nat) : LoopEq (T := T) (Phi n 5) (spec_l1DrawHull_Ls n) spec_l1DrawHull_ann n spec_l1DrawHull_7_c (spec_l1DrawHull_7_sp n) := ⟨mkSpec_dec (fun y => rfl), fun c x => by kernel_rfl, fun K J c x => by kernel_rfl⟩
theorem spec_l1DrawHull_12_le (n : Nat) : LoopEq (T := T) (Phi n 5) (spec_l1DrawHull_Ls n) spec_l1DrawHull_ann n spec_l1DrawHull_12_c (spec_l1DrawHull_12_sp n) := ⟨mkSpec_dec (fun y => rfl), fun c x => by kernel_rfl, fun K J c x => by kernel_rfl⟩
theorem spec_l1DrawHull_tie (n : Nat) (c0 : Sl1Cur) : evF (T := T) (Phi n 5) (spec_l1DrawHull_Ls n) spec_l1DrawHull_ann n Try.f88 (sg 88) [.ptr 239 c0] spec_l1DrawHull_dec = spec_l1DrawHull n c0 := by kernel_rfl
theorem spec_l1DrawHull_lo (n : Nat) : LoopsOk (T := T) (Phi n 5) (spec_l1DrawHull_Ls n) spec_l1DrawHull_ann n spec_l1DrawHull_code := loopsOk_all (cs := [spec_l1DrawHull_7_c, spec_l1DrawHull_12_c]) (by kernel_rfl) ⟨⟨_, by kernel_rfl, spec_l1DrawHull_7_le n⟩, ⟨_, by kernel_rfl, spec_l1DrawHull_12_le n⟩, trivial⟩
theorem spec_l1DrawHull_ok (n : Nat) : EntOk Try.prog (ents n) (spec_l1DrawHull_ent n) := by
  intro hs ar y hg h
  replace h : spec_l1DrawHull_D n ar = some y := h
  unfold spec_l1DrawHull_D at h
  replace h := ocons_some h
  obtain ⟨a0, r0, rfl, h⟩ := h
  replace h := onil_some h
  obtain ⟨rfl, h⟩ := h
  obtain ⟨c0, qh0, h⟩ := obind_some h
  rw [argP_eq qh0]
  exact call_of (phiE_nat _ _) hs ok mixed Try.func88 (c := spec_l1DrawHull_code) (by kernel_rfl) (spec_l1DrawHull_lo n) (by kernel_rfl) (by kernel_rfl) (by kernel_rfl) spec_l1DrawHull_de ((spec_l1DrawHull_tie n c0).trans h)
noncomputable def spec_DrawRightHull_code : Code := match Try.f16.body with | some c => c | none => .skip
def spec_DrawRightHull_ann : Ann := fun id => none
def spec_DrawRightHull_Ls (n : Nat) : Nat → Option (LSpec T) := fun id => none
theorem spec_DrawRightHull_tie (n : Nat) (code0 : List Int) : evF (T := T) (Phi n 6) (spec_DrawRightHull_Ls n) spec_DrawRightHull_ann n Try.f16 (sg 16) [vA T 22 code0] spec_DrawRightHull_dec = spec_DrawRightHull n code0 := by kernel_rfl
theorem spec_DrawRightHull_lo (n : Nat) : LoopsOk (T := T) (Phi n 6) (spec_DrawRightHull_Ls n) spec_DrawRightHull_ann n spec_DrawRightHull_code := loopsOk_all (cs := []) (by kernel_rfl) trivial
theorem spec_DrawRightHull_ok (n : Nat) : EntOk Try.prog (ents n) (spec_DrawRightHull_ent n) := by
  intro hs ar y hg h
  replace h : spec_DrawRightHull_D n ar = some y := h
  unfold spec_DrawRightHull_D at h
  replace h := ocons_some h
  obtain ⟨a0, r0, rfl, h⟩ := h
  replace h := onil_some h
  obtain ⟨rfl, h⟩ := h
  obtain ⟨code0, qh0, h⟩ := obind_some h
  rw [argV_eq ok qh0]
  exact call_of (phiE_nat _ _) hs ok mixed Try.func16 (c := spec_DrawRightHull_code) (by kernel_rfl) (spec_DrawRightHull_lo n) (by kernel_rfl) (by kernel_rfl) (by kernel_rfl) spec_DrawRightHull_de ((spec_DrawRightHull_tie n code0).trans h)
noncomputable def laws_at_code : Code := match Try.f17.body with | some c => c | none => .skip
def laws_at_ann : Ann := fun id => none
def laws_at_Ls (n : Nat) : Nat → Option (LSpec T) := fun id => none
theorem laws_at_tie (n : Nat) (code0 : List Int) (i1 : Int) : evF (T := T) (Phi n 7) (laws_at_Ls n) laws_at_ann n Try.f17 (sg 17) [vA T 22 code0, vA T 3 i1] laws_at_dec = laws_at n code0 i1 := by kernel_rfl
theorem laws_at_lo (n : Nat) : LoopsOk (T := T) (Phi n 7) (laws_at_Ls n) laws_at_ann n laws_at_code := loopsOk_all (cs := []) (by kernel_rfl) trivial
theorem laws_at_ok (n : Nat) : EntOk Try.prog (ents n) (laws_at_ent n) := by
  intro hs ar y hg h
  replace h : laws_at_D n ar = some y := h
  unfold laws_at_D at h
  replace h := ocons_some h
  obtain ⟨a0, r0, rfl, h⟩ := h
  replace h := ocons_some h
  obtain ⟨a1, r1, rfl, h⟩ := h
  replace h := onil_some h
  obtain ⟨rfl, h⟩ := h
  obtain ⟨code0, qh0, h⟩ := obind_some h
  obtain ⟨i1, qh1, h⟩ := obind_some h
  rw [argV_eq ok qh0, argV_eq ok qh1]
  exact call_of (phiE_nat _ _) hs ok mixed Try.func17 (c := laws_at_code) (by kernel_rfl) (laws_at_lo n) (by kernel_rfl) (by kernel_rfl) (by kernel_rfl) laws_at_de ((laws_at_tie n code0 i1).trans h)
noncomputable def impl_in_code : Code := match Try.f119.body with | some c => c | none => .skip
def impl_in_ann : Ann := fun id => none
def impl_in_Ls (n : Nat) : Nat → Option (LSpec T) := fun id => none
theorem impl_in_tie (n : Nat) (n0 : Int) (least1 : Int) (most2 : Int) : evF (T := T) (Phi n 8) (impl_in_Ls n) impl_in_ann n Try.f119 (sg 119) [vA T 3 n0, vA T 3 least1, vA T 3 most2] impl_in_dec = impl_in n n0 least1 most2 := by kernel_rfl
theorem impl_in_lo (n : Nat) : LoopsOk (T := T) (Phi n 8) (impl_in_Ls n) impl_in_ann n impl_in_code := loopsOk_all (cs := []) (by kernel_rfl) trivial
theorem impl_in_ok (n : Nat) : EntOk Try.prog (ents n) (impl_in_ent n) := by
  intro hs ar y hg h
  replace h : impl_in_D n ar = some y := h
  unfold impl_in_D at h
  replace h := ocons_some h
  obtain ⟨a0, r0, rfl, h⟩ := h
  replace h := ocons_some h
  obtain ⟨a1, r1, rfl, h⟩ := h
  replace h := ocons_some h
  obtain ⟨a2, r2, rfl, h⟩ := h
  replace h := onil_some h
  obtain ⟨rfl, h⟩ := h
  obtain ⟨n0, qh0, h⟩ := obind_some h
  obtain ⟨least1, qh1, h⟩ := obind_some h
  obtain ⟨most2, qh2, h⟩ := obind_some h
  rw [argV_eq ok qh0, argV_eq ok qh1, argV_eq ok qh2]
  exact call_of (phiE_nat _ _) hs ok mixed Try.func119 (c := impl_in_code) (by kernel_rfl) (impl_in_lo n) (by kernel_rfl) (by kernel_rfl) (by kernel_rfl) impl_in_de ((impl_in_tie n n0 least1 most2).trans h)
noncomputable def impl_all_1_code : Code := match Try.f196.body with | some c => c | none => .skip
def impl_all_1_ann : Ann := fun id => none
def impl_all_1_Ls (n : Nat) : Nat → Option (LSpec T) := fun id => none
theorem impl_all_1_tie (n : Nat) (n0 : Int) (a1 : Int) (a2 : Int) : evF (T := T) (Phi n 9) (impl_all_1_Ls n) impl_all_1_ann n Try.f196 (sg 196) [vA T 3 n0, .ptr 3 a1, .ptr 3 a2] impl_all_1_dec = impl_all_1 n n0 a1 a2 := by kernel_rfl
theorem impl_all_1_lo (n : Nat) : LoopsOk (T := T) (Phi n 9) (impl_all_1_Ls n) impl_all_1_ann n impl_all_1_code := loopsOk_all (cs := []) (by kernel_rfl) trivial
theorem impl_all_1_ok (n : Nat) : EntOk Try.prog (ents n) (impl_all_1_ent n) := by
  intro hs ar y hg h
  replace h : impl_all_1_D n ar = some y := h
  unfold impl_all_1_D at h
  replace h := ocons_some h
  obtain ⟨a0, r0, rfl, h⟩ := h
  replace h := ocons_some h
  obtain ⟨a1, r1, rfl, h⟩ := h
  replace h := ocons_some h
  obtain ⟨a2, r2, rfl, h⟩ := h
  replace h := onil_some h
  obtain ⟨rfl, h⟩ := h
  obtain ⟨n0, qh0, h⟩ := obind_some h
  obtain ⟨a1, qh1, h⟩ := obind_some h
  obtain ⟨a2, qh2, h⟩ := obind_some h
  rw [argV_eq ok qh0, argP_eq qh1, argP_eq qh2]
  exact call_of (phiE_nat _ _) hs ok mixed Try.func196 (c := impl_all_1_code) (by kernel_rfl) (impl_all_1_lo n) (by kernel_rfl) (by kernel_rfl) (by kernel_rfl) impl_all_1_de ((impl_all_1_tie n n0 a1 a2).trans h)
noncomputable def slices_IndexFunc_int_int__impl_all_1_code : Code := match Try.f222.body with | some c => c | none => .skip
def slices_IndexFunc_int_int__impl_all_1_2_sv : List Sv := [.one (.arr 3), .one (.fnr 196 [3, 3]), .one (.int .i64), .one (.int .i64)]
def slices_IndexFunc_int_int__impl_all_1_2_so : List So := []
def slices_IndexFunc_int_int__impl_all_1_2_emb (c : List Int × Int × Int × Int) (x : Int) : EVs T slices_IndexFunc_int_int__impl_all_1_2_sv × EOs T slices_IndexFunc_int_int__impl_all_1_2_so := ((c.1, (c.2.1, c.2.2.1, ()), c.2.2.2, x, ()), ())
def slices_IndexFunc_int_int__impl_all_1_2_prj (y : EVs T slices_IndexFunc_int_int__impl_all_1_2_sv × EOs T slices_IndexFunc_int_int__impl_all_1_2_so) : (List Int × Int × Int × Int) × Int := ((y.1.1, y.1.2.1.1, y.1.2.1.2.1, y.1.2.2.1), (y.1.2.2.2.1))
def slices_IndexFunc_int_int__impl_all_1_2_b (n : Nat) {R : Type} (K : Ex → Sm.St T → Option R) (c : List Int × Int × Int × Int) (x : Int) (J : Int → Option R) : Option R :=
  slices_IndexFunc_int_int__impl_all_1_L2 n (K (.exit 0) (stOf (T := T) [] [] [] [] () ())) (fun (y0 : Int) => K .ret (stOf (T := T) [4] [] [.one (.int .i64)] [] (y0, ()) ())) J c.1 c.2.1 c.2.2.1 c.2.2.2 x
def slices_IndexFunc_int_int__impl_all_1_2_sp (n : Nat) : LSpec T := mkSpec T ⟨[], [0, 1, 7, 8], []⟩ slices_IndexFunc_int_int__impl_all_1_2_sv slices_IndexFunc_int_int__impl_all_1_2_so (List Int × Int × Int × Int) (Int) slices_IndexFunc_int_int__impl_all_1_2_emb slices_IndexFunc_int_int__impl_all_1_2_prj (slices_IndexFunc_int_int__impl_all_1_2_b n)
noncomputable def slices_IndexFunc_int_int__impl_all_1_2_c : Code := ((loopCodes slices_IndexFunc_int_int__impl_all_1_code)[0]?).getD .skip
def slices_IndexFunc_int_int__impl_all_1_ann : Ann := fun id => bif Nat.beq id 3000002 then some ⟨[], [], []⟩ else bif Nat.beq id 2000002 then some ⟨[], [4], []⟩ else none
def slices_IndexFunc_int_int__impl_all_1_Ls (n : Nat) : Nat → Option (LSpec T) := fun id => bif Nat.beq id 2 then some (slices_IndexFunc_int_int__impl_all_1_2_sp n) else none
theorem slices_IndexFunc_int_int__impl_all_1_2_le (n : Nat) : LoopEq (T := T) (Phi n 10) (slices_IndexFunc_int_int__impl_all_1_Ls n) slices_IndexFunc_int_int__impl_all_1_ann n slices_IndexFunc_int_int__impl_all_1_2_c (slices_IndexFunc_int_int__impl_all_1_2_sp n) := ⟨mkSpec_dec (fun y => rfl), fun c x => by kernel_rfl, fun K J c x => by kernel_rfl⟩
theorem slices_IndexFunc_int_int__impl_all_1_tie (n : Nat) (s0 : List Int) (f1c0 : Int) (f1c1 : Int) : evF (T := T) (Phi n 10) (slices_IndexFunc_int_int__impl_all_1_Ls n) slices_IndexFunc_int_int__impl_all_1_ann n Try.f222 (sg 222) [vA T 55 s0, .fn 196 [.ptr 3 f1c0, .ptr 3 f1c1]] slices_IndexFunc_int_int__impl_all_1_dec = slices_IndexFunc_int_int__impl_all_1 n s0 f1c0 f1c1 := by kernel_rfl
theorem slices_IndexFunc_int_int__impl_all_1_lo (n : Nat) : LoopsOk (T := T) (Phi n 10) (slices_IndexFunc_int_int__impl_all_1_Ls n) slices_IndexFunc_int_int__impl_all_1_ann n slices_IndexFunc_int_int__impl_all_1_code := loopsOk_all (cs := [slices_IndexFunc_int_int__impl_all_1_2_c]) (by kernel_rfl) ⟨⟨_, by kernel_rfl, slices_IndexFunc_int_int__impl_all_1_2_le n⟩, trivial⟩
theorem slices_IndexFunc_int_int__impl_all_1_ok (n : Nat) : EntOk Try.prog (ents n) (slices_IndexFunc_int_int__impl_all_1_ent n) := by
  intro hs ar y hg h
  replace h : slices_IndexFunc_int_int__impl_all_1_D n ar = some y := h
  unfold slices_IndexFunc_int_int__impl_all_1_D at h
  split at h
  · obtain ⟨s0, qh0, h⟩ := obind_some h
    obtain ⟨f1c0, qh1, h⟩ := obind_some h
    obtain ⟨f1c1, qh2, h⟩ := obind_some h
    rw [argV_eq ok qh0, argP_eq qh1, argP_eq qh2] at hg ⊢
    cases (show [_] = [196] from natsEq_eq hg)
    exact call_of (phiE_nat _ _) hs ok mixed Try.func222 (c := slices_IndexFunc_int_int__impl_all_1_code) (by kernel_rfl) (slices_IndexFunc_int_int__impl_all_1_lo n) (by kernel_rfl) (by kernel_rfl) (by kernel_rfl) slices_IndexFunc_int_int__impl_all_1_de ((slices_IndexFunc_int_int__impl_all_1_tie n s0 f1c0 f1c1).trans h)
  · cases h
noncomputable def slices_ContainsFunc_int_int__impl_all_1_code : Code := match Try.f158.body with | some c => c | none => .skip
def slices_ContainsFunc_int_int__impl_all_1_ann : Ann := fun id => none
def slices_ContainsFunc_int_int__impl_all_1_Ls (n : Nat) : Nat → Option (LSpec T) := fun id => none
theorem slices_ContainsFunc_int_int__impl_all_1_tie (n : Nat) (s0 : List Int) (f1c0 : Int) (f1c1 : Int) : evF (T := T) (Phi n 11) (slices_ContainsFunc_int_int__impl_all_1_Ls n) slices_ContainsFunc_int_int__impl_all_1_ann n Try.f158 (sg 158) [vA T 55 s0, .fn 196 [.ptr 3 f1c0, .ptr 3 f1c1]] slices_ContainsFunc_int_int__impl_all_1_dec = slices_ContainsFunc_int_int__impl_all_1 n s0 f1c0 f1c1 := by kernel_rfl
theorem slices_ContainsFunc_int_int__impl_all_1_lo (n : Nat) : LoopsOk (T := T) (Phi n 11) (slices_ContainsFunc_int_int__impl_all_1_Ls n) slices_ContainsFunc_int_int__impl_all_1_ann n slices_ContainsFunc_int_int__impl_all_1_code := loopsOk_all (cs := []) (by kernel_rfl) trivial
theorem slices_ContainsFunc_int_int__impl_all_1_ok (n : Nat) : EntOk Try.prog (ents n) (slices_ContainsFunc_int_int__impl_all_1_ent n) := by
  intro hs ar y hg h
  replace h : slices_ContainsFunc_int_int__impl_all_1_D n ar = some y := h
  unfold slices_ContainsFunc_int_int__impl_all_1_D at h
  split at h
  · obtain ⟨s0, qh0, h⟩ := obind_some h
    obtain ⟨f1c0, qh1, h⟩ := obind_some h
    obtain ⟨f1c1, qh2, h⟩ := obind_some h
    rw [argV_eq ok qh0, argP_eq qh1, argP_eq qh2] at hg ⊢
    cases (show [_] = [196] from natsEq_eq hg)
    exact call_of (phiE_nat _ _) hs ok mixed Try.func158 (c := slices_ContainsFunc_int_int__impl_all_1_code) (by kernel_rfl) (slices_ContainsFunc_int_int__impl_all_1_lo n) (by kernel_rfl) (by kernel_rfl) (by kernel_rfl) slices_ContainsFunc_int_int__impl_all_1_de ((slices_ContainsFunc_int_int__impl_all_1_tie n s0 f1c0 f1c1).trans h)
  · cases h
noncomputable def impl_all_code : Code := match Try.f120.body with | some c => c | none => .skip
def impl_all_ann : Ann := fun id => none
def impl_all_Ls (n : Nat) : Nat → Option (LSpec T) := fun id => none
theorem impl_all_tie (n : Nat) (l0 : List Int) (least1 : Int) (most2 : Int) : evF (T := T) (Phi n 12) (impl_all_Ls n) impl_all_ann n Try.f120 (sg 120) [vA T 55 l0, vA T 3 least1, vA T 3 most2] impl_all_dec = impl_all n l0 least1 most2 := by kernel_rfl
theorem impl_all_lo (n : Nat) : LoopsOk (T := T) (Phi n 12) (impl_all_Ls n) impl_all_ann n impl_all_code := loopsOk_all (cs := []) (by kernel_rfl) trivial
theorem impl_all_ok (n : Nat) : EntOk Try.prog (ents n) (impl_all_ent n) := by
  intro hs ar y hg h
  replace h : impl_all_D n ar = some y := h
  unfold impl_all_D at h
  replace h := ocons_some h
  obtain ⟨a0, r0, rfl, h⟩ := h
  replace h := ocons_some h
  obtain ⟨a1, r1, rfl, h⟩ := h
  replace h := ocons_some h
  obtain ⟨a2, r2, rfl, h⟩ := h
  replace h := onil_some h
  obtain ⟨rfl, h⟩ := h
  obtain ⟨l0, qh0, h⟩ := obind_some h
  obtain ⟨least1, qh1, h⟩ := obind_some h
  obtain ⟨most2, qh2, h⟩ := obind_some h
  rw [argV_eq ok qh0, argV_eq ok qh1, argV_eq ok qh2]
  exact call_of (phiE_nat _ _) hs ok mixed Try.func120 (c := impl_all_code) (by kernel_rfl) (impl_all_lo n) (by kernel_rfl) (by kernel_rfl) (by kernel_rfl) impl_all_de ((impl_all_tie n l0 least1 most2).trans h)
noncomputable def impl_HullOk_code : Code := match Try.f190.body with | some c => c | none => .skip
def impl_HullOk_4_sv : List Sv := [.one (.ptr 8 0 0), .one (.arr 55), .one (.int .i64), .one (.int .i64)]
def impl_HullOk_4_so : List So := [.var [.int .i64, .int .i64, .arr 55]]
def impl_HullOk_4_emb (c : List (List Int) × Int × SHull) (x : Int) : EVs T impl_HullOk_4_sv × EOs T impl_HullOk_4_so := (((), c.1, c.2.1, x, ()), ((c.2.2.Step, c.2.2.Rise, c.2.2.Half, ()), ()))
def impl_HullOk_4_prj (y : EVs T impl_HullOk_4_sv × EOs T impl_HullOk_4_so) : (List (List Int) × Int × SHull) × Int := ((y.1.2.1, y.1.2.2.1, ((⟨y.2.1.1, y.2.1.2.1, y.2.1.2.2.1⟩ : SHull) : SHull)), (y.1.2.2.2.1))
def impl_HullOk_4_b (n : Nat) {R : Type} (K : Ex → Sm.St T → Option R) (c : List (List Int) × Int × SHull) (x : Int) (J : Int → Option R) : Option R :=
  impl_HullOk_L4 n (K (.exit 0) (stOf (T := T) [] [] [] [] () ())) (fun (y0 : Bool) => K .ret (stOf (T := T) [2] [] [.one (.bool)] [] (y0, ()) ())) J c.1 c.2.1 x c.2.2
def impl_HullOk_4_sp (n : Nat) : LSpec T := mkSpec T ⟨[], [1, 32, 33, 34], [8]⟩ impl_HullOk_4_sv impl_HullOk_4_so (List (List Int) × Int × SHull) (Int) impl_HullOk_4_emb impl_HullOk_4_prj (impl_HullOk_4_b n)
noncomputable def impl_HullOk_4_c : Code := ((loopCodes impl_HullOk_code)[0]?).getD .skip
def impl_HullOk_ann : Ann := fun id => bif Nat.beq id 3000004 then some ⟨[], [], []⟩ else bif Nat.beq id 2000004 then some ⟨[], [2], []⟩ else none
def impl_HullOk_Ls (n : Nat) : Nat → Option (LSpec T) := fun id => bif Nat.beq id 4 then some (impl_HullOk_4_sp n) else none
theorem impl_HullOk_4_le (n : Nat) : LoopEq (T := T) (Phi n 13) (impl_HullOk_Ls n) impl_HullOk_ann n impl_HullOk_4_c (impl_HullOk_4_sp n) := ⟨mkSpec_dec (fun y => rfl), fun c x => by kernel_rfl, fun K J c x => by kernel_rfl⟩
theorem impl_HullOk_tie (n : Nat) (h0 : SHull) : evF (T := T) (Phi n 13) (impl_HullOk_Ls n) impl_HullOk_ann n Try.f190 (sg 190) [vA T 26 h0] impl_HullOk_dec = impl_HullOk n h0 := by kernel_rfl
theorem impl_HullOk_lo (n : Nat) : LoopsOk (T := T) (Phi n 13) (impl_HullOk_Ls n) impl_HullOk_ann n impl_HullOk_code := loopsOk_all (cs := [impl_HullOk_4_c]) (by kernel_rfl) ⟨⟨_, by kernel_rfl, impl_HullOk_4_le n⟩, trivial⟩
theorem impl_HullOk_ok (n : Nat) : EntOk Try.prog (ents n) (impl_HullOk_ent n) := by
  intro hs ar y hg h
  replace h : impl_HullOk_D n ar = some y := h
  unfold impl_HullOk_D at h
  replace h := ocons_some h
  obtain ⟨a0, r0, rfl, h⟩ := h
  replace h := onil_some h
  obtain ⟨rfl, h⟩ := h
  obtain ⟨h0, qh0, h⟩ := obind_some h
  rw [argV_eq ok qh0]
  exact call_of (phiE_nat _ _) hs ok mixed Try.func190 (c := impl_HullOk_code) (by kernel_rfl) (impl_HullOk_lo n) (by kernel_rfl) (by kernel_rfl) (by kernel_rfl) impl_HullOk_de ((impl_HullOk_tie n h0).trans h)
noncomputable def impl_waterOk_code : Code := match Try.f182.body with | some c => c | none => .skip
def impl_waterOk_ann : Ann := fun id => none
def impl_waterOk_Ls (n : Nat) : Nat → Option (LSpec T) := fun id => none
theorem impl_waterOk_tie (n : Nat) (h0 : SHull) (w1 : Int) : evF (T := T) (Phi n 14) (impl_waterOk_Ls n) impl_waterOk_ann n Try.f182 (sg 182) [vA T 26 h0, vA T 3 w1] impl_waterOk_dec = impl_waterOk n h0 w1 := by kernel_rfl
theorem impl_waterOk_lo (n : Nat) : LoopsOk (T := T) (Phi n 14) (impl_waterOk_Ls n) impl_waterOk_ann n impl_waterOk_code := loopsOk_all (cs := []) (by kernel_rfl) trivial
theorem impl_waterOk_ok (n : Nat) : EntOk Try.prog (ents n) (impl_waterOk_ent n) := by
  intro hs ar y hg h
  replace h : impl_waterOk_D n ar = some y := h
  unfold impl_waterOk_D at h
  replace h := ocons_some h
  obtain ⟨a0, r0, rfl, h⟩ := h
  replace h := ocons_some h
  obtain ⟨a1, r1, rfl, h⟩ := h
  replace h := onil_some h
  obtain ⟨rfl, h⟩ := h
  obtain ⟨h0, qh0, h⟩ := obind_some h
  obtain ⟨w1, qh1, h⟩ := obind_some h
  rw [argV_eq ok qh0, argV_eq ok qh1]
  exact call_of (phiE_nat _ _) hs ok mixed Try.func182 (c := impl_waterOk_code) (by kernel_rfl) (impl_waterOk_lo n) (by kernel_rfl) (by kernel_rfl) (by kernel_rfl) impl_waterOk_de ((impl_waterOk_tie n h0 w1).trans h)
noncomputable def impl_Strips2_code : Code := match Try.f178.body with | some c => c | none => .skip
def impl_Strips2_5_sv : List Sv := [.one (.int .i64), .one (.ptr 16 0 0), .one (.own 3000000 3 false), .one (.int .i64), .one (.int .i64)]
def impl_Strips2_5_so : List So := [.var [.int .i64, .int .i64, .arr 55], .arr 3 false]
def impl_Strips2_5_emb (c : Int × Int × SHull) (x : Int × List Int) : EVs T impl_Strips2_5_sv × EOs T impl_Strips2_5_so := ((c.1, (), (), c.2.1, x.1, ()), ((c.2.2.Step, c.2.2.Rise, c.2.2.Half, ()), x.2, ()))
def impl_Strips2_5_prj (y : EVs T impl_Strips2_5_sv × EOs T impl_Strips2_5_so) : (Int × Int × SHull) × (Int × List Int) := ((y.1.1, y.1.2.2.2.1, ((⟨y.2.1.1, y.2.1.2.1, y.2.1.2.2.1⟩ : SHull) : SHull)), (y.1.2.2.2.2.1, y.2.2.1))
def impl_Strips2_5_b (n : Nat) {R : Type} (K : Ex → Sm.St T → Option R) (c : Int × Int × SHull) (x : Int × List Int) (J : (Int × List Int) → Option R) : Option R :=
  impl_Strips2_L5 n (fun (y0 : List Int) => K (.exit 0) (stOf (T := T) [5] [3000000] [.one (.own 3000000 3 false)] [.arr 3 false] ((), ()) (y0, ()))) (fun z0 z1 => J (z0, z1)) c.1 c.2.1 x.1 c.2.2 x.2
def impl_Strips2_5_sp (n : Nat) : LSpec T := mkSpec T ⟨[((.reg 5), 3000000, 3)], [1, 2, 5, 18, 19], [16, 3000000]⟩ impl_Strips2_5_sv impl_Strips2_5_so (Int × Int × SHull) (Int × List Int) impl_Strips2_5_emb impl_Strips2_5_prj (impl_Strips2_5_b n)
noncomputable def impl_Strips2_5_c : Code := ((loopCodes impl_Strips2_code)[0]?).getD .skip
def impl_Strips2_8_sv : List Sv := [.one (.int .i64), .one (.ptr 16 0 0), .one (.own 3000000 3 false), .one (.int .i64), .one (.int .i64), .one (.int .i64), .one (.int .i64), .one (.int .i64)]
def impl_Strips2_8_so : List So := [.var [.int .i64, .int .i64, .arr 55], .arr 3 false]
def impl_Strips2_8_emb (c : Int × Int × Int × Int × Int × SHull) (x : Int × List Int) : EVs T impl_Strips2_8_sv × EOs T impl_Strips2_8_so := ((c.1, (), (), c.2.1, c.2.2.1, c.2.2.2.1, c.2.2.2.2.1, x.1, ()), ((c.2.2.2.2.2.Step, c.2.2.2.2.2.Rise, c.2.2.2.2.2.Half, ()), x.2, ()))
def impl_Strips2_8_prj (y : EVs T impl_Strips2_8_sv × EOs T impl_Strips2_8_so) : (Int × Int × Int × Int × Int × SHull) × (Int × List Int) := ((y.1.1, y.1.2.2.2.1, y.1.2.2.2.2.1, y.1.2.2.2.2.2.1, y.1.2.2.2.2.2.2.1, ((⟨y.2.1.1, y.2.1.2.1, y.2.1.2.2.1⟩ : SHull) : SHull)), (y.1.2.2.2.2.2.2.2.1, y.2.2.1))
def impl_Strips2_8_b (n : Nat) {R : Type} (K : Ex → Sm.St T → Option R) (c : Int × Int × Int × Int × Int × SHull) (x : Int × List Int) (J : (Int × List Int) → Option R) : Option R :=
  impl_Strips2_L8 n (fun (y4 : List Int) => K (.exit 2) (stOf (T := T) [1, 2, 5, 18, 19] [16, 3000000] [.one (.int .i64), .one (.ptr 16 0 0), .one (.own 3000000 3 false), .one (.int .i64), .one (.int .i64)] [.var [.int .i64, .int .i64, .arr 55], .arr 3 false] (c.1, (), (), c.2.2.1, c.2.2.2.1, ()) ((c.2.2.2.2.2.Step, c.2.2.2.2.2.Rise, c.2.2.2.2.2.Half, ()), y4, ()))) (fun z0 z1 => J (z0, z1)) c.1 c.2.1 c.2.2.1 c.2.2.2.1 c.2.2.2.2.1 x.1 c.2.2.2.2.2 x.2
def impl_Strips2_8_sp (n : Nat) : LSpec T := mkSpec T ⟨[((.reg 5), 3000000, 3)], [1, 2, 5, 6, 18, 19, 22, 23], [16, 3000000]⟩ impl_Strips2_8_sv impl_Strips2_8_so (Int × Int × Int × Int × Int × SHull) (Int × List Int) impl_Strips2_8_emb impl_Strips2_8_prj (impl_Strips2_8_b n)
noncomputable def impl_Strips2_8_c : Code := ((loopCodes impl_Strips2_code)[1]?).getD .skip
def impl_Strips2_ann : Ann := fun id => bif Nat.beq id 3000005 then some ⟨[((.reg 5), 3000000, 3)], [5], [3000000]⟩ else bif Nat.beq id 5000008 then some ⟨[((.reg 5), 3000000, 3)], [1, 2, 5, 18, 19], [16, 3000000]⟩ else none
def impl_Strips2_Ls (n : Nat) : Nat → Option (LSpec T) := fun id => bif Nat.beq id 5 then some (impl_Strips2_5_sp n) else bif Nat.beq id 8 then some (impl_Strips2_8_sp n) else none
theorem impl_Strips2_5_le (n : Nat) : LoopEq (T := T) (Phi n 15) (impl_Strips2_Ls n) impl_Strips2_ann n impl_Strips2_5_c (impl_Strips2_5_sp n) := ⟨mkSpec_dec (fun y => rfl), fun c x => by kernel_rfl, fun K J c x => by kernel_rfl⟩
theorem impl_Strips2_8_le (n : Nat) : LoopEq (T := T) (Phi n 15) (impl_Strips2_Ls n) impl_Strips2_ann n impl_Strips2_8_c (impl_Strips2_8_sp n) := ⟨mkSpec_dec (fun y => rfl), fun c x => by kernel_rfl, fun K J c x => by kernel_rfl⟩
theorem impl_Strips2_tie (n : Nat) (h0 : SHull) (w1 : Int) : evF (T := T) (Phi n 15) (impl_Strips2_Ls n) impl_Strips2_ann n Try.f178 (sg 178) [vA T 26 h0, vA T 3 w1] impl_Strips2_dec = impl_Strips2 n h0 w1 := by kernel_rfl
theorem impl_Strips2_lo (n : Nat) : LoopsOk (T := T) (Phi n 15) (impl_Strips2_Ls n) impl_Strips2_ann n impl_Strips2_code := loopsOk_all (cs := [impl_Strips2_5_c, impl_Strips2_8_c]) (by kernel_rfl) ⟨⟨_, by kernel_rfl, impl_Strips2_5_le n⟩, ⟨_, by kernel_rfl, impl_Strips2_8_le n⟩, trivial⟩
theorem impl_Strips2_ok (n : Nat) : EntOk Try.prog (ents n) (impl_Strips2_ent n) := by
  intro hs ar y hg h
  replace h : impl_Strips2_D n ar = some y := h
  unfold impl_Strips2_D at h
  replace h := ocons_some h
  obtain ⟨a0, r0, rfl, h⟩ := h
  replace h := ocons_some h
  obtain ⟨a1, r1, rfl, h⟩ := h
  replace h := onil_some h
  obtain ⟨rfl, h⟩ := h
  obtain ⟨h0, qh0, h⟩ := obind_some h
  obtain ⟨w1, qh1, h⟩ := obind_some h
  rw [argV_eq ok qh0, argV_eq ok qh1]
  exact call_of (phiE_nat _ _) hs ok mixed Try.func178 (c := impl_Strips2_code) (by kernel_rfl) (impl_Strips2_lo n) (by kernel_rfl) (by kernel_rfl) (by kernel_rfl) impl_Strips2_de ((impl_Strips2_tie n h0 w1).trans h)
noncomputable def impl_sumOf_code : Code := match Try.f177.body with | some c => c | none => .skip
def impl_sumOf_3_sv : List Sv := [.one (.int .i64), .one (.arr 3), .one (.int .i64), .one (.int .i64)]
def impl_sumOf_3_so : List So := []
def impl_sumOf_3_emb (c : List Int × Int) (x : Int × Int) : EVs T impl_sumOf_3_sv × EOs T impl_sumOf_3_so := ((x.1, c.1, c.2, x.2, ()), ())
def impl_sumOf_3_prj (y : EVs T impl_sumOf_3_sv × EOs T impl_sumOf_3_so) : (List Int × Int) × (Int × Int) := ((y.1.2.1, y.1.2.2.1), (y.1.1, y.1.2.2.2.1))
def impl_sumOf_3_b (n : Nat) {R : Type} (K : Ex → Sm.St T → Option R) (c : List Int × Int) (x : Int × Int) (J : (Int × Int) → Option R) : Option R :=
  impl_sumOf_L3 n (fun (y0 : Int) => K (.exit 0) (stOf (T := T) [3] [] [.one (.int .i64)] [] (y0, ()) ())) (fun z0 z1 => J (z0, z1)) x.1 c.1 c.2 x.2
def impl_sumOf_3_sp (n : Nat) : LSpec T := mkSpec T ⟨[], [3, 6, 7, 8], []⟩ impl_sumOf_3_sv impl_sumOf_3_so (List Int × Int) (Int × Int) impl_sumOf_3_emb impl_sumOf_3_prj (impl_sumOf_3_b n)
noncomputable def impl_sumOf_3_c : Code := ((loopCodes impl_sumOf_code)[0]?).getD .skip
def impl_sumOf_ann : Ann := fun id => bif Nat.beq id 3000003 then some ⟨[], [3], []⟩ else none
def impl_sumOf_Ls (n : Nat) : Nat → Option (LSpec T) := fun id => bif Nat.beq id 3 then some (impl_sumOf_3_sp n) else none
theorem impl_sumOf_3_le (n : Nat) : LoopEq (T := T) (Phi n 16) (impl_sumOf_Ls n) impl_sumOf_ann n impl_sumOf_3_c (impl_sumOf_3_sp n) := ⟨mkSpec_dec (fun y => rfl), fun c x => by kernel_rfl, fun K J c x => by kernel_rfl⟩
theorem impl_sumOf_tie (n : Nat) (l0 : List Int) : evF (T := T) (Phi n 16) (impl_sumOf_Ls n) impl_sumOf_ann n Try.f177 (sg 177) [vA T 55 l0] impl_sumOf_dec = impl_sumOf n l0 := by kernel_rfl
theorem impl_sumOf_lo (n : Nat) : LoopsOk (T := T) (Phi n 16) (impl_sumOf_Ls n) impl_sumOf_ann n impl_sumOf_code := loopsOk_all (cs := [impl_sumOf_3_c]) (by kernel_rfl) ⟨⟨_, by kernel_rfl, impl_sumOf_3_le n⟩, trivial⟩
theorem impl_sumOf_ok (n : Nat) : EntOk Try.prog (ents n) (impl_sumOf_ent n) := by
  intro hs ar y hg h
  replace h : impl_sumOf_D n ar = some y := h
  unfold impl_sumOf_D at h
  replace h := ocons_some h
  obtain ⟨a0, r0, rfl, h⟩ := h
  replace h := onil_some h
  obtain ⟨rfl, h⟩ := h
  obtain ⟨l0, qh0, h⟩ := obind_some h
  rw [argV_eq ok qh0]
  exact call_of (phiE_nat _ _) hs ok mixed Try.func177 (c := impl_sumOf_code) (by kernel_rfl) (impl_sumOf_lo n) (by kernel_rfl) (by kernel_rfl) (by kernel_rfl) impl_sumOf_de ((impl_sumOf_tie n l0).trans h)
noncomputable def impl_Volume2_code : Code := match Try.f90.body with | some c => c | none => .skip
def impl_Volume2_ann : Ann := fun id => none
def impl_Volume2_Ls (n : Nat) : Nat → Option (LSpec T) := fun id => none
theorem impl_Volume2_tie (n : Nat) (h0 : SHull) (w1 : Int) : evF (T := T) (Phi n 17) (impl_Volume2_Ls n) impl_Volume2_ann n Try.f90 (sg 90) [vA T 26 h0, vA T 3 w1] impl_Volume2_dec = impl_Volume2 n h0 w1 := by kernel_rfl
theorem impl_Volume2_lo (n : Nat) : LoopsOk (T := T) (Phi n 17) (impl_Volume2_Ls n) impl_Volume2_ann n impl_Volume2_code := loopsOk_all (cs := []) (by kernel_rfl) trivial
theorem impl_Volume2_ok (n : Nat) : EntOk Try.prog (ents n) (impl_Volume2_ent n) := by
  intro hs ar y hg h
  replace h : impl_Volume2_D n ar = some y := h
  unfold impl_Volume2_D at h
  replace h := ocons_some h
  obtain ⟨a0, r0, rfl, h⟩ := h
  replace h := ocons_some h
  obtain ⟨a1, r1, rfl, h⟩ := h
  replace h := onil_some h
  obtain ⟨rfl, h⟩ := h
  obtain ⟨h0, qh0, h⟩ := obind_some h
  obtain ⟨w1, qh1, h⟩ := obind_some h
  rw [argV_eq ok qh0, argV_eq ok qh1]
  exact call_of (phiE_nat _ _) hs ok mixed Try.func90 (c := impl_Volume2_code) (by kernel_rfl) (impl_Volume2_lo n) (by kernel_rfl) (by kernel_rfl) (by kernel_rfl) impl_Volume2_de ((impl_Volume2_tie n h0 w1).trans h)
noncomputable def impl_MassesOk_1_code : Code := match Try.f187.body with | some c => c | none => .skip
def impl_MassesOk_1_ann : Ann := fun id => none
def impl_MassesOk_1_Ls (n : Nat) : Nat → Option (LSpec T) := fun id => none
theorem impl_MassesOk_1_tie (n : Nat) (m0 : SMass) : evF (T := T) (Phi n 18) (impl_MassesOk_1_Ls n) impl_MassesOk_1_ann n Try.f187 (sg 187) [vA T 30 m0] impl_MassesOk_1_dec = impl_MassesOk_1 n m0 := by kernel_rfl
theorem impl_MassesOk_1_lo (n : Nat) : LoopsOk (T := T) (Phi n 18) (impl_MassesOk_1_Ls n) impl_MassesOk_1_ann n impl_MassesOk_1_code := loopsOk_all (cs := []) (by kernel_rfl) trivial
theorem impl_MassesOk_1_ok (n : Nat) : EntOk Try.prog (ents n) (impl_MassesOk_1_ent n) := by
  intro hs ar y hg h
  replace h : impl_MassesOk_1_D n ar = some y := h
  unfold impl_MassesOk_1_D at h
  replace h := ocons_some h
  obtain ⟨a0, r0, rfl, h⟩ := h
  replace h := onil_some h
  obtain ⟨rfl, h⟩ := h
  obtain ⟨m0, qh0, h⟩ := obind_some h
  rw [argV_eq ok qh0]
  exact call_of (phiE_nat _ _) hs ok mixed Try.func187 (c := impl_MassesOk_1_code) (by kernel_rfl) (impl_MassesOk_1_lo n) (by kernel_rfl) (by kernel_rfl) (by kernel_rfl) impl_MassesOk_1_de ((impl_MassesOk_1_tie n m0).trans h)
noncomputable def slices_IndexFunc_impl_Mass_impl_Mass__impl_MassesOk_1_code : Code := match Try.f237.body with | some c => c | none => .skip
def slices_IndexFunc_impl_Mass_impl_Mass__impl_MassesOk_1_2_sv : List Sv := [.one (.arr 30), .one (.fn 187 []), .one (.int .i64), .one (.int .i64)]
def slices_IndexFunc_impl_Mass_impl_Mass__impl_MassesOk_1_2_so : List So := []
def slices_IndexFunc_impl_Mass_impl_Mass__impl_MassesOk_1_2_emb (c : List SMass × Int) (x : Int) : EVs T slices_IndexFunc_impl_Mass_impl_Mass__impl_MassesOk_1_2_sv × EOs T slices_IndexFunc_impl_Mass_impl_Mass__impl_MassesOk_1_2_so := ((c.1, (), c.2, x, ()), ())
def slices_IndexFunc_impl_Mass_impl_Mass__impl_MassesOk_1_2_prj (y : EVs T slices_IndexFunc_impl_Mass_impl_Mass__impl_MassesOk_1_2_sv × EOs T slices_IndexFunc_impl_Mass_impl_Mass__impl_MassesOk_1_2_so) : (List SMass × Int) × Int := ((y.1.1, y.1.2.2.1), (y.1.2.2.2.1))
def slices_IndexFunc_impl_Mass_impl_Mass__impl_MassesOk_1_2_b (n : Nat) {R : Type} (K : Ex → Sm.St T → Option R) (c : List SMass × Int) (x : Int) (J : Int → Option R) : Option R :=
  slices_IndexFunc_impl_Mass_impl_Mass__impl_MassesOk_1_L2 n (K (.exit 0) (stOf (T := T) [] [] [] [] () ())) (fun (y0 : Int) => K .ret (stOf (T := T) [4] [] [.one (.int .i64)] [] (y0, ()) ())) J c.1 c.2 x
def slices_IndexFunc_impl_Mass_impl_Mass__impl_MassesOk_1_2_sp (n : Nat) : LSpec T := mkSpec T ⟨[], [0, 1, 7, 8], []⟩ slices_IndexFunc_impl_Mass_impl_Mass__impl_MassesOk_1_2_sv slices_IndexFunc_impl_Mass_impl_Mass__impl_MassesOk_1_2_so (List SMass × Int) (Int) slices_IndexFunc_impl_Mass_impl_Mass__impl_MassesOk_1_2_emb slices_IndexFunc_impl_Mass_impl_Mass__impl_MassesOk_1_2_prj (slices_IndexFunc_impl_Mass_impl_Mass__impl_MassesOk_1_2_b n)
noncomputable def slices_IndexFunc_impl_Mass_impl_Mass__impl_MassesOk_1_2_c : Code := ((loopCodes slices_IndexFunc_impl_Mass_impl_Mass__impl_MassesOk_1_code)[0]?).getD .skip
def slices_IndexFunc_impl_Mass_impl_Mass__impl_MassesOk_1_ann : Ann := fun id => bif Nat.beq id 3000002 then some ⟨[], [], []⟩ else bif Nat.beq id 2000002 then some ⟨[], [4], []⟩ else none
def slices_IndexFunc_impl_Mass_impl_Mass__impl_MassesOk_1_Ls (n : Nat) : Nat → Option (LSpec T) := fun id => bif Nat.beq id 2 then some (slices_IndexFunc_impl_Mass_impl_Mass__impl_MassesOk_1_2_sp n) else none
theorem slices_IndexFunc_impl_Mass_impl_Mass__impl_MassesOk_1_2_le (n : Nat) : LoopEq (T := T) (Phi n 19) (slices_IndexFunc_impl_Mass_impl_Mass__impl_MassesOk_1_Ls n) slices_IndexFunc_impl_Mass_impl_Mass__impl_MassesOk_1_ann n slices_IndexFunc_impl_Mass_impl_Mass__impl_MassesOk_1_2_c (slices_IndexFunc_impl_Mass_impl_Mass__impl_MassesOk_1_2_sp n) := ⟨mkSpec_dec (fun y => rfl), fun c x => by kernel_rfl, fun K J c x => by kernel_rfl⟩
theorem slices_IndexFunc_impl_Mass_impl_Mass__impl_MassesOk_1_tie (n : Nat) (s0 : List SMass) : evF (T := T) (Phi n 19) (slices_IndexFunc_impl_Mass_impl_Mass__impl_MassesOk_1_Ls n) slices_IndexFunc_impl_Mass_impl_Mass__impl_MassesOk_1_ann n Try.f237 (sg 237) [vA T 32 s0, .fn 187 []] slices_IndexFunc_impl_Mass_impl_Mass__impl_MassesOk_1_dec = slices_IndexFunc_impl_Mass_impl_Mass__impl_MassesOk_1 n s0 := by kernel_rfl
theorem slices_IndexFunc_impl_Mass_impl_Mass__impl_MassesOk_1_lo (n : Nat) : LoopsOk (T := T) (Phi n 19) (slices_IndexFunc_impl_Mass_impl_Mass__impl_MassesOk_1_Ls n) slices_IndexFunc_impl_Mass_impl_Mass__impl_MassesOk_1_ann n slices_IndexFunc_impl_Mass_impl_Mass__impl_MassesOk_1_code := loopsOk_all (cs := [slices_IndexFunc_impl_Mass_impl_Mass__impl_MassesOk_1_2_c]) (by kernel_rfl) ⟨⟨_, by kernel_rfl, slices_IndexFunc_impl_Mass_impl_Mass__impl_MassesOk_1_2_le n⟩, trivial⟩
theorem slices_IndexFunc_impl_Mass_impl_Mass__impl_MassesOk_1_ok (n : Nat) : EntOk Try.prog (ents n) (slices_IndexFunc_impl_Mass_impl_Mass__impl_MassesOk_1_ent n) := by
  intro hs ar y hg h
  replace h : slices_IndexFunc_impl_Mass_impl_Mass__impl_MassesOk_1_D n ar = some y := h
  unfold slices_IndexFunc_impl_Mass_impl_Mass__impl_MassesOk_1_D at h
  split at h
  · obtain ⟨s0, qh0, h⟩ := obind_some h
    rw [argV_eq ok qh0] at hg ⊢
    cases (show [_] = [187] from natsEq_eq hg)
    exact call_of (phiE_nat _ _) hs ok mixed Try.func237 (c := slices_IndexFunc_impl_Mass_impl_Mass__impl_MassesOk_1_code) (by kernel_rfl) (slices_IndexFunc_impl_Mass_impl_Mass__impl_MassesOk_1_lo n) (by kernel_rfl) (by kernel_rfl) (by kernel_rfl) slices_IndexFunc_impl_Mass_impl_Mass__impl_MassesOk_1_de ((slices_IndexFunc_impl_Mass_impl_Mass__impl_MassesOk_1_tie n s0).trans h)
  · cases h
noncomputable def slices_ContainsFunc_impl_Mass_impl_Mass__impl_MassesOk_1_code : Code := match Try.f186.body with | some c => c | none => .skip
def slices_ContainsFunc_impl_Mass_impl_Mass__impl_MassesOk_1_ann : Ann := fun id => none
def slices_ContainsFunc_impl_Mass_impl_Mass__impl_MassesOk_1_Ls (n : Nat) : Nat → Option (LSpec T) := fun id => none
theorem slices_ContainsFunc_impl_Mass_impl_Mass__impl_MassesOk_1_tie (n : Nat) (s0 : List SMass) : evF (T := T) (Phi n 20) (slices_ContainsFunc_impl_Mass_impl_Mass__impl_MassesOk_1_Ls n) slices_ContainsFunc_impl_Mass_impl_Mass__impl_MassesOk_1_ann n Try.f186 (sg 186) [vA T 32 s0, .fn 187 []] slices_ContainsFunc_impl_Mass_impl_Mass__impl_MassesOk_1_dec = slices_ContainsFunc_impl_Mass_impl_Mass__impl_MassesOk_1 n s0 := by kernel_rfl
theorem slices_ContainsFunc_impl_Mass_impl_Mass__impl_MassesOk_1_lo (n : Nat) : LoopsOk (T := T) (Phi n 20) (slices_ContainsFunc_impl_Mass_impl_Mass__impl_MassesOk_1_Ls n) slices_ContainsFunc_impl_Mass_impl_Mass__impl_MassesOk_1_ann n slices_ContainsFunc_impl_Mass_impl_Mass__impl_MassesOk_1_code := loopsOk_all (cs := []) (by kernel_rfl) trivial
theorem slices_ContainsFunc_impl_Mass_impl_Mass__impl_MassesOk_1_ok (n : Nat) : EntOk Try.prog (ents n) (slices_ContainsFunc_impl_Mass_impl_Mass__impl_MassesOk_1_ent n) := by
  intro hs ar y hg h
  replace h : slices_ContainsFunc_impl_Mass_impl_Mass__impl_MassesOk_1_D n ar = some y := h
  unfold slices_ContainsFunc_impl_Mass_impl_Mass__impl_MassesOk_1_D at h
  split at h
  · obtain ⟨s0, qh0, h⟩ := obind_some h
    rw [argV_eq ok qh0] at hg ⊢
    cases (show [_] = [187] from natsEq_eq hg)
    exact call_of (phiE_nat _ _) hs ok mixed Try.func186 (c := slices_ContainsFunc_impl_Mass_impl_Mass__impl_MassesOk_1_code) (by kernel_rfl) (slices_ContainsFunc_impl_Mass_impl_Mass__impl_MassesOk_1_lo n) (by kernel_rfl) (by kernel_rfl) (by kernel_rfl) slices_ContainsFunc_impl_Mass_impl_Mass__impl_MassesOk_1_de ((slices_ContainsFunc_impl_Mass_impl_Mass__impl_MassesOk_1_tie n s0).trans h)
  · cases h
noncomputable def impl_MassesOk_code : Code := match Try.f95.body with | some c => c | none => .skip
def impl_MassesOk_ann : Ann := fun id => none
def impl_MassesOk_Ls (n : Nat) : Nat → Option (LSpec T) := fun id => none
theorem impl_MassesOk_tie (n : Nat) (list0 : List SMass) : evF (T := T) (Phi n 21) (impl_MassesOk_Ls n) impl_MassesOk_ann n Try.f95 (sg 95) [vA T 32 list0] impl_MassesOk_dec = impl_MassesOk n list0 := by kernel_rfl
theorem impl_MassesOk_lo (n : Nat) : LoopsOk (T := T) (Phi n 21) (impl_MassesOk_Ls n) impl_MassesOk_ann n impl_MassesOk_code := loopsOk_all (cs := []) (by kernel_rfl) trivial
theorem impl_MassesOk_ok (n : Nat) : EntOk Try.prog (ents n) (impl_MassesOk_ent n) := by
  intro hs ar y hg h
  replace h : impl_MassesOk_D n ar = some y := h
  unfold impl_MassesOk_D at h
  replace h := ocons_some h
  obtain ⟨a0, r0, rfl, h⟩ := h
  replace h := onil_some h
  obtain ⟨rfl, h⟩ := h
  obtain ⟨list0, qh0, h⟩ := obind_some h
  rw [argV_eq ok qh0]
  exact call_of (phiE_nat _ _) hs ok mixed Try.func95 (c := impl_MassesOk_code) (by kernel_rfl) (impl_MassesOk_lo n) (by kernel_rfl) (by kernel_rfl) (by kernel_rfl) impl_MassesOk_de ((impl_MassesOk_tie n list0).trans h)
noncomputable def impl_LoadOf_code : Code := match Try.f19.body with | some c => c | none => .skip
def impl_LoadOf_5_sv : List Sv := [.one (.ptr 16 0 0), .one (.ptr 32 0 0), .one (.arr 30), .one (.int .i64), .one (.int .i64)]
def impl_LoadOf_5_so : List So := [.var [.int .i64, .int .i64, .int .i64], .var [.int .i64, .int .i64, .int .i64]]
def impl_LoadOf_5_emb (c : List SMass × Int × SMass) (x : Int × SMass) : EVs T impl_LoadOf_5_sv × EOs T impl_LoadOf_5_so := (((), (), c.1, c.2.1, x.1, ()), ((c.2.2.Weight, c.2.2.X, c.2.2.Z, ()), (x.2.Weight, x.2.X, x.2.Z, ()), ()))
def impl_LoadOf_5_prj (y : EVs T impl_LoadOf_5_sv × EOs T impl_LoadOf_5_so) : (List SMass × Int × SMass) × (Int × SMass) := ((y.1.2.2.1, y.1.2.2.2.1, ((⟨y.2.1.1, y.2.1.2.1, y.2.1.2.2.1⟩ : SMass) : SMass)), (y.1.2.2.2.2.1, ((⟨y.2.2.1.1, y.2.2.1.2.1, y.2.2.1.2.2.1⟩ : SMass) : SMass)))
def impl_LoadOf_5_b (n : Nat) {R : Type} (K : Ex → Sm.St T → Option R) (c : List SMass × Int × SMass) (x : Int × SMass) (J : (Int × SMass) → Option R) : Option R :=
  impl_LoadOf_L5 n (fun (y1 : SMass) => K (.exit 0) (stOf (T := T) [2, 4] [16, 32] [.one (.ptr 16 0 0), .one (.ptr 32 0 0)] [.var [.int .i64, .int .i64, .int .i64], .var [.int .i64, .int .i64, .int .i64]] ((), (), ()) ((c.2.2.Weight, c.2.2.X, c.2.2.Z, ()), (y1.Weight, y1.X, y1.Z, ()), ()))) (fun z0 z1 => J (z0, z1)) c.1 c.2.1 x.1 c.2.2 x.2
def impl_LoadOf_5_sp (n : Nat) : LSpec T := mkSpec T ⟨[], [2, 4, 11, 12, 13], [16, 32]⟩ impl_LoadOf_5_sv impl_LoadOf_5_so (List SMass × Int × SMass) (Int × SMass) impl_LoadOf_5_emb impl_LoadOf_5_prj (impl_LoadOf_5_b n)
noncomputable def impl_LoadOf_5_c : Code := ((loopCodes impl_LoadOf_code)[0]?).getD .skip
def impl_LoadOf_ann : Ann := fun id => bif Nat.beq id 3000005 then some ⟨[], [2, 4], [16, 32]⟩ else none
def impl_LoadOf_Ls (n : Nat) : Nat → Option (LSpec T) := fun id => bif Nat.beq id 5 then some (impl_LoadOf_5_sp n) else none
theorem impl_LoadOf_5_le (n : Nat) : LoopEq (T := T) (Phi n 22) (impl_LoadOf_Ls n) impl_LoadOf_ann n impl_LoadOf_5_c (impl_LoadOf_5_sp n) := ⟨mkSpec_dec (fun y => rfl), fun c x => by kernel_rfl, fun K J c x => by kernel_rfl⟩
theorem impl_LoadOf_tie (n : Nat) (list0 : List SMass) : evF (T := T) (Phi n 22) (impl_LoadOf_Ls n) impl_LoadOf_ann n Try.f19 (sg 19) [vA T 32 list0] impl_LoadOf_dec = impl_LoadOf n list0 := by kernel_rfl
theorem impl_LoadOf_lo (n : Nat) : LoopsOk (T := T) (Phi n 22) (impl_LoadOf_Ls n) impl_LoadOf_ann n impl_LoadOf_code := loopsOk_all (cs := [impl_LoadOf_5_c]) (by kernel_rfl) ⟨⟨_, by kernel_rfl, impl_LoadOf_5_le n⟩, trivial⟩
theorem impl_LoadOf_ok (n : Nat) : EntOk Try.prog (ents n) (impl_LoadOf_ent n) := by
  intro hs ar y hg h
  replace h : impl_LoadOf_D n ar = some y := h
  unfold impl_LoadOf_D at h
  replace h := ocons_some h
  obtain ⟨a0, r0, rfl, h⟩ := h
  replace h := onil_some h
  obtain ⟨rfl, h⟩ := h
  obtain ⟨list0, qh0, h⟩ := obind_some h
  rw [argV_eq ok qh0]
  exact call_of (phiE_nat _ _) hs ok mixed Try.func19 (c := impl_LoadOf_code) (by kernel_rfl) (impl_LoadOf_lo n) (by kernel_rfl) (by kernel_rfl) (by kernel_rfl) impl_LoadOf_de ((impl_LoadOf_tie n list0).trans h)
noncomputable def impl_tanksOk_1_code : Code := match Try.f180.body with | some c => c | none => .skip
def impl_tanksOk_1_ann : Ann := fun id => none
def impl_tanksOk_1_Ls (n : Nat) : Nat → Option (LSpec T) := fun id => none
theorem impl_tanksOk_1_tie (n : Nat) (t0 : STank) : evF (T := T) (Phi n 23) (impl_tanksOk_1_Ls n) impl_tanksOk_1_ann n Try.f180 (sg 180) [vA T 157 t0] impl_tanksOk_1_dec = impl_tanksOk_1 n t0 := by kernel_rfl
theorem impl_tanksOk_1_lo (n : Nat) : LoopsOk (T := T) (Phi n 23) (impl_tanksOk_1_Ls n) impl_tanksOk_1_ann n impl_tanksOk_1_code := loopsOk_all (cs := []) (by kernel_rfl) trivial
theorem impl_tanksOk_1_ok (n : Nat) : EntOk Try.prog (ents n) (impl_tanksOk_1_ent n) := by
  intro hs ar y hg h
  replace h : impl_tanksOk_1_D n ar = some y := h
  unfold impl_tanksOk_1_D at h
  replace h := ocons_some h
  obtain ⟨a0, r0, rfl, h⟩ := h
  replace h := onil_some h
  obtain ⟨rfl, h⟩ := h
  obtain ⟨t0, qh0, h⟩ := obind_some h
  rw [argV_eq ok qh0]
  exact call_of (phiE_nat _ _) hs ok mixed Try.func180 (c := impl_tanksOk_1_code) (by kernel_rfl) (impl_tanksOk_1_lo n) (by kernel_rfl) (by kernel_rfl) (by kernel_rfl) impl_tanksOk_1_de ((impl_tanksOk_1_tie n t0).trans h)
noncomputable def slices_IndexFunc_impl_Tank_impl_Tank__impl_tanksOk_1_code : Code := match Try.f235.body with | some c => c | none => .skip
def slices_IndexFunc_impl_Tank_impl_Tank__impl_tanksOk_1_2_sv : List Sv := [.one (.arr 157), .one (.fn 180 []), .one (.int .i64), .one (.int .i64)]
def slices_IndexFunc_impl_Tank_impl_Tank__impl_tanksOk_1_2_so : List So := []
def slices_IndexFunc_impl_Tank_impl_Tank__impl_tanksOk_1_2_emb (c : List STank × Int) (x : Int) : EVs T slices_IndexFunc_impl_Tank_impl_Tank__impl_tanksOk_1_2_sv × EOs T slices_IndexFunc_impl_Tank_impl_Tank__impl_tanksOk_1_2_so := ((c.1, (), c.2, x, ()), ())
def slices_IndexFunc_impl_Tank_impl_Tank__impl_tanksOk_1_2_prj (y : EVs T slices_IndexFunc_impl_Tank_impl_Tank__impl_tanksOk_1_2_sv × EOs T slices_IndexFunc_impl_Tank_impl_Tank__impl_tanksOk_1_2_so) : (List STank × Int) × Int := ((y.1.1, y.1.2.2.1), (y.1.2.2.2.1))
def slices_IndexFunc_impl_Tank_impl_Tank__impl_tanksOk_1_2_b (n : Nat) {R : Type} (K : Ex → Sm.St T → Option R) (c : List STank × Int) (x : Int) (J : Int → Option R) : Option R :=
  slices_IndexFunc_impl_Tank_impl_Tank__impl_tanksOk_1_L2 n (K (.exit 0) (stOf (T := T) [] [] [] [] () ())) (fun (y0 : Int) => K .ret (stOf (T := T) [4] [] [.one (.int .i64)] [] (y0, ()) ())) J c.1 c.2 x
def slices_IndexFunc_impl_Tank_impl_Tank__impl_tanksOk_1_2_sp (n : Nat) : LSpec T := mkSpec T ⟨[], [0, 1, 7, 8], []⟩ slices_IndexFunc_impl_Tank_impl_Tank__impl_tanksOk_1_2_sv slices_IndexFunc_impl_Tank_impl_Tank__impl_tanksOk_1_2_so (List STank × Int) (Int) slices_IndexFunc_impl_Tank_impl_Tank__impl_tanksOk_1_2_emb slices_IndexFunc_impl_Tank_impl_Tank__impl_tanksOk_1_2_prj (slices_IndexFunc_impl_Tank_impl_Tank__impl_tanksOk_1_2_b n)
noncomputable def slices_IndexFunc_impl_Tank_impl_Tank__impl_tanksOk_1_2_c : Code := ((loopCodes slices_IndexFunc_impl_Tank_impl_Tank__impl_tanksOk_1_code)[0]?).getD .skip
def slices_IndexFunc_impl_Tank_impl_Tank__impl_tanksOk_1_ann : Ann := fun id => bif Nat.beq id 3000002 then some ⟨[], [], []⟩ else bif Nat.beq id 2000002 then some ⟨[], [4], []⟩ else none
def slices_IndexFunc_impl_Tank_impl_Tank__impl_tanksOk_1_Ls (n : Nat) : Nat → Option (LSpec T) := fun id => bif Nat.beq id 2 then some (slices_IndexFunc_impl_Tank_impl_Tank__impl_tanksOk_1_2_sp n) else none
theorem slices_IndexFunc_impl_Tank_impl_Tank__impl_tanksOk_1_2_le (n : Nat) : LoopEq (T := T) (Phi n 24) (slices_IndexFunc_impl_Tank_impl_Tank__impl_tanksOk_1_Ls n) slices_IndexFunc_impl_Tank_impl_Tank__impl_tanksOk_1_ann n slices_IndexFunc_impl_Tank_impl_Tank__impl_tanksOk_1_2_c (slices_IndexFunc_impl_Tank_impl_Tank__impl_tanksOk_1_2_sp n) := ⟨mkSpec_dec (fun y => rfl), fun c x => by kernel_rfl, fun K J c x => by kernel_rfl⟩
theorem slices_IndexFunc_impl_Tank_impl_Tank__impl_tanksOk_1_tie (n : Nat) (s0 : List STank) : evF (T := T) (Phi n 24) (slices_IndexFunc_impl_Tank_impl_Tank__impl_tanksOk_1_Ls n) slices_IndexFunc_impl_Tank_impl_Tank__impl_tanksOk_1_ann n Try.f235 (sg 235) [vA T 154 s0, .fn 180 []] slices_IndexFunc_impl_Tank_impl_Tank__impl_tanksOk_1_dec = slices_IndexFunc_impl_Tank_impl_Tank__impl_tanksOk_1 n s0 := by kernel_rfl
theorem slices_IndexFunc_impl_Tank_impl_Tank__impl_tanksOk_1_lo (n : Nat) : LoopsOk (T := T) (Phi n 24) (slices_IndexFunc_impl_Tank_impl_Tank__impl_tanksOk_1_Ls n) slices_IndexFunc_impl_Tank_impl_Tank__impl_tanksOk_1_ann n slices_IndexFunc_impl_Tank_impl_Tank__impl_tanksOk_1_code := loopsOk_all (cs := [slices_IndexFunc_impl_Tank_impl_Tank__impl_tanksOk_1_2_c]) (by kernel_rfl) ⟨⟨_, by kernel_rfl, slices_IndexFunc_impl_Tank_impl_Tank__impl_tanksOk_1_2_le n⟩, trivial⟩
theorem slices_IndexFunc_impl_Tank_impl_Tank__impl_tanksOk_1_ok (n : Nat) : EntOk Try.prog (ents n) (slices_IndexFunc_impl_Tank_impl_Tank__impl_tanksOk_1_ent n) := by
  intro hs ar y hg h
  replace h : slices_IndexFunc_impl_Tank_impl_Tank__impl_tanksOk_1_D n ar = some y := h
  unfold slices_IndexFunc_impl_Tank_impl_Tank__impl_tanksOk_1_D at h
  split at h
  · obtain ⟨s0, qh0, h⟩ := obind_some h
    rw [argV_eq ok qh0] at hg ⊢
    cases (show [_] = [180] from natsEq_eq hg)
    exact call_of (phiE_nat _ _) hs ok mixed Try.func235 (c := slices_IndexFunc_impl_Tank_impl_Tank__impl_tanksOk_1_code) (by kernel_rfl) (slices_IndexFunc_impl_Tank_impl_Tank__impl_tanksOk_1_lo n) (by kernel_rfl) (by kernel_rfl) (by kernel_rfl) slices_IndexFunc_impl_Tank_impl_Tank__impl_tanksOk_1_de ((slices_IndexFunc_impl_Tank_impl_Tank__impl_tanksOk_1_tie n s0).trans h)
  · cases h
noncomputable def slices_ContainsFunc_impl_Tank_impl_Tank__impl_tanksOk_1_code : Code := match Try.f179.body with | some c => c | none => .skip
def slices_ContainsFunc_impl_Tank_impl_Tank__impl_tanksOk_1_ann : Ann := fun id => none
def slices_ContainsFunc_impl_Tank_impl_Tank__impl_tanksOk_1_Ls (n : Nat) : Nat → Option (LSpec T) := fun id => none
theorem slices_ContainsFunc_impl_Tank_impl_Tank__impl_tanksOk_1_tie (n : Nat) (s0 : List STank) : evF (T := T) (Phi n 25) (slices_ContainsFunc_impl_Tank_impl_Tank__impl_tanksOk_1_Ls n) slices_ContainsFunc_impl_Tank_impl_Tank__impl_tanksOk_1_ann n Try.f179 (sg 179) [vA T 154 s0, .fn 180 []] slices_ContainsFunc_impl_Tank_impl_Tank__impl_tanksOk_1_dec = slices_ContainsFunc_impl_Tank_impl_Tank__impl_tanksOk_1 n s0 := by kernel_rfl
theorem slices_ContainsFunc_impl_Tank_impl_Tank__impl_tanksOk_1_lo (n : Nat) : LoopsOk (T := T) (Phi n 25) (slices_ContainsFunc_impl_Tank_impl_Tank__impl_tanksOk_1_Ls n) slices_ContainsFunc_impl_Tank_impl_Tank__impl_tanksOk_1_ann n slices_ContainsFunc_impl_Tank_impl_Tank__impl_tanksOk_1_code := loopsOk_all (cs := []) (by kernel_rfl) trivial
theorem slices_ContainsFunc_impl_Tank_impl_Tank__impl_tanksOk_1_ok (n : Nat) : EntOk Try.prog (ents n) (slices_ContainsFunc_impl_Tank_impl_Tank__impl_tanksOk_1_ent n) := by
  intro hs ar y hg h
  replace h : slices_ContainsFunc_impl_Tank_impl_Tank__impl_tanksOk_1_D n ar = some y := h
  unfold slices_ContainsFunc_impl_Tank_impl_Tank__impl_tanksOk_1_D at h
  split at h
  · obtain ⟨s0, qh0, h⟩ := obind_some h
    rw [argV_eq ok qh0] at hg ⊢
    cases (show [_] = [180] from natsEq_eq hg)
    exact call_of (phiE_nat _ _) hs ok mixed Try.func179 (c := slices_ContainsFunc_impl_Tank_impl_Tank__impl_tanksOk_1_code) (by kernel_rfl) (slices_ContainsFunc_impl_Tank_impl_Tank__impl_tanksOk_1_lo n) (by kernel_rfl) (by kernel_rfl) (by kernel_rfl) slices_ContainsFunc_impl_Tank_impl_Tank__impl_tanksOk_1_de ((slices_ContainsFunc_impl_Tank_impl_Tank__impl_tanksOk_1_tie n s0).trans h)
  · cases h
noncomputable def impl_tanksOk_code : Code := match Try.f91.body with | some c => c | none => .skip
def impl_tanksOk_ann : Ann := fun id => none
def impl_tanksOk_Ls (n : Nat) : Nat → Option (LSpec T) := fun id => none
theorem impl_tanksOk_tie (n : Nat) (tanks0 : List STank) : evF (T := T) (Phi n 26) (impl_tanksOk_Ls n) impl_tanksOk_ann n Try.f91 (sg 91) [vA T 154 tanks0] impl_tanksOk_dec = impl_tanksOk n tanks0 := by kernel_rfl
theorem impl_tanksOk_lo (n : Nat) : LoopsOk (T := T) (Phi n 26) (impl_tanksOk_Ls n) impl_tanksOk_ann n impl_tanksOk_code := loopsOk_all (cs := []) (by kernel_rfl) trivial
theorem impl_tanksOk_ok (n : Nat) : EntOk Try.prog (ents n) (impl_tanksOk_ent n) := by
  intro hs ar y hg h
  replace h : impl_tanksOk_D n ar = some y := h
  unfold impl_tanksOk_D at h
  replace h := ocons_some h
  obtain ⟨a0, r0, rfl, h⟩ := h
  replace h := onil_some h
  obtain ⟨rfl, h⟩ := h
  obtain ⟨tanks0, qh0, h⟩ := obind_some h
  rw [argV_eq ok qh0]
  exact call_of (phiE_nat _ _) hs ok mixed Try.func91 (c := impl_tanksOk_code) (by kernel_rfl) (impl_tanksOk_lo n) (by kernel_rfl) (by kernel_rfl) (by kernel_rfl) impl_tanksOk_de ((impl_tanksOk_tie n tanks0).trans h)
noncomputable def impl_Plane_1_code : Code := match Try.f236.body with | some c => c | none => .skip
def impl_Plane_1_ann : Ann := fun id => none
def impl_Plane_1_Ls (n : Nat) : Nat → Option (LSpec T) := fun id => none
theorem impl_Plane_1_tie (n : Nat) (a0 : Int) (b1 : Int) : evF (T := T) (Phi n 27) (impl_Plane_1_Ls n) impl_Plane_1_ann n Try.f236 (sg 236) [vA T 3 a0, vA T 3 b1] impl_Plane_1_dec = impl_Plane_1 n a0 b1 := by kernel_rfl
theorem impl_Plane_1_lo (n : Nat) : LoopsOk (T := T) (Phi n 27) (impl_Plane_1_Ls n) impl_Plane_1_ann n impl_Plane_1_code := loopsOk_all (cs := []) (by kernel_rfl) trivial
theorem impl_Plane_1_ok (n : Nat) : EntOk Try.prog (ents n) (impl_Plane_1_ent n) := by
  intro hs ar y hg h
  replace h : impl_Plane_1_D n ar = some y := h
  unfold impl_Plane_1_D at h
  replace h := ocons_some h
  obtain ⟨a0, r0, rfl, h⟩ := h
  replace h := ocons_some h
  obtain ⟨a1, r1, rfl, h⟩ := h
  replace h := onil_some h
  obtain ⟨rfl, h⟩ := h
  obtain ⟨a0, qh0, h⟩ := obind_some h
  obtain ⟨b1, qh1, h⟩ := obind_some h
  rw [argV_eq ok qh0, argV_eq ok qh1]
  exact call_of (phiE_nat _ _) hs ok mixed Try.func236 (c := impl_Plane_1_code) (by kernel_rfl) (impl_Plane_1_lo n) (by kernel_rfl) (by kernel_rfl) (by kernel_rfl) impl_Plane_1_de ((impl_Plane_1_tie n a0 b1).trans h)
noncomputable def impl_strips__impl_Plane_1_code : Code := match Try.f184.body with | some c => c | none => .skip
def impl_strips__impl_Plane_1_3_sv : List Sv := [.one (.int .i64), .one (.fn 236 []), .one (.ptr 24 0 0), .one (.int .i64), .one (.int .i64), .one (.int .i64)]
def impl_strips__impl_Plane_1_3_so : List So := [.var [.int .i64, .int .i64, .arr 55]]
def impl_strips__impl_Plane_1_3_emb (c : Int × Int × SHull) (x : Int × Int) : EVs T impl_strips__impl_Plane_1_3_sv × EOs T impl_strips__impl_Plane_1_3_so := ((c.1, (), (), x.1, c.2.1, x.2, ()), ((c.2.2.Step, c.2.2.Rise, c.2.2.Half, ()), ()))
def impl_strips__impl_Plane_1_3_prj (y : EVs T impl_strips__impl_Plane_1_3_sv × EOs T impl_strips__impl_Plane_1_3_so) : (Int × Int × SHull) × (Int × Int) := ((y.1.1, y.1.2.2.2.2.1, ((⟨y.2.1.1, y.2.1.2.1, y.2.1.2.2.1⟩ : SHull) : SHull)), (y.1.2.2.2.1, y.1.2.2.2.2.2.1))
def impl_strips__impl_Plane_1_3_b (n : Nat) {R : Type} (K : Ex → Sm.St T → Option R) (c : Int × Int × SHull) (x : Int × Int) (J : (Int × Int) → Option R) : Option R :=
  impl_strips__impl_Plane_1_L3 n (fun (y0 : Int) => K (.exit 0) (stOf (T := T) [7] [] [.one (.int .i64)] [] (y0, ()) ())) (fun z0 z1 => J (z0, z1)) c.1 x.1 c.2.1 x.2 c.2.2
def impl_strips__impl_Plane_1_3_sp (n : Nat) : LSpec T := mkSpec T ⟨[], [1, 2, 3, 7, 12, 13], [24]⟩ impl_strips__impl_Plane_1_3_sv impl_strips__impl_Plane_1_3_so (Int × Int × SHull) (Int × Int) impl_strips__impl_Plane_1_3_emb impl_strips__impl_Plane_1_3_prj (impl_strips__impl_Plane_1_3_b n)
noncomputable def impl_strips__impl_Plane_1_3_c : Code := ((loopCodes impl_strips__impl_Plane_1_code)[0]?).getD .skip
def impl_strips__impl_Plane_1_ann : Ann := fun id => bif Nat.beq id 3000003 then some ⟨[], [7], []⟩ else none
def impl_strips__impl_Plane_1_Ls (n : Nat) : Nat → Option (LSpec T) := fun id => bif Nat.beq id 3 then some (impl_strips__impl_Plane_1_3_sp n) else none
theorem impl_strips__impl_Plane_1_3_le (n : Nat) : LoopEq (T := T) (Phi n 28) (impl_strips__impl_Plane_1_Ls n) impl_strips__impl_Plane_1_ann n impl_strips__impl_Plane_1_3_c (impl_strips__impl_Plane_1_3_sp n) := ⟨mkSpec_dec (fun y => rfl), fun c x => by kernel_rfl, fun K J c x => by kernel_rfl⟩
theorem impl_strips__impl_Plane_1_tie (n : Nat) (h0 : SHull) (w1 : Int) : evF (T := T) (Phi n 28) (impl_strips__impl_Plane_1_Ls n) impl_strips__impl_Plane_1_ann n Try.f184 (sg 184) [vA T 26 h0, vA T 3 w1, .fn 236 []] impl_strips__impl_Plane_1_dec = impl_strips__impl_Plane_1 n h0 w1 := by kernel_rfl
theorem impl_strips__impl_Plane_1_lo (n : Nat) : LoopsOk (T := T) (Phi n 28) (impl_strips__impl_Plane_1_Ls n) impl_strips__impl_Plane_1_ann n impl_strips__impl_Plane_1_code := loopsOk_all (cs := [impl_strips__impl_Plane_1_3_c]) (by kernel_rfl) ⟨⟨_, by kernel_rfl, impl_strips__impl_Plane_1_3_le n⟩, trivial⟩
theorem impl_strips__impl_Plane_1_ok (n : Nat) : EntOk Try.prog (ents n) (impl_strips__impl_Plane_1_ent n) := by
  intro hs ar y hg h
  replace h : impl_strips__impl_Plane_1_D n ar = some y := h
  unfold impl_strips__impl_Plane_1_D at h
  split at h
  · obtain ⟨h0, qh0, h⟩ := obind_some h
    obtain ⟨w1, qh1, h⟩ := obind_some h
    rw [argV_eq ok qh0, argV_eq ok qh1] at hg ⊢
    cases (show [_] = [236] from natsEq_eq hg)
    exact call_of (phiE_nat _ _) hs ok mixed Try.func184 (c := impl_strips__impl_Plane_1_code) (by kernel_rfl) (impl_strips__impl_Plane_1_lo n) (by kernel_rfl) (by kernel_rfl) (by kernel_rfl) impl_strips__impl_Plane_1_de ((impl_strips__impl_Plane_1_tie n h0 w1).trans h)
  · cases h
noncomputable def impl_Plane_code : Code := match Try.f183.body with | some c => c | none => .skip
def impl_Plane_ann : Ann := fun id => none
def impl_Plane_Ls (n : Nat) : Nat → Option (LSpec T) := fun id => none
theorem impl_Plane_tie (n : Nat) (h0 : SHull) (w1 : Int) : evF (T := T) (Phi n 29) (impl_Plane_Ls n) impl_Plane_ann n Try.f183 (sg 183) [vA T 26 h0, vA T 3 w1] impl_Plane_dec = impl_Plane n h0 w1 := by kernel_rfl
theorem impl_Plane_lo (n : Nat) : LoopsOk (T := T) (Phi n 29) (impl_Plane_Ls n) impl_Plane_ann n impl_Plane_code := loopsOk_all (cs := []) (by kernel_rfl) trivial
theorem impl_Plane_ok (n : Nat) : EntOk Try.prog (ents n) (impl_Plane_ent n) := by
  intro hs ar y hg h
  replace h : impl_Plane_D n ar = some y := h
  unfold impl_Plane_D at h
  replace h := ocons_some h
  obtain ⟨a0, r0, rfl, h⟩ := h
  replace h := ocons_some h
  obtain ⟨a1, r1, rfl, h⟩ := h
  replace h := onil_some h
  obtain ⟨rfl, h⟩ := h
  obtain ⟨h0, qh0, h⟩ := obind_some h
  obtain ⟨w1, qh1, h⟩ := obind_some h
  rw [argV_eq ok qh0, argV_eq ok qh1]
  exact call_of (phiE_nat _ _) hs ok mixed Try.func183 (c := impl_Plane_code) (by kernel_rfl) (impl_Plane_lo n) (by kernel_rfl) (by kernel_rfl) (by kernel_rfl) impl_Plane_de ((impl_Plane_tie n h0 w1).trans h)
noncomputable def impl_Height4_code : Code := match Try.f93.body with | some c => c | none => .skip
def impl_Height4_5_sv : List Sv := [.one (.ptr 16 0 0), .one (.int .i64), .one (.int .i64), .one (.int .i64)]
def impl_Height4_5_so : List So := [.var [.int .i64, .int .i64, .arr 55]]
def impl_Height4_5_emb (c : Int × SHull) (x : Int × Int) : EVs T impl_Height4_5_sv × EOs T impl_Height4_5_so := (((), x.1, c.1, x.2, ()), ((c.2.Step, c.2.Rise, c.2.Half, ()), ()))
def impl_Height4_5_prj (y : EVs T impl_Height4_5_sv × EOs T impl_Height4_5_so) : (Int × SHull) × (Int × Int) := ((y.1.2.2.1, ((⟨y.2.1.1, y.2.1.2.1, y.2.1.2.2.1⟩ : SHull) : SHull)), (y.1.2.1, y.1.2.2.2.1))
def impl_Height4_5_b (n : Nat) {R : Type} (K : Ex → Sm.St T → Option R) (c : Int × SHull) (x : Int × Int) (J : (Int × Int) → Option R) : Option R :=
  impl_Height4_L5 n (fun (y0 : Int) => K (.exit 0) (stOf (T := T) [5] [] [.one (.int .i64)] [] (y0, ()) ())) (fun z0 z1 => J (z0, z1)) x.1 c.1 x.2 c.2
def impl_Height4_5_sp (n : Nat) : LSpec T := mkSpec T ⟨[], [2, 5, 11, 12], [16]⟩ impl_Height4_5_sv impl_Height4_5_so (Int × SHull) (Int × Int) impl_Height4_5_emb impl_Height4_5_prj (impl_Height4_5_b n)
noncomputable def impl_Height4_5_c : Code := ((loopCodes impl_Height4_code)[0]?).getD .skip
def impl_Height4_ann : Ann := fun id => bif Nat.beq id 3000005 then some ⟨[], [5], []⟩ else none
def impl_Height4_Ls (n : Nat) : Nat → Option (LSpec T) := fun id => bif Nat.beq id 5 then some (impl_Height4_5_sp n) else none
theorem impl_Height4_5_le (n : Nat) : LoopEq (T := T) (Phi n 30) (impl_Height4_Ls n) impl_Height4_ann n impl_Height4_5_c (impl_Height4_5_sp n) := ⟨mkSpec_dec (fun y => rfl), fun c x => by kernel_rfl, fun K J c x => by kernel_rfl⟩
theorem impl_Height4_tie (n : Nat) (h0 : SHull) (w1 : Int) : evF (T := T) (Phi n 30) (impl_Height4_Ls n) impl_Height4_ann n Try.f93 (sg 93) [vA T 26 h0, vA T 3 w1] impl_Height4_dec = impl_Height4 n h0 w1 := by kernel_rfl
theorem impl_Height4_lo (n : Nat) : LoopsOk (T := T) (Phi n 30) (impl_Height4_Ls n) impl_Height4_ann n impl_Height4_code := loopsOk_all (cs := [impl_Height4_5_c]) (by kernel_rfl) ⟨⟨_, by kernel_rfl, impl_Height4_5_le n⟩, trivial⟩
theorem impl_Height4_ok (n : Nat) : EntOk Try.prog (ents n) (impl_Height4_ent n) := by
  intro hs ar y hg h
  replace h : impl_Height4_D n ar = some y := h
  unfold impl_Height4_D at h
  replace h := ocons_some h
  obtain ⟨a0, r0, rfl, h⟩ := h
  replace h := ocons_some h
  obtain ⟨a1, r1, rfl, h⟩ := h
  replace h := onil_some h
  obtain ⟨rfl, h⟩ := h
  obtain ⟨h0, qh0, h⟩ := obind_some h
  obtain ⟨w1, qh1, h⟩ := obind_some h
  rw [argV_eq ok qh0, argV_eq ok qh1]
  exact call_of (phiE_nat _ _) hs ok mixed Try.func93 (c := impl_Height4_code) (by kernel_rfl) (impl_Height4_lo n) (by kernel_rfl) (by kernel_rfl) (by kernel_rfl) impl_Height4_de ((impl_Height4_tie n h0 w1).trans h)
noncomputable def impl_Inertia3_1_code : Code := match Try.f185.body with | some c => c | none => .skip
def impl_Inertia3_1_ann : Ann := fun id => none
def impl_Inertia3_1_Ls (n : Nat) : Nat → Option (LSpec T) := fun id => none
theorem impl_Inertia3_1_tie (n : Nat) (a0 : Int) (b1 : Int) : evF (T := T) (Phi n 31) (impl_Inertia3_1_Ls n) impl_Inertia3_1_ann n Try.f185 (sg 185) [vA T 3 a0, vA T 3 b1] impl_Inertia3_1_dec = impl_Inertia3_1 n a0 b1 := by kernel_rfl
theorem impl_Inertia3_1_lo (n : Nat) : LoopsOk (T := T) (Phi n 31) (impl_Inertia3_1_Ls n) impl_Inertia3_1_ann n impl_Inertia3_1_code := loopsOk_all (cs := []) (by kernel_rfl) trivial
theorem impl_Inertia3_1_ok (n : Nat) : EntOk Try.prog (ents n) (impl_Inertia3_1_ent n) := by
  intro hs ar y hg h
  replace h : impl_Inertia3_1_D n ar = some y := h
  unfold impl_Inertia3_1_D at h
  replace h := ocons_some h
  obtain ⟨a0, r0, rfl, h⟩ := h
  replace h := ocons_some h
  obtain ⟨a1, r1, rfl, h⟩ := h
  replace h := onil_some h
  obtain ⟨rfl, h⟩ := h
  obtain ⟨a0, qh0, h⟩ := obind_some h
  obtain ⟨b1, qh1, h⟩ := obind_some h
  rw [argV_eq ok qh0, argV_eq ok qh1]
  exact call_of (phiE_nat _ _) hs ok mixed Try.func185 (c := impl_Inertia3_1_code) (by kernel_rfl) (impl_Inertia3_1_lo n) (by kernel_rfl) (by kernel_rfl) (by kernel_rfl) impl_Inertia3_1_de ((impl_Inertia3_1_tie n a0 b1).trans h)
noncomputable def impl_strips__impl_Inertia3_1_code : Code := match Try.f184.body with | some c => c | none => .skip
def impl_strips__impl_Inertia3_1_3_sv : List Sv := [.one (.int .i64), .one (.fn 185 []), .one (.ptr 24 0 0), .one (.int .i64), .one (.int .i64), .one (.int .i64)]
def impl_strips__impl_Inertia3_1_3_so : List So := [.var [.int .i64, .int .i64, .arr 55]]
def impl_strips__impl_Inertia3_1_3_emb (c : Int × Int × SHull) (x : Int × Int) : EVs T impl_strips__impl_Inertia3_1_3_sv × EOs T impl_strips__impl_Inertia3_1_3_so := ((c.1, (), (), x.1, c.2.1, x.2, ()), ((c.2.2.Step, c.2.2.Rise, c.2.2.Half, ()), ()))
def impl_strips__impl_Inertia3_1_3_prj (y : EVs T impl_strips__impl_Inertia3_1_3_sv × EOs T impl_strips__impl_Inertia3_1_3_so) : (Int × Int × SHull) × (Int × Int) := ((y.1.1, y.1.2.2.2.2.1, ((⟨y.2.1.1, y.2.1.2.1, y.2.1.2.2.1⟩ : SHull) : SHull)), (y.1.2.2.2.1, y.1.2.2.2.2.2.1))
def impl_strips__impl_Inertia3_1_3_b (n : Nat) {R : Type} (K : Ex → Sm.St T → Option R) (c : Int × Int × SHull) (x : Int × Int) (J : (Int × Int) → Option R) : Option R :=
  impl_strips__impl_Inertia3_1_L3 n (fun (y0 : Int) => K (.exit 0) (stOf (T := T) [7] [] [.one (.int .i64)] [] (y0, ()) ())) (fun z0 z1 => J (z0, z1)) c.1 x.1 c.2.1 x.2 c.2.2
def impl_strips__impl_Inertia3_1_3_sp (n : Nat) : LSpec T := mkSpec T ⟨[], [1, 2, 3, 7, 12, 13], [24]⟩ impl_strips__impl_Inertia3_1_3_sv impl_strips__impl_Inertia3_1_3_so (Int × Int × SHull) (Int × Int) impl_strips__impl_Inertia3_1_3_emb impl_strips__impl_Inertia3_1_3_prj (impl_strips__impl_Inertia3_1_3_b n)
noncomputable def impl_strips__impl_Inertia3_1_3_c : Code := ((loopCodes impl_strips__impl_Inertia3_1_code)[0]?).getD .skip
def impl_strips__impl_Inertia3_1_ann : Ann := fun id => bif Nat.beq id 3000003 then some ⟨[], [7], []⟩ else none
def impl_strips__impl_Inertia3_1_Ls (n : Nat) : Nat → Option (LSpec T) := fun id => bif Nat.beq id 3 then some (impl_strips__impl_Inertia3_1_3_sp n) else none
theorem impl_strips__impl_Inertia3_1_3_le (n : Nat) : LoopEq (T := T) (Phi n 32) (impl_strips__impl_Inertia3_1_Ls n) impl_strips__impl_Inertia3_1_ann n impl_strips__impl_Inertia3_1_3_c (impl_strips__impl_Inertia3_1_3_sp n) := ⟨mkSpec_dec (fun y => rfl), fun c x => by kernel_rfl, fun K J c x => by kernel_rfl⟩
theorem impl_strips__impl_Inertia3_1_tie (n : Nat) (h0 : SHull) (w1 : Int) : evF (T := T) (Phi n 32) (impl_strips__impl_Inertia3_1_Ls n) impl_strips__impl_Inertia3_1_ann n Try.f184 (sg 184) [vA T 26 h0, vA T 3 w1, .fn 185 []] impl_strips__impl_Inertia3_1_dec = impl_strips__impl_Inertia3_1 n h0 w1 := by kernel_rfl
theorem impl_strips__impl_Inertia3_1_lo (n : Nat) : LoopsOk (T := T) (Phi n 32) (impl_strips__impl_Inertia3_1_Ls n) impl_strips__impl_Inertia3_1_ann n impl_strips__impl_Inertia3_1_code := loopsOk_all (cs := [impl_strips__impl_Inertia3_1_3_c]) (by kernel_rfl) ⟨⟨_, by kernel_rfl, impl_strips__impl_Inertia3_1_3_le n⟩, trivial⟩
theorem impl_strips__impl_Inertia3_1_ok (n : Nat) : EntOk Try.prog (ents n) (impl_strips__impl_Inertia3_1_ent n) := by
  intro hs ar y hg h
  replace h : impl_strips__impl_Inertia3_1_D n ar = some y := h
  unfold impl_strips__impl_Inertia3_1_D at h
  split at h
  · obtain ⟨h0, qh0, h⟩ := obind_some h
    obtain ⟨w1, qh1, h⟩ := obind_some h
    rw [argV_eq ok qh0, argV_eq ok qh1] at hg ⊢
    cases (show [_] = [185] from natsEq_eq hg)
    exact call_of (phiE_nat _ _) hs ok mixed Try.func184 (c := impl_strips__impl_Inertia3_1_code) (by kernel_rfl) (impl_strips__impl_Inertia3_1_lo n) (by kernel_rfl) (by kernel_rfl) (by kernel_rfl) impl_strips__impl_Inertia3_1_de ((impl_strips__impl_Inertia3_1_tie n h0 w1).trans h)
  · cases h
noncomputable def impl_Inertia3_code : Code := match Try.f94.body with | some c => c | none => .skip
def impl_Inertia3_ann : Ann := fun id => none
def impl_Inertia3_Ls (n : Nat) : Nat → Option (LSpec T) := fun id => none
theorem impl_Inertia3_tie (n : Nat) (h0 : SHull) (w1 : Int) : evF (T := T) (Phi n 33) (impl_Inertia3_Ls n) impl_Inertia3_ann n Try.f94 (sg 94) [vA T 26 h0, vA T 3 w1] impl_Inertia3_dec = impl_Inertia3 n h0 w1 := by kernel_rfl
theorem impl_Inertia3_lo (n : Nat) : LoopsOk (T := T) (Phi n 33) (impl_Inertia3_Ls n) impl_Inertia3_ann n impl_Inertia3_code := loopsOk_all (cs := []) (by kernel_rfl) trivial
theorem impl_Inertia3_ok (n : Nat) : EntOk Try.prog (ents n) (impl_Inertia3_ent n) := by
  intro hs ar y hg h
  replace h : impl_Inertia3_D n ar = some y := h
  unfold impl_Inertia3_D at h
  replace h := ocons_some h
  obtain ⟨a0, r0, rfl, h⟩ := h
  replace h := ocons_some h
  obtain ⟨a1, r1, rfl, h⟩ := h
  replace h := onil_some h
  obtain ⟨rfl, h⟩ := h
  obtain ⟨h0, qh0, h⟩ := obind_some h
  obtain ⟨w1, qh1, h⟩ := obind_some h
  rw [argV_eq ok qh0, argV_eq ok qh1]
  exact call_of (phiE_nat _ _) hs ok mixed Try.func94 (c := impl_Inertia3_code) (by kernel_rfl) (impl_Inertia3_lo n) (by kernel_rfl) (by kernel_rfl) (by kernel_rfl) impl_Inertia3_de ((impl_Inertia3_tie n h0 w1).trans h)
noncomputable def impl_size_code : Code := match Try.f123.body with | some c => c | none => .skip
def impl_size_ann : Ann := fun id => none
def impl_size_Ls (n : Nat) : Nat → Option (LSpec T) := fun id => none
theorem impl_size_tie (n : Nat) (n0 : Int) : evF (T := T) (Phi n 34) (impl_size_Ls n) impl_size_ann n Try.f123 (sg 123) [vA T 3 n0] impl_size_dec = impl_size n n0 := by kernel_rfl
theorem impl_size_lo (n : Nat) : LoopsOk (T := T) (Phi n 34) (impl_size_Ls n) impl_size_ann n impl_size_code := loopsOk_all (cs := []) (by kernel_rfl) trivial
theorem impl_size_ok (n : Nat) : EntOk Try.prog (ents n) (impl_size_ent n) := by
  intro hs ar y hg h
  replace h : impl_size_D n ar = some y := h
  unfold impl_size_D at h
  replace h := ocons_some h
  obtain ⟨a0, r0, rfl, h⟩ := h
  replace h := onil_some h
  obtain ⟨rfl, h⟩ := h
  obtain ⟨n0, qh0, h⟩ := obind_some h
  rw [argV_eq ok qh0]
  exact call_of (phiE_nat _ _) hs ok mixed Try.func123 (c := impl_size_code) (by kernel_rfl) (impl_size_lo n) (by kernel_rfl) (by kernel_rfl) (by kernel_rfl) impl_size_de ((impl_size_tie n n0).trans h)
noncomputable def impl_gcd_code : Code := match Try.f181.body with | some c => c | none => .skip
def impl_gcd_2_sv : List Sv := [.one (.int .i64), .one (.int .i64)]
def impl_gcd_2_so : List So := []
def impl_gcd_2_emb (c : Unit) (x : Int × Int) : EVs T impl_gcd_2_sv × EOs T impl_gcd_2_so := ((x.1, x.2, ()), ())
def impl_gcd_2_prj (y : EVs T impl_gcd_2_sv × EOs T impl_gcd_2_so) : Unit × (Int × Int) := ((), (y.1.1, y.1.2.1))
def impl_gcd_2_b (n : Nat) {R : Type} (K : Ex → Sm.St T → Option R) (c : Unit) (x : Int × Int) (J : (Int × Int) → Option R) : Option R :=
  impl_gcd_L2 n (fun (y0 : Int) => K (.exit 0) (stOf (T := T) [0] [] [.one (.int .i64)] [] (y0, ()) ())) (fun z0 z1 => J (z0, z1)) x.1 x.2
def impl_gcd_2_sp (n : Nat) : LSpec T := mkSpec T ⟨[], [0, 1], []⟩ impl_gcd_2_sv impl_gcd_2_so (Unit) (Int × Int) impl_gcd_2_emb impl_gcd_2_prj (impl_gcd_2_b n)
noncomputable def impl_gcd_2_c : Code := ((loopCodes impl_gcd_code)[0]?).getD .skip
def impl_gcd_ann : Ann := fun id => bif Nat.beq id 3000002 then some ⟨[], [0], []⟩ else none
def impl_gcd_Ls (n : Nat) : Nat → Option (LSpec T) := fun id => bif Nat.beq id 2 then some (impl_gcd_2_sp n) else none
theorem impl_gcd_2_le (n : Nat) : LoopEq (T := T) (Phi n 35) (impl_gcd_Ls n) impl_gcd_ann n impl_gcd_2_c (impl_gcd_2_sp n) := ⟨mkSpec_dec (fun y => rfl), fun c x => by kernel_rfl, fun K J c x => by kernel_rfl⟩
theorem impl_gcd_tie (n : Nat) (a0 : Int) (b1 : Int) : evF (T := T) (Phi n 35) (impl_gcd_Ls n) impl_gcd_ann n Try.f181 (sg 181) [vA T 3 a0, vA T 3 b1] impl_gcd_dec = impl_gcd n a0 b1 := by kernel_rfl
theorem impl_gcd_lo (n : Nat) : LoopsOk (T := T) (Phi n 35) (impl_gcd_Ls n) impl_gcd_ann n impl_gcd_code := loopsOk_all (cs := [impl_gcd_2_c]) (by kernel_rfl) ⟨⟨_, by kernel_rfl, impl_gcd_2_le n⟩, trivial⟩
theorem impl_gcd_ok (n : Nat) : EntOk Try.prog (ents n) (impl_gcd_ent n) := by
  intro hs ar y hg h
  replace h : impl_gcd_D n ar = some y := h
  unfold impl_gcd_D at h
  replace h := ocons_some h
  obtain ⟨a0, r0, rfl, h⟩ := h
  replace h := ocons_some h
  obtain ⟨a1, r1, rfl, h⟩ := h
  replace h := onil_some h
  obtain ⟨rfl, h⟩ := h
  obtain ⟨a0, qh0, h⟩ := obind_some h
  obtain ⟨b1, qh1, h⟩ := obind_some h
  rw [argV_eq ok qh0, argV_eq ok qh1]
  exact call_of (phiE_nat _ _) hs ok mixed Try.func181 (c := impl_gcd_code) (by kernel_rfl) (impl_gcd_lo n) (by kernel_rfl) (by kernel_rfl) (by kernel_rfl) impl_gcd_de ((impl_gcd_tie n a0 b1).trans h)
noncomputable def impl_fracOf_code : Code := match Try.f92.body with | some c => c | none => .skip
def impl_fracOf_ann : Ann := fun id => none
def impl_fracOf_Ls (n : Nat) : Nat → Option (LSpec T) := fun id => none
theorem impl_fracOf_tie (n : Nat) (num0 : Int) (den1 : Int) : evF (T := T) (Phi n 36) (impl_fracOf_Ls n) impl_fracOf_ann n Try.f92 (sg 92) [vA T 3 num0, vA T 3 den1] impl_fracOf_dec = impl_fracOf n num0 den1 := by kernel_rfl
theorem impl_fracOf_lo (n : Nat) : LoopsOk (T := T) (Phi n 36) (impl_fracOf_Ls n) impl_fracOf_ann n impl_fracOf_code := loopsOk_all (cs := []) (by kernel_rfl) trivial
theorem impl_fracOf_ok (n : Nat) : EntOk Try.prog (ents n) (impl_fracOf_ent n) := by
  intro hs ar y hg h
  replace h : impl_fracOf_D n ar = some y := h
  unfold impl_fracOf_D at h
  replace h := ocons_some h
  obtain ⟨a0, r0, rfl, h⟩ := h
  replace h := ocons_some h
  obtain ⟨a1, r1, rfl, h⟩ := h
  replace h := onil_some h
  obtain ⟨rfl, h⟩ := h
  obtain ⟨num0, qh0, h⟩ := obind_some h
  obtain ⟨den1, qh1, h⟩ := obind_some h
  rw [argV_eq ok qh0, argV_eq ok qh1]
  exact call_of (phiE_nat _ _) hs ok mixed Try.func92 (c := impl_fracOf_code) (by kernel_rfl) (impl_fracOf_lo n) (by kernel_rfl) (by kernel_rfl) (by kernel_rfl) impl_fracOf_de ((impl_fracOf_tie n num0 den1).trans h)
noncomputable def impl_Metacentre_code : Code := match Try.f18.body with | some c => c | none => .skip
def impl_Metacentre_7_sv : List Sv := [.one (.int .i64), .one (.ptr 32 0 0), .one (.ptr 64 0 0), .one (.int .i64), .one (.ptr 88 0 0), .one (.int .i64), .one (.arr 157), .one (.int .i64), .one (.int .i64)]
def impl_Metacentre_7_so : List So := [.var [.int .i64, .int .i64, .arr 55], .var [.int .i64, .int .i64], .var [.int .i64, .int .i64, .int .i64]]
def impl_Metacentre_7_emb (c : Int × Int × List STank × Int × SHull × SFrac × SLoad) (x : Int × Int) : EVs T impl_Metacentre_7_sv × EOs T impl_Metacentre_7_so := ((c.1, (), (), c.2.1, (), x.1, c.2.2.1, c.2.2.2.1, x.2, ()), ((c.2.2.2.2.1.Step, c.2.2.2.2.1.Rise, c.2.2.2.2.1.Half, ()), (c.2.2.2.2.2.1.Num, c.2.2.2.2.2.1.Den, ()), (c.2.2.2.2.2.2.Weight, c.2.2.2.2.2.2.MX, c.2.2.2.2.2.2.MZ, ()), ()))
def impl_Metacentre_7_prj (y : EVs T impl_Metacentre_7_sv × EOs T impl_Metacentre_7_so) : (Int × Int × List STank × Int × SHull × SFrac × SLoad) × (Int × Int) := ((y.1.1, y.1.2.2.2.1, y.1.2.2.2.2.2.2.1, y.1.2.2.2.2.2.2.2.1, ((⟨y.2.1.1, y.2.1.2.1, y.2.1.2.2.1⟩ : SHull) : SHull), ((⟨y.2.2.1.1, y.2.2.1.2.1⟩ : SFrac) : SFrac), ((⟨y.2.2.2.1.1, y.2.2.2.1.2.1, y.2.2.2.1.2.2.1⟩ : SLoad) : SLoad)), (y.1.2.2.2.2.2.1, y.1.2.2.2.2.2.2.2.2.1))
def impl_Metacentre_7_b (n : Nat) {R : Type} (K : Ex → Sm.St T → Option R) (c : Int × Int × List STank × Int × SHull × SFrac × SLoad) (x : Int × Int) (J : (Int × Int) → Option R) : Option R :=
  impl_Metacentre_L7 n (fun (y2 : Int) => K (.exit 0) (stOf (T := T) [1, 4, 8, 10, 11, 13] [32, 64, 88] [.one (.int .i64), .one (.ptr 32 0 0), .one (.ptr 64 0 0), .one (.int .i64), .one (.ptr 88 0 0), .one (.int .i64)] [.var [.int .i64, .int .i64, .arr 55], .var [.int .i64, .int .i64], .var [.int .i64, .int .i64, .int .i64]] (c.1, (), (), c.2.1, (), y2, ()) ((c.2.2.2.2.1.Step, c.2.2.2.2.1.Rise, c.2.2.2.2.1.Half, ()), (c.2.2.2.2.2.1.Num, c.2.2.2.2.2.1.Den, ()), (c.2.2.2.2.2.2.Weight, c.2.2.2.2.2.2.MX, c.2.2.2.2.2.2.MZ, ()), ()))) (fun z0 z1 => J (z0, z1)) c.1 c.2.1 x.1 c.2.2.1 c.2.2.2.1 x.2 c.2.2.2.2.1 c.2.2.2.2.2.1 c.2.2.2.2.2.2
def impl_Metacentre_7_sp (n : Nat) : LSpec T := mkSpec T ⟨[], [1, 4, 8, 10, 11, 13, 41, 42, 43], [32, 64, 88]⟩ impl_Metacentre_7_sv impl_Metacentre_7_so (Int × Int × List STank × Int × SHull × SFrac × SLoad) (Int × Int) impl_Metacentre_7_emb impl_Metacentre_7_prj (impl_Metacentre_7_b n)
noncomputable def impl_Metacentre_7_c : Code := ((loopCodes impl_Metacentre_code)[0]?).getD .skip
def impl_Metacentre_ann : Ann := fun id => bif Nat.beq id 3000007 then some ⟨[], [1, 4, 8, 10, 11, 13], [32, 64, 88]⟩ else none
def impl_Metacentre_Ls (n : Nat) : Nat → Option (LSpec T) := fun id => bif Nat.beq id 7 then some (impl_Metacentre_7_sp n) else none
theorem impl_Metacentre_7_le (n : Nat) : LoopEq (T := T) (Phi n 37) (impl_Metacentre_Ls n) impl_Metacentre_ann n impl_Metacentre_7_c (impl_Metacentre_7_sp n) := ⟨mkSpec_dec (fun y => rfl), fun c x => by kernel_rfl, fun K J c x => by kernel_rfl⟩
theorem impl_Metacentre_tie (n : Nat) (h0 : SHull) (w1 : Int) (list2 : List SMass) (tanks3 : List STank) : evF (T := T) (Phi n 37) (impl_Metacentre_Ls n) impl_Metacentre_ann n Try.f18 (sg 18) [vA T 26 h0, vA T 3 w1, vA T 32 list2, vA T 154 tanks3] impl_Metacentre_dec = impl_Metacentre n h0 w1 list2 tanks3 := by kernel_rfl
theorem impl_Metacentre_lo (n : Nat) : LoopsOk (T := T) (Phi n 37) (impl_Metacentre_Ls n) impl_Metacentre_ann n impl_Metacentre_code := loopsOk_all (cs := [impl_Metacentre_7_c]) (by kernel_rfl) ⟨⟨_, by kernel_rfl, impl_Metacentre_7_le n⟩, trivial⟩
theorem impl_Metacentre_ok (n : Nat) : EntOk Try.prog (ents n) (impl_Metacentre_ent n) := by
  intro hs ar y hg h
  replace h : impl_Metacentre_D n ar = some y := h
  unfold impl_Metacentre_D at h
  replace h := ocons_some h
  obtain ⟨a0, r0, rfl, h⟩ := h
  replace h := ocons_some h
  obtain ⟨a1, r1, rfl, h⟩ := h
  replace h := ocons_some h
  obtain ⟨a2, r2, rfl, h⟩ := h
  replace h := ocons_some h
  obtain ⟨a3, r3, rfl, h⟩ := h
  replace h := onil_some h
  obtain ⟨rfl, h⟩ := h
  obtain ⟨h0, qh0, h⟩ := obind_some h
  obtain ⟨w1, qh1, h⟩ := obind_some h
  obtain ⟨list2, qh2, h⟩ := obind_some h
  obtain ⟨tanks3, qh3, h⟩ := obind_some h
  rw [argV_eq ok qh0, argV_eq ok qh1, argV_eq ok qh2, argV_eq ok qh3]
  exact call_of (phiE_nat _ _) hs ok mixed Try.func18 (c := impl_Metacentre_code) (by kernel_rfl) (impl_Metacentre_lo n) (by kernel_rfl) (by kernel_rfl) (by kernel_rfl) impl_Metacentre_de ((impl_Metacentre_tie n h0 w1 list2 tanks3).trans h)
noncomputable def spec_l1In_code : Code := match Try.f100.body with | some c => c | none => .skip
def spec_l1In_ann : Ann := fun id => none
def spec_l1In_Ls (n : Nat) : Nat → Option (LSpec T) := fun id => none
theorem spec_l1In_tie (n : Nat) (x0 : Int) (a1 : Int) (b2 : Int) : evF (T := T) (Phi n 38) (spec_l1In_Ls n) spec_l1In_ann n Try.f100 (sg 100) [vA T 3 x0, vA T 3 a1, vA T 3 b2] spec_l1In_dec = spec_l1In n x0 a1 b2 := by kernel_rfl
theorem spec_l1In_lo (n : Nat) : LoopsOk (T := T) (Phi n 38) (spec_l1In_Ls n) spec_l1In_ann n spec_l1In_code := loopsOk_all (cs := []) (by kernel_rfl) trivial
theorem spec_l1In_ok (n : Nat) : EntOk Try.prog (ents n) (spec_l1In_ent n) := by
  intro hs ar y hg h
  replace h : spec_l1In_D n ar = some y := h
  unfold spec_l1In_D at h
  replace h := ocons_some h
  obtain ⟨a0, r0, rfl, h⟩ := h
  replace h := ocons_some h
  obtain ⟨a1, r1, rfl, h⟩ := h
  replace h := ocons_some h
  obtain ⟨a2, r2, rfl, h⟩ := h
  replace h := onil_some h
  obtain ⟨rfl, h⟩ := h
  obtain ⟨x0, qh0, h⟩ := obind_some h
  obtain ⟨a1, qh1, h⟩ := obind_some h
  obtain ⟨b2, qh2, h⟩ := obind_some h
  rw [argV_eq ok qh0, argV_eq ok qh1, argV_eq ok qh2]
  exact call_of (phiE_nat _ _) hs ok mixed Try.func100 (c := spec_l1In_code) (by kernel_rfl) (spec_l1In_lo n) (by kernel_rfl) (by kernel_rfl) (by kernel_rfl) spec_l1In_de ((spec_l1In_tie n x0 a1 b2).trans h)
noncomputable def spec_HullOk_code : Code := match Try.f189.body with | some c => c | none => .skip
def spec_HullOk_4_sv : List Sv := [.one (.ptr 8 0 0), .one (.int .i64)]
def spec_HullOk_4_so : List So := [.var [.int .i64, .int .i64, .arr 55]]
def spec_HullOk_4_emb (c : SHull) (x : Int) : EVs T spec_HullOk_4_sv × EOs T spec_HullOk_4_so := (((), x, ()), ((c.Step, c.Rise, c.Half, ()), ()))
def spec_HullOk_4_prj (y : EVs T spec_HullOk_4_sv × EOs T spec_HullOk_4_so) : SHull × Int := ((((⟨y.2.1.1, y.2.1.2.1, y.2.1.2.2.1⟩ : SHull) : SHull)), (y.1.2.1))
def spec_HullOk_4_b (n : Nat) {R : Type} (K : Ex → Sm.St T → Option R) (c : SHull) (x : Int) (J : Int → Option R) : Option R :=
  spec_HullOk_L4 n (K (.exit 0) (stOf (T := T) [] [] [] [] () ())) (fun (y0 : Bool) => K .ret (stOf (T := T) [2] [] [.one (.bool)] [] (y0, ()) ())) J x c
def spec_HullOk_4_sp (n : Nat) : LSpec T := mkSpec T ⟨[], [1, 3], [8]⟩ spec_HullOk_4_sv spec_HullOk_4_so (SHull) (Int) spec_HullOk_4_emb spec_HullOk_4_prj (spec_HullOk_4_b n)
noncomputable def spec_HullOk_4_c : Code := ((loopCodes spec_HullOk_code)[0]?).getD .skip
def spec_HullOk_9_sv : List Sv := [.one (.ptr 8 0 0), .one (.int .i64), .one (.int .i64)]
def spec_HullOk_9_so : List So := [.var [.int .i64, .int .i64, .arr 55]]
def spec_HullOk_9_emb (c : Int × SHull) (x : Int) : EVs T spec_HullOk_9_sv × EOs T spec_HullOk_9_so := (((), c.1, x, ()), ((c.2.Step, c.2.Rise, c.2.Half, ()), ()))
def spec_HullOk_9_prj (y : EVs T spec_HullOk_9_sv × EOs T spec_HullOk_9_so) : (Int × SHull) × Int := ((y.1.2.1, ((⟨y.2.1.1, y.2.1.2.1, y.2.1.2.2.1⟩ : SHull) : SHull)), (y.1.2.2.1))
def spec_HullOk_9_b (n : Nat) {R : Type} (K : Ex → Sm.St T → Option R) (c : Int × SHull) (x : Int) (J : Int → Option R) : Option R :=
  spec_HullOk_L9 n (K (.exit 2) (stOf (T := T) [1, 3] [8] [.one (.ptr 8 0 0), .one (.int .i64)] [.var [.int .i64, .int .i64, .arr 55]] ((), c.1, ()) ((c.2.Step, c.2.Rise, c.2.Half, ()), ()))) (fun (y0 : Bool) => K .ret (stOf (T := T) [2] [] [.one (.bool)] [] (y0, ()) ())) J c.1 x c.2
def spec_HullOk_9_sp (n : Nat) : LSpec T := mkSpec T ⟨[], [1, 3, 4], [8]⟩ spec_HullOk_9_sv spec_HullOk_9_so (Int × SHull) (Int) spec_HullOk_9_emb spec_HullOk_9_prj (spec_HullOk_9_b n)
noncomputable def spec_HullOk_9_c : Code := ((loopCodes spec_HullOk_code)[1]?).getD .skip
def spec_HullOk_ann : Ann := fun id => bif Nat.beq id 3000004 then some ⟨[], [], []⟩ else bif Nat.beq id 2000004 then some ⟨[], [2], []⟩ else bif Nat.beq id 5000009 then some ⟨[], [1, 3], [8]⟩ else bif Nat.beq id 2000009 then some ⟨[], [2], []⟩ else none
def spec_HullOk_Ls (n : Nat) : Nat → Option (LSpec T) := fun id => bif Nat.beq id 4 then some (spec_HullOk_4_sp n) else bif Nat.beq id 9 then some (spec_HullOk_9_sp n) else none
theorem spec_HullOk_4_le (n : Nat) : LoopEq (T := T) (Phi n 39) (spec_HullOk_Ls n) spec_HullOk_ann n spec_HullOk_4_c (spec_HullOk_4_sp n) := ⟨mkSpec_dec (fun y => rfl), fun c x => by kernel_rfl, fun K J c x => by kernel_rfl⟩
theorem spec_HullOk_9_le (n : Nat) : LoopEq (T := T) (Phi n 39) (spec_HullOk_Ls n) spec_HullOk_ann n spec_HullOk_9_c (spec_HullOk_9_sp n) := ⟨mkSpec_dec (fun y => rfl), fun c x => by kernel_rfl, fun K J c x => by kernel_rfl⟩
theorem spec_HullOk_tie (n : Nat) (h0 : SHull) : evF (T := T) (Phi n 39) (spec_HullOk_Ls n) spec_HullOk_ann n Try.f189 (sg 189) [vA T 26 h0] spec_HullOk_dec = spec_HullOk n h0 := by kernel_rfl
theorem spec_HullOk_lo (n : Nat) : LoopsOk (T := T) (Phi n 39) (spec_HullOk_Ls n) spec_HullOk_ann n spec_HullOk_code := loopsOk_all (cs := [spec_HullOk_4_c, spec_HullOk_9_c]) (by kernel_rfl) ⟨⟨_, by kernel_rfl, spec_HullOk_4_le n⟩, ⟨_, by kernel_rfl, spec_HullOk_9_le n⟩, trivial⟩
theorem spec_HullOk_ok (n : Nat) : EntOk Try.prog (ents n) (spec_HullOk_ent n) := by
  intro hs ar y hg h
  replace h : spec_HullOk_D n ar = some y := h
  unfold spec_HullOk_D at h
  replace h := ocons_some h
  obtain ⟨a0, r0, rfl, h⟩ := h
  replace h := onil_some h
  obtain ⟨rfl, h⟩ := h
  obtain ⟨h0, qh0, h⟩ := obind_some h
  rw [argV_eq ok qh0]
  exact call_of (phiE_nat _ _) hs ok mixed Try.func189 (c := spec_HullOk_code) (by kernel_rfl) (spec_HullOk_lo n) (by kernel_rfl) (by kernel_rfl) (by kernel_rfl) spec_HullOk_de ((spec_HullOk_tie n h0).trans h)
noncomputable def spec_l1Water_code : Code := match Try.f188.body with | some c => c | none => .skip
def spec_l1Water_ann : Ann := fun id => none
def spec_l1Water_Ls (n : Nat) : Nat → Option (LSpec T) := fun id => none
theorem spec_l1Water_tie (n : Nat) (h0 : SHull) (w1 : Int) : evF (T := T) (Phi n 40) (spec_l1Water_Ls n) spec_l1Water_ann n Try.f188 (sg 188) [vA T 26 h0, vA T 3 w1] spec_l1Water_dec = spec_l1Water n h0 w1 := by kernel_rfl
theorem spec_l1Water_lo (n : Nat) : LoopsOk (T := T) (Phi n 40) (spec_l1Water_Ls n) spec_l1Water_ann n spec_l1Water_code := loopsOk_all (cs := []) (by kernel_rfl) trivial
theorem spec_l1Water_ok (n : Nat) : EntOk Try.prog (ents n) (spec_l1Water_ent n) := by
  intro hs ar y hg h
  replace h : spec_l1Water_D n ar = some y := h
  unfold spec_l1Water_D at h
  replace h := ocons_some h
  obtain ⟨a0, r0, rfl, h⟩ := h
  replace h := ocons_some h
  obtain ⟨a1, r1, rfl, h⟩ := h
  replace h := onil_some h
  obtain ⟨rfl, h⟩ := h
  obtain ⟨h0, qh0, h⟩ := obind_some h
  obtain ⟨w1, qh1, h⟩ := obind_some h
  rw [argV_eq ok qh0, argV_eq ok qh1]
  exact call_of (phiE_nat _ _) hs ok mixed Try.func188 (c := spec_l1Water_code) (by kernel_rfl) (spec_l1Water_lo n) (by kernel_rfl) (by kernel_rfl) (by kernel_rfl) spec_l1Water_de ((spec_l1Water_tie n h0 w1).trans h)
noncomputable def spec_Strips2_code : Code := match Try.f97.body with | some c => c | none => .skip
def spec_Strips2_5_sv : List Sv := [.one (.int .i64), .one (.ptr 16 0 0), .one (.own 3000000 3 false), .one (.int .i64)]
def spec_Strips2_5_so : List So := [.var [.int .i64, .int .i64, .arr 55], .arr 3 false]
def spec_Strips2_5_emb (c : Int × SHull) (x : Int × List Int) : EVs T spec_Strips2_5_sv × EOs T spec_Strips2_5_so := ((c.1, (), (), x.1, ()), ((c.2.Step, c.2.Rise, c.2.Half, ()), x.2, ()))
def spec_Strips2_5_prj (y : EVs T spec_Strips2_5_sv × EOs T spec_Strips2_5_so) : (Int × SHull) × (Int × List Int) := ((y.1.1, ((⟨y.2.1.1, y.2.1.2.1, y.2.1.2.2.1⟩ : SHull) : SHull)), (y.1.2.2.2.1, y.2.2.1))
def spec_Strips2_5_b (n : Nat) {R : Type} (K : Ex → Sm.St T → Option R) (c : Int × SHull) (x : Int × List Int) (J : (Int × List Int) → Option R) : Option R :=
  spec_Strips2_L5 n (fun (y0 : List Int) => K (.exit 0) (stOf (T := T) [5] [3000000] [.one (.own 3000000 3 false)] [.arr 3 false] ((), ()) (y0, ()))) (fun z0 z1 => J (z0, z1)) c.1 x.1 c.2 x.2
def spec_Strips2_5_sp (n : Nat) : LSpec T := mkSpec T ⟨[((.reg 5), 3000000, 3)], [1, 2, 5, 6], [16, 3000000]⟩ spec_Strips2_5_sv spec_Strips2_5_so (Int × SHull) (Int × List Int) spec_Strips2_5_emb spec_Strips2_5_prj (spec_Strips2_5_b n)
noncomputable def spec_Strips2_5_c : Code := ((loopCodes spec_Strips2_code)[0]?).getD .skip
def spec_Strips2_9_sv : List Sv := [.one (.int .i64), .one (.ptr 16 0 0), .one (.own 3000000 3 false), .one (.int .i64), .one (.int .i64), .one (.int .i64)]
def spec_Strips2_9_so : List So := [.var [.int .i64, .int .i64, .arr 55], .arr 3 false]
def spec_Strips2_9_emb (c : Int × Int × SHull × List Int) (x : Int × Int) : EVs T spec_Strips2_9_sv × EOs T spec_Strips2_9_so := ((c.1, (), (), c.2.1, x.1, x.2, ()), ((c.2.2.1.Step, c.2.2.1.Rise, c.2.2.1.Half, ()), c.2.2.2, ()))
def spec_Strips2_9_prj (y : EVs T spec_Strips2_9_sv × EOs T spec_Strips2_9_so) : (Int × Int × SHull × List Int) × (Int × Int) := ((y.1.1, y.1.2.2.2.1, ((⟨y.2.1.1, y.2.1.2.1, y.2.1.2.2.1⟩ : SHull) : SHull), y.2.2.1), (y.1.2.2.2.2.1, y.1.2.2.2.2.2.1))
def spec_Strips2_9_b (n : Nat) {R : Type} (K : Ex → Sm.St T → Option R) (c : Int × Int × SHull × List Int) (x : Int × Int) (J : (Int × Int) → Option R) : Option R :=
  spec_Strips2_L9 n (fun (y2 : Int) => K (.exit 2) (stOf (T := T) [1, 2, 5, 6, 7] [16, 3000000] [.one (.int .i64), .one (.ptr 16 0 0), .one (.own 3000000 3 false), .one (.int .i64), .one (.int .i64)] [.var [.int .i64, .int .i64, .arr 55], .arr 3 false] (c.1, (), (), c.2.1, y2, ()) ((c.2.2.1.Step, c.2.2.1.Rise, c.2.2.1.Half, ()), c.2.2.2, ()))) (fun z0 z1 => J (z0, z1)) c.1 c.2.1 x.1 x.2 c.2.2.1 c.2.2.2
def spec_Strips2_9_sp (n : Nat) : LSpec T := mkSpec T ⟨[((.reg 5), 3000000, 3)], [1, 2, 5, 6, 7, 8], [16, 3000000]⟩ spec_Strips2_9_sv spec_Strips2_9_so (Int × Int × SHull × List Int) (Int × Int) spec_Strips2_9_emb spec_Strips2_9_prj (spec_Strips2_9_b n)
noncomputable def spec_Strips2_9_c : Code := ((loopCodes spec_Strips2_code)[1]?).getD .skip
def spec_Strips2_ann : Ann := fun id => bif Nat.beq id 3000005 then some ⟨[((.reg 5), 3000000, 3)], [5], [3000000]⟩ else bif Nat.beq id 5000009 then some ⟨[((.reg 5), 3000000, 3)], [1, 2, 5, 6, 7], [16, 3000000]⟩ else none
def spec_Strips2_Ls (n : Nat) : Nat → Option (LSpec T) := fun id => bif Nat.beq id 5 then some (spec_Strips2_5_sp n) else bif Nat.beq id 9 then some (spec_Strips2_9_sp n) else none
theorem spec_Strips2_5_le (n : Nat) : LoopEq (T := T) (Phi n 41) (spec_Strips2_Ls n) spec_Strips2_ann n spec_Strips2_5_c (spec_Strips2_5_sp n) := ⟨mkSpec_dec (fun y => rfl), fun c x => by kernel_rfl, fun K J c x => by kernel_rfl⟩
theorem spec_Strips2_9_le (n : Nat) : LoopEq (T := T) (Phi n 41) (spec_Strips2_Ls n) spec_Strips2_ann n spec_Strips2_9_c (spec_Strips2_9_sp n) := ⟨mkSpec_dec (fun y => rfl), fun c x => by kernel_rfl, fun K J c x => by kernel_rfl⟩
theorem spec_Strips2_tie (n : Nat) (h0 : SHull) (w1 : Int) : evF (T := T) (Phi n 41) (spec_Strips2_Ls n) spec_Strips2_ann n Try.f97 (sg 97) [vA T 26 h0, vA T 3 w1] spec_Strips2_dec = spec_Strips2 n h0 w1 := by kernel_rfl
theorem spec_Strips2_lo (n : Nat) : LoopsOk (T := T) (Phi n 41) (spec_Strips2_Ls n) spec_Strips2_ann n spec_Strips2_code := loopsOk_all (cs := [spec_Strips2_5_c, spec_Strips2_9_c]) (by kernel_rfl) ⟨⟨_, by kernel_rfl, spec_Strips2_5_le n⟩, ⟨_, by kernel_rfl, spec_Strips2_9_le n⟩, trivial⟩
theorem spec_Strips2_ok (n : Nat) : EntOk Try.prog (ents n) (spec_Strips2_ent n) := by
  intro hs ar y hg h
  replace h : spec_Strips2_D n ar = some y := h
  unfold spec_Strips2_D at h
  replace h := ocons_some h
  obtain ⟨a0, r0, rfl, h⟩ := h
  replace h := ocons_some h
  obtain ⟨a1, r1, rfl, h⟩ := h
  replace h := onil_some h
  obtain ⟨rfl, h⟩ := h
  obtain ⟨h0, qh0, h⟩ := obind_some h
  obtain ⟨w1, qh1, h⟩ := obind_some h
  rw [argV_eq ok qh0, argV_eq ok qh1]
  exact call_of (phiE_nat _ _) hs ok mixed Try.func97 (c := spec_Strips2_code) (by kernel_rfl) (spec_Strips2_lo n) (by kernel_rfl) (by kernel_rfl) (by kernel_rfl) spec_Strips2_de ((spec_Strips2_tie n h0 w1).trans h)
noncomputable def spec_l1Sum_code : Code := match Try.f96.body with | some c => c | none => .skip
def spec_l1Sum_3_sv : List Sv := [.one (.arr 3), .one (.int .i64), .one (.int .i64)]
def spec_l1Sum_3_so : List So := []
def spec_l1Sum_3_emb (c : List Int) (x : Int × Int) : EVs T spec_l1Sum_3_sv × EOs T spec_l1Sum_3_so := ((c, x.1, x.2, ()), ())
def spec_l1Sum_3_prj (y : EVs T spec_l1Sum_3_sv × EOs T spec_l1Sum_3_so) : List Int × (Int × Int) := ((y.1.1), (y.1.2.1, y.1.2.2.1))
def spec_l1Sum_3_b (n : Nat) {R : Type} (K : Ex → Sm.St T → Option R) (c : List Int) (x : Int × Int) (J : (Int × Int) → Option R) : Option R :=
  spec_l1Sum_L3 n (fun (y0 : Int) => K (.exit 0) (stOf (T := T) [3] [] [.one (.int .i64)] [] (y0, ()) ())) (fun z0 z1 => J (z0, z1)) c x.1 x.2
def spec_l1Sum_3_sp (n : Nat) : LSpec T := mkSpec T ⟨[], [0, 3, 4], []⟩ spec_l1Sum_3_sv spec_l1Sum_3_so (List Int) (Int × Int) spec_l1Sum_3_emb spec_l1Sum_3_prj (spec_l1Sum_3_b n)
noncomputable def spec_l1Sum_3_c : Code := ((loopCodes spec_l1Sum_code)[0]?).getD .skip
def spec_l1Sum_ann : Ann := fun id => bif Nat.beq id 3000003 then some ⟨[], [3], []⟩ else none
def spec_l1Sum_Ls (n : Nat) : Nat → Option (LSpec T) := fun id => bif Nat.beq id 3 then some (spec_l1Sum_3_sp n) else none
theorem spec_l1Sum_3_le (n : Nat) : LoopEq (T := T) (Phi n 42) (spec_l1Sum_Ls n) spec_l1Sum_ann n spec_l1Sum_3_c (spec_l1Sum_3_sp n) := ⟨mkSpec_dec (fun y => rfl), fun c x => by kernel_rfl, fun K J c x => by kernel_rfl⟩
theorem spec_l1Sum_tie (n : Nat) (list0 : List Int) : evF (T := T) (Phi n 42) (spec_l1Sum_Ls n) spec_l1Sum_ann n Try.f96 (sg 96) [vA T 55 list0] spec_l1Sum_dec = spec_l1Sum n list0 := by kernel_rfl
theorem spec_l1Sum_lo (n : Nat) : LoopsOk (T := T) (Phi n 42) (spec_l1Sum_Ls n) spec_l1Sum_ann n spec_l1Sum_code := loopsOk_all (cs := [spec_l1Sum_3_c]) (by kernel_rfl) ⟨⟨_, by kernel_rfl, spec_l1Sum_3_le n⟩, trivial⟩
theorem spec_l1Sum_ok (n : Nat) : EntOk Try.prog (ents n) (spec_l1Sum_ent n) := by
  intro hs ar y hg h
  replace h : spec_l1Sum_D n ar = some y := h
  unfold spec_l1Sum_D at h
  replace h := ocons_some h
  obtain ⟨a0, r0, rfl, h⟩ := h
  replace h := onil_some h
  obtain ⟨rfl, h⟩ := h
  obtain ⟨list0, qh0, h⟩ := obind_some h
  rw [argV_eq ok qh0]
  exact call_of (phiE_nat _ _) hs ok mixed Try.func96 (c := spec_l1Sum_code) (by kernel_rfl) (spec_l1Sum_lo n) (by kernel_rfl) (by kernel_rfl) (by kernel_rfl) spec_l1Sum_de ((spec_l1Sum_tie n list0).trans h)
noncomputable def spec_Volume2_code : Code := match Try.f20.body with | some c => c | none => .skip
def spec_Volume2_ann : Ann := fun id => none
def spec_Volume2_Ls (n : Nat) : Nat → Option (LSpec T) := fun id => none
theorem spec_Volume2_tie (n : Nat) (h0 : SHull) (w1 : Int) : evF (T := T) (Phi n 43) (spec_Volume2_Ls n) spec_Volume2_ann n Try.f20 (sg 20) [vA T 26 h0, vA T 3 w1] spec_Volume2_dec = spec_Volume2 n h0 w1 := by kernel_rfl
theorem spec_Volume2_lo (n : Nat) : LoopsOk (T := T) (Phi n 43) (spec_Volume2_Ls n) spec_Volume2_ann n spec_Volume2_code := loopsOk_all (cs := []) (by kernel_rfl) trivial
theorem spec_Volume2_ok (n : Nat) : EntOk Try.prog (ents n) (spec_Volume2_ent n) := by
  intro hs ar y hg h
  replace h : spec_Volume2_D n ar = some y := h
  unfold spec_Volume2_D at h
  replace h := ocons_some h
  obtain ⟨a0, r0, rfl, h⟩ := h
  replace h := ocons_some h
  obtain ⟨a1, r1, rfl, h⟩ := h
  replace h := onil_some h
  obtain ⟨rfl, h⟩ := h
  obtain ⟨h0, qh0, h⟩ := obind_some h
  obtain ⟨w1, qh1, h⟩ := obind_some h
  rw [argV_eq ok qh0, argV_eq ok qh1]
  exact call_of (phiE_nat _ _) hs ok mixed Try.func20 (c := spec_Volume2_code) (by kernel_rfl) (spec_Volume2_lo n) (by kernel_rfl) (by kernel_rfl) (by kernel_rfl) spec_Volume2_de ((spec_Volume2_tie n h0 w1).trans h)
noncomputable def laws_less_code : Code := match Try.f21.body with | some c => c | none => .skip
def laws_less_ann : Ann := fun id => none
def laws_less_Ls (n : Nat) : Nat → Option (LSpec T) := fun id => none
theorem laws_less_tie (n : Nat) (a0 : SFrac) (b1 : SFrac) : evF (T := T) (Phi n 44) (laws_less_Ls n) laws_less_ann n Try.f21 (sg 21) [vA T 34 a0, vA T 34 b1] laws_less_dec = laws_less n a0 b1 := by kernel_rfl
theorem laws_less_lo (n : Nat) : LoopsOk (T := T) (Phi n 44) (laws_less_Ls n) laws_less_ann n laws_less_code := loopsOk_all (cs := []) (by kernel_rfl) trivial
theorem laws_less_ok (n : Nat) : EntOk Try.prog (ents n) (laws_less_ent n) := by
  intro hs ar y hg h
  replace h : laws_less_D n ar = some y := h
  unfold laws_less_D at h
  replace h := ocons_some h
  obtain ⟨a0, r0, rfl, h⟩ := h
  replace h := ocons_some h
  obtain ⟨a1, r1, rfl, h⟩ := h
  replace h := onil_some h
  obtain ⟨rfl, h⟩ := h
  obtain ⟨a0, qh0, h⟩ := obind_some h
  obtain ⟨b1, qh1, h⟩ := obind_some h
  rw [argV_eq ok qh0, argV_eq ok qh1]
  exact call_of (phiE_nat _ _) hs ok mixed Try.func21 (c := laws_less_code) (by kernel_rfl) (laws_less_lo n) (by kernel_rfl) (by kernel_rfl) (by kernel_rfl) laws_less_de ((laws_less_tie n a0 b1).trans h)
noncomputable def laws_FnRaised_code : Code := match Try.f3.body with | some c => c | none => .skip
def laws_FnRaised_ann : Ann := fun id => none
def laws_FnRaised_Ls (n : Nat) : Nat → Option (LSpec T) := fun id => none
theorem laws_FnRaised_tie (n : Nat) (code0 : List Int) : evF (T := T) (Phi n 45) (laws_FnRaised_Ls n) laws_FnRaised_ann n Try.f3 (sg 3) [vA T 22 code0] laws_FnRaised_dec = laws_FnRaised n code0 := by kernel_rfl
theorem laws_FnRaised_lo (n : Nat) : LoopsOk (T := T) (Phi n 45) (laws_FnRaised_Ls n) laws_FnRaised_ann n laws_FnRaised_code := loopsOk_all (cs := []) (by kernel_rfl) trivial
theorem laws_FnRaised_ok (n : Nat) : EntOk Try.prog (ents n) (laws_FnRaised_ent n) := by
  intro hs ar y hg h
  replace h : laws_FnRaised_D n ar = some y := h
  unfold laws_FnRaised_D at h
  replace h := ocons_some h
  obtain ⟨a0, r0, rfl, h⟩ := h
  replace h := onil_some h
  obtain ⟨rfl, h⟩ := h
  obtain ⟨code0, qh0, h⟩ := obind_some h
  rw [argV_eq ok qh0]
  exact call_of (phiE_nat _ _) hs ok mixed Try.func3 (c := laws_FnRaised_code) (by kernel_rfl) (laws_FnRaised_lo n) (by kernel_rfl) (by kernel_rfl) (by kernel_rfl) laws_FnRaised_de ((laws_FnRaised_tie n code0).trans h)
theorem entsOk (n : Nat) : EntsOk Try.prog (ents n) (ents n) := ⟨laws_big_ok n, spec_l1New_ok n, spec_l1Byte_ok n, spec_l1Below_ok n, spec_l1Once_ok n, spec_l1DrawHull_ok n, spec_DrawRightHull_ok n, laws_at_ok n, impl_in_ok n, impl_all_1_ok n, slices_IndexFunc_int_int__impl_all_1_ok n, slices_ContainsFunc_int_int__impl_all_1_ok n, impl_all_ok n, impl_HullOk_ok n, impl_waterOk_ok n, impl_Strips2_ok n, impl_sumOf_ok n, impl_Volume2_ok n, impl_MassesOk_1_ok n, slices_IndexFunc_impl_Mass_impl_Mass__impl_MassesOk_1_ok n, slices_ContainsFunc_impl_Mass_impl_Mass__impl_MassesOk_1_ok n, impl_MassesOk_ok n, impl_LoadOf_ok n, impl_tanksOk_1_ok n, slices_IndexFunc_impl_Tank_impl_Tank__impl_tanksOk_1_ok n, slices_ContainsFunc_impl_Tank_impl_Tank__impl_tanksOk_1_ok n, impl_tanksOk_ok n, impl_Plane_1_ok n, impl_strips__impl_Plane_1_ok n, impl_Plane_ok n, impl_Height4_ok n, impl_Inertia3_1_ok n, impl_strips__impl_Inertia3_1_ok n, impl_Inertia3_ok n, impl_size_ok n, impl_gcd_ok n, impl_fracOf_ok n, impl_Metacentre_ok n, spec_l1In_ok n, spec_HullOk_ok n, spec_l1Water_ok n, spec_Strips2_ok n, spec_l1Sum_ok n, spec_Volume2_ok n, laws_less_ok n, laws_FnRaised_ok n, trivial⟩
theorem sem (n i : Nat) : SemOk (Phi n i) (CallOk Try.prog T) := phiE_ok (entsOk n) i
end Go.Sm.B3
